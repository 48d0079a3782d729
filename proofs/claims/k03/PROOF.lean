import PyProof.Rows.All
import Wide.All
import OpenK.AllK
import Wide.FinOn
import KE.KeyNested
import KE.DataFind
import HandS.Deep
import HandS.DictComp
import HandS.Iter
import HandS.ForMost
import HandS.Wide
import HandS.IsInst
import HandS.Style
import HandS.ForExc
import HandS.ExcOwn
import HandS.TryOnly
import HandS.SetKeys
import HandS.EndBits
import KE.DataCmp
import HandS.TupLe
import HandS.Text
import HandS.Strs
import HandS.TupAny
import HandS.CallSlots
import HandS.WordsDict
import PyProof.DictUpdate
import HandS.ExcIs
import KE.SortKeyHeap
import HandS.SortKw
import HandS.Defaults
import PySem.Challenge.RW_rulestead_k03_changes
set_option Elab.async false
set_option linter.all false
set_option maxRecDepth 100000
set_option  maxHeartbeats 4000000
/-! Ab0: dicts whose keys are nested tuples, as an object that is known by what is true of it; list.remove of data. -/
namespace Ab
open PySem PySem.Spec PyProof.Rows L2
abbrev NK := NestedKey
/-- what is true of the object at a -/
def NDict (P : Program) (w : World) (a : Addr) (kvs : List (NK × Addr × V)) (h : Heap) : Prop :=
  kvs.length ≤ sizeLine ∧ (a == sysModules) = false ∧ ∃ xs : List (NK × Addr × Value), Paired (fun p q => p.1 = q.1 ∧ p.2.1 = q.2.1 ∧ RelV p.2.2 q.2.2) kvs xs ∧
    ∃ o es ep, h.get? a = some o ∧ o.ExactDict ∧ o.data = .dict es ep ∧ es.toList = xs.map (entryOfKey (nestedKind P w)) ∧ (xs.map (·.1)).Nodup
def HN (P : Program) (w : World) (a : Addr) (kvs : List (NK × Addr × V)) : HO := .ext (NDict P w a kvs)
abbrev PN : List (NK × Addr × V) → List (NK × Addr × Value) → Prop := Paired fun p q => p.1 = q.1 ∧ p.2.1 = q.2.1 ∧ RelV p.2.2 q.2.2
def vN (kvs : List (NK × Addr × V)) (k : NK) : Option V := (kvs.find? fun x => decide (x.1 = k)).map (·.2.2)
def putN (kvs : List (NK × Addr × V)) (k : NK) (b : Addr) (v : V) : List (NK × Addr × V) :=
  if (vN kvs k).isSome then kvs.map fun x => if x.1 = k then (x.1, x.2.1, v) else x else kvs ++ [(k, b, v)]
theorem vN_cons (p : NK × Addr × V) (r : List (NK × Addr × V)) (k : NK) : vN (p :: r) k = if p.1 = k then some p.2.2 else vN r k := by
  unfold vN
  rw [List.find?_cons]
  by_cases e : p.1 = k <;> simp [e]
theorem atKey_cons (p : NK × Addr × Value) (r : List (NK × Addr × Value)) (k : NK) : atKey (p :: r) k = if p.1 = k then some p.2 else atKey r k := by
  unfold atKey
  rw [List.find?_cons]
  by_cases e : p.1 = k <;> simp [e]
theorem pn_val {kvs : List (NK × Addr × V)} {xs : List (NK × Addr × Value)} (r : PN kvs xs) (k : NK) : RelO (vN kvs k) ((atKey xs k).map (·.2)) := by
  induction r with
  | nil => exact True.intro
  | @cons p q ps qs h t ih =>
    obtain ⟨h1, _, h2⟩ := h
    rw [vN_cons, atKey_cons, ← h1]
    by_cases e : p.1 = k
    · rw [if_pos e, if_pos e]; exact h2
    · rw [if_neg e, if_neg e]; exact ih
theorem pn_some {kvs : List (NK × Addr × V)} {xs : List (NK × Addr × Value)} (r : PN kvs xs) (k : NK) : (vN kvs k).isSome = (atKey xs k).isSome := by
  have q := (pn_val r k).isSome_eq
  rw [Option.isSome_map] at q
  exact q
theorem pn_repl {kvs : List (NK × Addr × V)} {xs : List (NK × Addr × Value)} (r : PN kvs xs) (k : NK) {y : V} {u : Value} (ry : RelV y u) : PN (kvs.map fun x => if x.1 = k then (x.1, x.2.1, y) else x) (xs.map (putAt k u)) := by
  induction r with
  | nil => exact .nil
  | @cons p q ps qs h t ih =>
    rw [List.map_cons, List.map_cons]
    refine .cons ?_ ih
    obtain ⟨h1, h2, h3⟩ := h
    unfold putAt
    by_cases e : p.1 = k
    · rw [if_pos e, if_pos (h1.symm.trans e)]; exact ⟨h1, h2, ry⟩
    · rw [if_neg e, if_neg (fun z => e (h1.trans z))]; exact ⟨h1, h2, h3⟩
theorem pn_put {kvs : List (NK × Addr × V)} {xs : List (NK × Addr × Value)} (r : PN kvs xs) (k : NK) (b : Addr) {y : V} {u : Value} (ry : RelV y u) : PN (putN kvs k b y) (storedH xs k b u) := by
  unfold putN storedH
  rw [pn_some r k]
  by_cases q : (atKey xs k).isSome = true
  · rw [if_pos q, if_pos q]; exact pn_repl r k ry
  · rw [if_neg q, if_neg q]; exact Paired.snoc r ⟨rfl, rfl, ry⟩
theorem putN_len (kvs : List (NK × Addr × V)) (k : NK) (b : Addr) (v : V) : (putN kvs k b v).length ≤ kvs.length + 1 := by
  unfold putN
  split
  · rw [List.length_map]; omega
  · rw [List.length_append]; exact Nat.le_refl _
/-- its keys are data that stand -/
def KeyD (K : PySem.W.Frag) (H : Hp) (k : NK) (b : Addr) : Prop := Dp K H (.ref b) k.data ∧ k.depth ≤ 8
def KeysD (K : PySem.W.Frag) (H : Hp) (kvs : List (NK × Addr × V)) : Prop := ∀ p ∈ kvs, KeyD K H p.1 p.2.1
section
variable {X : Cx} {pins : List (Addr × Obj)} {σ : L2.St} {H : Hp} {s : Shared}
mutual
theorem nis (I : Inv X pins σ H s) : ∀ (k : NK) (v : V) (u : Value), Dp X.K H v k.data → RelV v u → NestedIs s.heap k u
  | .none, _, _, h, r => by
    rw [NestedKey.data] at h
    cases h
    cases r
    exact .none
  | .num i, _, _, h, r => by
    rw [NestedKey.data] at h
    cases h
    obtain ⟨t, rfl⟩ := r
    exact .int i t
  | .text x, _, _, h, r => by
    rw [NestedKey.data] at h
    cases h
    obtain ⟨t, rfl⟩ := r
    exact .text x t
  | .tup ks, _, _, h, r => by
    rw [NestedKey.data] at h
    cases h with
    | tup hs ha =>
      cases r
      obtain ⟨its, rv, ⟨o, ho, hc, n, hd⟩, _⟩ := I.tuple hs
      exact .tup ho hc hd (nisA I ks _ its ha rv)
theorem nisA (I : Inv X pins σ H s) : ∀ (ks : List NK) (vs : List V) (us : List Value), DpAll X.K H vs (NestedKey.datas ks) → Vals vs us → NestedAll s.heap ks us
  | [], _, _, h, r => by
    rw [NestedKey.datas] at h
    cases h
    cases r
    exact .nil
  | k :: ks, _, _, h, r => by
    rw [NestedKey.datas] at h
    cases h with
    | cons h1 h2 =>
      cases r with
      | cons r1 r2 => exact .cons (nis I k _ _ h1 r1) (nisA I ks _ _ h2 r2)
end
theorem nk_is (I : Inv X pins σ H s) {k : NK} {b : Addr} (h : KeyD X.K H k b) : (nestedKind X.prog X.w).is s.heap k b := ⟨nis I k _ _ h.1 rfl, h.2⟩
theorem nk_room {A : Around} (hu : A.units + 9 < cLine) : (nestedKind X.prog X.w).room A.in1 := by
  show A.in1.units + 8 < cLine
  rw [Around.in1_units]
  omega
theorem hn_rd {a : Addr} {kvs : List (NK × Addr × V)} (I : Inv X pins σ H s) (e : Rd H a (HN X.prog X.w a kvs)) (hk : KeysD X.K H kvs) : kvs.length ≤ sizeLine ∧ (a == sysModules) = false ∧ ∃ xs, PN kvs xs ∧ s.heap.DictOfH (nestedKind X.prog X.w) a xs := by
  obtain ⟨⟨z, y, xs, r, o, es, ep, h1, h2, h3, h4, h5⟩, _⟩ := (show ObjOk X.prog X.w H s.heap a (HN X.prog X.w a kvs) from e.ok I.hok)
  refine ⟨z, y, xs, r, o, es, ep, h1, h2, h3, h4, fun x hx => ?_, h5⟩
  have all : ∀ {l : List (NK × Addr × V)} {m : List (NK × Addr × Value)}, PN l m → KeysD X.K H l → ∀ x ∈ m, (nestedKind X.prog X.w).is s.heap x.1 x.2.1 := by
    intro l m q
    induction q with
    | nil => intro _ x hx; exact nomatch hx
    | @cons p q ps qs hq t ih =>
      intro hk x hx
      rcases List.mem_cons.mp hx with e | hx
      · subst e
        have := nk_is I (hk p (List.mem_cons_self ..))
        rw [← hq.1, ← hq.2.1]
        exact this
      · exact ih (fun p hp => hk p (List.mem_cons_of_mem _ hp)) x hx
  exact all r hk x hx
theorem hn_ok {P : Program} {w : World} {H' : Hp} {h' : Heap} {a : Addr} {kvs : List (NK × Addr × V)} {xs : List (NK × Addr × Value)} (z : kvs.length ≤ sizeLine) (hd : (a == sysModules) = false) (rel : PN kvs xs) (dd : h'.DictOfH (nestedKind P w) a xs) : ObjOk P w H' h' a (HN P w a kvs) := by
  obtain ⟨o, es, ep, h1, h2, h3, h4, _, h5⟩ := dd
  refine ⟨⟨z, hd, xs, rel, o, es, ep, h1, h2, h3, h4, h5⟩, ⟨o, h1⟩, fun g1 g2 ⟨a1, a2, ys, a3, o', es', ep', b1, b2, b3, b4, b5⟩ k => ⟨a1, a2, ys, a3, o', es', ep', k _ b1, b2, b3, b4, b5⟩⟩
end
/-- what the dict at a holds at the key y -/
def NGet (P : Program) (w : World) (K : PySem.W.Frag) (H : Hp) (a : Addr) (y : V) (r : Option V) : Prop := ∃ kvs k b, Rd H a (HN P w a kvs) ∧ KeysD K H kvs ∧ y = .ref b ∧ KeyD K H k b ∧ r = vN kvs k
def tNGet (P : Program) (w : World) (K : PySem.W.Frag) (td ty : TE) : TE := fun σ H Q => td σ H fun x H1 => ty σ H1 fun y H2 => ∃ a v, x = .ref a ∧ NGet P w K H2 a y (some v) ∧ Q v H2
def tNNotIn (P : Program) (w : World) (K : PySem.W.Frag) (ty td : TE) : TE := fun σ H Q => ty σ H fun y H1 => td σ H1 fun x H2 => ∃ a o, x = .ref a ∧ NGet P w K H2 a y o ∧ Q (.bl (!o.isSome)) H2
def tNGet1 (P : Program) (w : World) (K : PySem.W.Frag) (td ty : TE) : TE := fun σ H Q => td σ H fun x H1 => ∃ a, x = .ref a ∧ (∃ kvs, Rd H1 a (HN P w a kvs)) ∧ ty σ H1 fun y H2 => ∃ o, NGet P w K H2 a y o ∧ Q (o.getD .non) H2
section
variable {X : Cx} {pins : List (Addr × Obj)} {σ : L2.St} {H : Hp} {s : Shared} {a : Addr} {y v : V} {u r : Value} {o : Option V} {A : Around} {E : Value → Shared → Prop}
theorem n_getItem {Q : Value → Shared → Prop} (hu : A.units + 9 < cLine) (I : Inv X pins σ H s) (g : NGet X.prog X.w X.K H a y (some v)) (ry : RelV y u) (h : ∀ w' s', Inv X pins σ H s' → RelV v w' → Q w' s') :
    wpAny (model X.prog X.w) A (getItem (.ref a) u) Q E s := by
  obtain ⟨kvs, k, b, e, hk, ey, eb, l⟩ := g
  subst ey
  cases (show u = Value.ref b from ry)
  obtain ⟨z, hd, xs, rel, dd⟩ := hn_rd I e hk
  obtain ⟨w', hw, rw'⟩ := RelO.some_of (v := v) (o := (atKey xs k).map (·.2)) (by rw [l]; exact pn_val rel k)
  obtain ⟨p, hp, hp2⟩ := Option.map_eq_some_iff.mp hw
  refine wpAny_getItem_heap (nk_room (X := X) hu) (nk_is I eb) dd hp ?_
  rw [hp2]
  exact h w' _ (I.tok _) rw'
theorem n_notIn {Q : Value → Shared → Prop} (hu : A.units + 9 < cLine) (I : Inv X pins σ H s) (g : NGet X.prog X.w X.K H a y o) (ry : RelV y u) (h : ∀ s', Inv X pins σ H s' → Q (.bool (!o.isSome)) s') :
    wpAny (model X.prog X.w) A (compareOp .NotIn u (.ref a)) Q E s := by
  obtain ⟨kvs, k, b, e, hk, ey, eb, l⟩ := g
  subst ey
  cases (show u = Value.ref b from ry)
  obtain ⟨z, hd, xs, rel, dd⟩ := hn_rd I e hk
  refine wpAny_notIn_heap (nk_room (X := X) hu) (nk_is I eb) hd dd ?_
  rw [← pn_some rel k, ← l]
  exact h _ (I.tok _)
theorem n_get1 {Q : Value → Shared → Prop} (hu : A.units + 9 < cLine) (I : Inv X pins σ H s) (g : NGet X.prog X.w X.K H a y o) (ry : RelV y u) (h : ∀ w' s', Inv X pins σ H s' → RelV (o.getD .non) w' → Q w' s') :
    wpAny (model X.prog X.w) A (call (.builtin "dict.get") [.ref a, u]) Q E s := by
  obtain ⟨kvs, k, b, e, hk, ey, eb, l⟩ := g
  subst ey
  cases (show u = Value.ref b from ry)
  obtain ⟨z, hd, xs, rel, dd⟩ := hn_rd I e hk
  refine call_meetsIn PySem.F.slot_dict_get dd.typeIs PySem.F.entry_dict_get (PySem.F.args_dict_get_2 _ _) (meetsH_dict_get (nestedKind X.prog X.w) a b hd) ⟨nk_room (X := X) hu, k, xs, nk_is I eb, dd, h _ _ (I.tok _) ?_⟩
  rw [l]
  exact (pn_val rel k).getD rfl
theorem n_type {kvs : List (NK × Addr × V)} (I : Inv X pins σ H s) (e : Rd H a (HN X.prog X.w a kvs)) : s.TypeIs (.ref a) "dict" ∧ (∀ b, Value.ref a = .ref b → ∃ ob, s.heap.get? b = some ob ∧ ob.dict = none) := by
  obtain ⟨⟨z, y, xs, r, o, es, ep, h1, h2, h3, h4, h5⟩, _⟩ := (show ObjOk X.prog X.w H s.heap a (HN X.prog X.w a kvs) from e.ok I.hok)
  exact ⟨⟨o, h1, h2.1⟩, fun b q => by cases q; exact ⟨o, h1, h2.2.1⟩⟩
end
section
variable {X : Cx} {o i e value : Expr} {pos pos' tpos apos cpos : Pos} {td ty tv : TE}
theorem pe_nget (hu : X.A.units + 9 < cLine) (ho : PE X o td) (hi : PE X i ty) (hs : NoSl i) : PE X (.Subscript o i pos) (tNGet X.prog X.w X.K td ty) := by
  refine ⟨fun pins s σ H Q I h => ?_⟩
  refine subD_of PySem.F.slot_dict_getitem.lookup hs (thn (ho.run pins s σ H _ I h) fun u s1 ⟨x, H1, I1, rx, q1⟩ => thn (hi.run pins s1 σ H1 _ I1 q1) fun iv s2 ⟨y, H2, I2, ry, a, v, ex, g, q2⟩ => ?_)
  subst ex
  obtain rfl : u = Value.ref a := rx
  obtain ⟨kvs, _, _, er, _⟩ := id g
  exact ⟨(n_type I2 er).1, n_getItem hu I2 g ry fun w' s3 I3 rw' => ⟨v, H2, I3, rw', q2⟩⟩
theorem pc_nnotin (hu : X.A.units + 9 < cLine) (hi : PE X i ty) (ho : PE X o td) : PC X .NotIn i o (tNNotIn X.prog X.w X.K ty td) := by
  refine ⟨fun pins s σ H Q I h => ?_⟩
  refine thn (hi.run pins s σ H _ I h) fun iv s1 ⟨y, H1, I1, ry, q1⟩ => thn (ho.run pins s1 σ H1 _ I1 q1) fun u s2 ⟨x, H2, I2, rx, a, ov, ex, g, q2⟩ => ?_
  subst ex
  obtain rfl : u = Value.ref a := rx
  exact n_notIn hu I2 g ry fun s3 I3 => ⟨.bl (!ov.isSome), H2, I3, rfl, q2⟩
theorem pe_nget1 (hu : X.A.units + 9 < cLine) (ho : PE X o td) (he : PE X e ty) (m : M1 X o "get" apos e cpos) : PE X (.Call (.Attribute o "get" apos) [e] [] cpos) (tNGet1 X.prog X.w X.K td ty) := by
  refine ⟨fun pins s σ H Q I h => ?_⟩
  refine wpAny_Call_method m.base m.few m.line PySem.F.plainAttrs_dict PySem.F.slot_dict_get PySem.F.type_dict_get (thn (ho.run pins s σ H _ I h) fun u s1 ⟨x, H1, I1, rx, a, ex, ⟨kvs, d⟩, q1⟩ => ?_)
  subst ex
  obtain rfl : u = Value.ref a := rx
  obtain ⟨t1, t2⟩ := n_type I1 d
  refine ⟨t1, t2, ?_⟩
  rw [m.trees]
  refine Calls.callWith_builtin rfl (Calls.evalArgs_plain (Calls.spliced_cons (thn (he.run pins s1 σ H1 _ I1 q1) fun iv s2 ⟨y, H2, I2, ry, ov, g, q2⟩ => Calls.spliced_nil ?_)))
  exact n_get1 hu I2 g ry fun w' s3 I3 rw' => ⟨_, H2, I3, rw', q2⟩
end
/-! ### the keys walked -/
def ItN (P : Program) (w : World) (d : Addr) (o : Obj) (kvs : List (NK × Addr × V)) : It :=
  ⟨fun i H => H d = some (.frz o (HN P w d kvs)) ∧ i < kvs.length, fun i H x H' => H' = H ∧ ∃ k b v, kvs[i]? = some (k, b, v) ∧ x = .ref b, fun i H => H d = some (.frz o (HN P w d kvs)) ∧ kvs.length ≤ i⟩
theorem pn_len {kvs : List (NK × Addr × V)} {xs : List (NK × Addr × Value)} (r : PN kvs xs) : kvs.length = xs.length := Paired.length r
section
variable {X : Cx} {pins : List (Addr × Obj)} {σ : L2.St} {H : Hp} {s : Shared} {d : Addr} {o : Obj}
theorem frzN {kvs : List (NK × Addr × V)} (I : Inv X pins σ H s) (h : H d = some (.frz o (HN X.prog X.w d kvs))) :
    (d == sysModules) = false ∧ s.heap.get? d = some o ∧ o.ExactDict ∧ ∃ (es : Array DictEntry) (ep : Nat), o.data = .dict es ep ∧ es.size = kvs.length ∧
      ∀ (i : Nat) (k : NK) (b : Addr) (v : V), kvs[i]? = some (k, b, v) → ∃ en : DictEntry, es[i]? = some en ∧ en.key = .ref b := by
  obtain ⟨hd, ⟨z, hs, xs, pr, o', es, ep, ho, hx, hdt, he, _⟩, _⟩ := I.hok d _ h
  rw [hd] at ho
  cases ho
  refine ⟨hs, hd, hx, es, ep, hdt, ?_, fun i k b v e => ?_⟩
  · have l1 : es.size = xs.length := size_of_entries he
    have l2 := pn_len pr
    omega
  · obtain ⟨c, hc, e1, e2, _⟩ := paired_get pr e
    have q := entry_at he i
    rw [hc] at q
    refine ⟨_, q, ?_⟩
    show Value.ref c.2.1 = .ref b
    rw [← e2]
end
theorem turn_keysN {P : Program} {w : World} {K : PySem.W.Frag} {tg : Expr} {d : Addr} {o : Obj} {es : Array DictEntry} {ep : Nat} {kvs : List (NK × Addr × V)} (it : Addr) (hod : o.data = .dict es ep) : Turn P w K tg (ItN P w d o kvs) [it] it (fun i h => h.IsKeyIter it d i kvs.length ep) where
  mem := by simp
  obj := fun i h st b hb => by
    have e : b = it := by simpa using hb
    subst e
    obtain ⟨oi, e, c, dd⟩ := st
    exact ⟨oi, e, fun v z => by rw [dd] at z; cases z⟩
  keep := fun i h h' st k => st.at fun oi e => k it (by simp) oi e
  item := by
    intro X hP hw hK hc i pins s σ H E I hf st hg
    subst hP hw hK
    obtain ⟨hd, hi⟩ := hg
    obtain ⟨f0, f1, f2, f3, f4, f5⟩ := hf it (by simp)
    obtain ⟨hs, hgd, hx, es', ep', hdt, hsz, ent⟩ := frzN I hd
    obtain ⟨rfl, rfl⟩ := dict_ep hod hdt
    obtain ⟨⟨k, b, v⟩, hkv⟩ : ∃ p, kvs[i]? = some p := ⟨kvs[i], List.getElem?_eq_getElem hi⟩
    obtain ⟨en, hen, hkey⟩ := ent i k b v hkv
    refine next_key_item st hgd hdt hsz hen fun h' st' sb => ?_
    have I1 : Inv X pins σ H { s with heap := h' } := I.turned (t' := s.toks) (fun b ob hb e => (sb.2 b hb).trans e) f0 f1 f3 f4 f5
    obtain ⟨oi, e, c, dd⟩ := id st'
    exact ⟨en.key, rfl, go_of (s := { s with heap := h' }) e c dd (by decide) ⟨.ref b, H, I1, hkey, ⟨rfl, k, b, v, hkv, rfl⟩, st', fun b hb => (hf b hb).1⟩⟩
  done := by
    intro X hP hw hK hc i pins s σ H E I hf st hg
    subst hP hw hK
    obtain ⟨hd, hi⟩ := hg
    obtain ⟨f0, f1, f2, f3, f4, f5⟩ := hf it (by simp)
    obtain ⟨hs, hgd, hx, es', ep', hdt, hsz, ent⟩ := frzN I hd
    obtain ⟨rfl, rfl⟩ := dict_ep hod hdt
    exact next_key_end (I.ok.hd hc) st hgd hdt hsz hi fun h' eb => ⟨rfl, I.turned (t' := s.toks) (fun b ob hb e => eb b ob hb e) f0 f1 f3 f4 f5⟩
  self := fun A i s Q E st h => wpAny_pyIter_keyiter st h
/-- for k in d; the dict is locked -/
def iNKeys (P : Program) (w : World) (td : TE) : TI := fun σ H R => td σ H fun x H1 => ∃ d o kvs, x = .ref d ∧ H1 d = some (.frz o (HN P w d kvs)) ∧ R (ItN P w d o kvs) H1
theorem pi_nkeys {X : Cx} {tg e : Expr} {td : TE} (he : PE X e td) : PI X tg e (iNKeys X.prog X.w td) := by
  refine ⟨fun pins s σ H R I h => ?_⟩
  refine thn (he.run pins s σ H _ I h) fun u s1 ⟨x, H1, I1, rx, d, o, kvs, ex, hd, q⟩ => ?_
  subst ex
  obtain rfl : u = Value.ref d := rx
  obtain ⟨hs, hgd, hx, es, ep, hdt, hsz, ent⟩ := frzN I1 hd
  refine iter_keys hs hgd hx hdt (pi_one (tk := s1.toks) I1 _ (turn_keysN _ hdt) ⟨_, Heap.get?_push_size _ rfl, rfl, ?_⟩ q)
  rw [hsz] <;> rfl
/-! ### xs.remove(x) of data -/
def rRemD (K : PySem.W.Frag) : V → List V → Hp → VK → Prop := fun x xs H Q => ∃ (a : Addr) (ws : List V) (y : V) (d : PyData) (ds : List PyData) (j : Nat), x = V.ref a ∧ xs = [y] ∧ H a = some (.lst ws) ∧ DpAll K H ws ds ∧ Dp K H y d ∧
  SeqAt.shaped (.list ds) = true ∧ SeqAt.shaped d = true ∧ (∃ z, ds[j]? = some z ∧ PyData.eqv z d = true) ∧ (∀ (m : Nat) (z' : PyData), m < j → ds[m]? = some z' → PyData.eqv z' d = false) ∧ Q .non (upd H a (.lst (ws.eraseIdx j)))
theorem mt_remD {X : Cx} (hu : X.A.units + 65 < cLine) : MtR X "list.remove" (rRemD X.K) := by
  intro pins s σ H x xs v us Q I rx rxs h
  obtain ⟨a, ws, y, d, ds, j, rfl, rfl, hH, ha, hy, sl, sd, ⟨z, hz, hzj⟩, hno, q⟩ := h
  cases rx
  obtain ⟨uy, rfl, ry⟩ := rxs.one
  obtain ⟨bs, r1⟩ := Dp.reads I d y uy hy ry
  have hxs : PyData.canLayAll0 ds = true := SeqAt.canLay_of_shaped sl
  have hroom : X.A.units + 1 + min (PyData.depthAll ds) d.depth < cLine := room_in_shaped sd hu
  obtain ⟨hsz0, its, n, rv, hl, e0⟩ := I.lstM hH
  obtain ⟨as, h4⟩ := Dp.readsAll I ds _ its ha rv
  have hn : its.length = ds.length := SeqAt.ReadsAll.length ds its as h4
  have hmap : its.map (SeqAt.readOf s.heap) = ds := SeqAt.readsAll_map ds its as hxs h4
  obtain ⟨hjd, _⟩ := List.getElem?_eq_some_iff.mp hz
  have hjl : j < its.length := by omega
  have hj : j < its.toArray.size := by simpa using hjl
  have at_ : ∀ (m : Nat) (hm : m < its.toArray.size) (z' : PyData), ds[m]? = some z' → SeqAt.readOf s.heap its.toArray[m] = z' := by
    intro m hm z' hz'
    have hml : m < its.length := by simpa using hm
    rw [← hmap, List.getElem?_map, List.getElem?_eq_getElem hml] at hz'
    have e1 : SeqAt.readOf s.heap its[m] = z' := Option.some.inj (show some (SeqAt.readOf s.heap its[m]) = some z' from hz')
    simpa using e1
  have hsz : its.toArray.size ≤ sizeLine := by rw [List.size_toArray, ← hl]; exact hsz0
  refine call_meets PySem.F.slot_list_remove ⟨_, e0, rfl⟩ PySem.F.entry_list_remove (PySem.F.args_list_remove_2 _ _)
    (SeqAt.list_removeAt a its.toArray n none #[] uy (fun u => PyData.eqv (SeqAt.readOf s.heap u) d) j hj ?_ ?_ hsz) ⟨e0, SeqAt.items_eqAt (vs := its.toArray) (show ReadsAll s.heap its.toArray.toList ds as from h4) r1 hxs (SeqAt.canLay_of_shaped sd) hroom, ?_⟩
  · show PyData.eqv (SeqAt.readOf s.heap its.toArray[j]) d = true
    rw [at_ j hj z hz]
    exact hzj
  · intro m hm hmj
    have hmd : m < ds.length := by omega
    have hz' : ds[m]? = some ds[m] := List.getElem?_eq_getElem hmd
    show PyData.eqv (SeqAt.readOf s.heap its.toArray[m]) d = false
    rw [at_ m hm _ hz']
    exact hno m _ hmj hz'
  · refine ⟨.non, _, I.lset (its' := its.eraseIdx j) hH e0 ?_ (rv.eraseIdx j) ?_, rfl, q⟩
    · show its.toArray.eraseIdxIfInBounds j = (its.eraseIdx j).toArray
      rw [List.eraseIdxIfInBounds_toArray]
    · rw [List.length_eraseIdx]
      split <;> omega
/-! ### {k: v for x in ..}, the keys nested tuples -/
theorem hn_empty {P : Program} {w : World} {H : Hp} (h : Heap) (hb : sysModules < h.objs.size) : ObjOk P w H (h.push { cls := .type "dict", data := .dict #[] }) h.objs.size (HN P w h.objs.size []) :=
  ⟨⟨Nat.zero_le _, beq_eq_false_iff_ne.mpr (Ne.symm (Nat.ne_of_lt hb)), [], .nil, _, #[], 0, Heap.get?_push_size _ rfl, ⟨rfl, rfl, rfl⟩, rfl, rfl, List.nodup_nil⟩, ⟨_, Heap.get?_push_size _ rfl⟩,
    fun g1 g2 ⟨a1, a2, ys, a3, o', es', ep', b1, b2, b3, b4, b5⟩ k => ⟨a1, a2, ys, a3, o', es', ep', k _ b1, b2, b3, b4, b5⟩⟩
theorem n_dictSet {X : Cx} {pins : List (Addr × Obj)} {σ : L2.St} {H : Hp} {s : Shared} {E : Value → Shared → Prop} {D b : Addr} {kvs : List (NK × Addr × V)} {k : NK} {v : V} {u r : Value} {Q : Unit → Shared → Prop} (hu : X.A.units + 9 < cLine) (I : Inv X pins σ H s)
    (hD : H D = some (HN X.prog X.w D kvs)) (hk : KeysD X.K H kvs) (hb : KeyD X.K H k b) (hz : kvs.length < sizeLine) (ry : RelV (.ref b) u) (rv : RelV v r) (h : ∀ s', Inv X pins σ (upd H D (HN X.prog X.w D (putN kvs k b v))) s' → Q () s') : wpAny (model X.prog X.w) X.A (dictSet D u r) Q E s := by
  cases (show u = Value.ref b from ry)
  obtain ⟨z, hd, xs, rel, dd⟩ := hn_rd I (.inl hD) hk
  have hzv : xs.length ≤ sizeLine := by rw [← pn_len rel]; exact z
  have hl : (putN kvs k b v).length ≤ sizeLine := by have := putN_len kvs k b v; omega
  refine wpAny_dictSet_heap (hsz := hzv) (show (nestedKind X.prog X.w).room X.A from show X.A.units + 8 < cLine by omega) (nk_is I hb) dd fun h' dd' hs => h _ ?_
  have he : ∃ q, h'.get? D = some q := let ⟨q, _, _, hq, _⟩ := dd'; ⟨q, hq⟩
  exact d_write I (by rw [hD]; exact True.intro) hs he (hn_ok hl hd (pn_put rel k b rv) dd')
/-- a dict display over a walk: Emp the new dict at its place, Put what one more pair makes of the heap -/
def tGDc (Emp : Addr → HO) (Put : Addr → Hp → V → V → Hp → Prop) (wi : TI) (g : TG) (tt : TT) (tk tv : TE) (vs : List Nat) : TE := fun σ H Q =>
  wi σ H fun J H1 => ∀ D, H1 D = none → ∃ Φ : Nat → Nat → Hp → Prop, (∃ m, Φ 0 m (upd H1 D (Emp D))) ∧ ∀ i m H2, Φ i m H2 →
    (J.stop i H2 ∧ Q (.ref D) H2) ∨ (J.go i H2 ∧ ∀ x H3, J.yld i H2 x H3 → g x (wipe σ vs) H3 fun σ2 H4 => wipe σ2 vs = wipe σ vs ∧ tt σ2 H4 fun b H5 =>
      if b = true then tk σ2 H5 fun y H6 => tv σ2 H6 fun z H7 => ∃ H8, Put D H7 y z H8 ∧ ∃ m', m' < m ∧ Φ (i + 1) m' H8 else ∃ m', m' < m ∧ Φ (i + 1) m' H5)
/-- what stands of a walk within the block -/
structure Mid (Y : Cx) (fp : List Addr) (tn : Nat → Heap → Prop) (σ : L2.St) (i : Nat) (H : Hp) (s : Shared) : Prop where
  inv : Inv Y [] σ H s
  at_ : tn i s.heap
  fr : ∀ b ∈ fp, H b = none
theorem pe_gdc {X : Cx} {Emp : Addr → HO} {Put : Addr → Hp → V → V → Hp → Prop} {kx vx tg iter : Expr} {ifs : List Expr} {scope : Scope} {own : List (Str × Nat)} {pos : Pos} {wi : TI} {g : TG} {tt : TT} {tk tv : TE} (hc : X.calm = true) (hN : X.N.Nodup)
    (hemp : ∀ (H : Hp) (h : Heap), sysModules < h.objs.size → ObjOk X.prog X.w H (h.push { cls := .type "dict", data := .dict #[] }) h.objs.size (Emp h.objs.size))
    (hput : ∀ (Y : Cx), Y.prog = X.prog → Y.w = X.w → Y.K = X.K → Y.A = X.A → ∀ (pins : List (Addr × Obj)) (σ : L2.St) (H H' : Hp) (s : Shared) (D : Addr) (y z : V) (u r : Value) (Q : Unit → Shared → Prop) (E : Value → Shared → Prop), Inv Y pins σ H s → Put D H y z H' → RelV y u → RelV z r →
      (∀ s', Inv Y pins σ H' s' → Q () s') → wpAny (model Y.prog Y.w) Y.A (dictSet D u r) Q E s)
    (hi : PI X tg iter wi) (ok : BlkOk X.N X.env.scope scope own)
    (hg : ∀ (s : Shared) (H : Hp) (C : Addr) (cl : List (Str × Addr)) (fp : List Addr), PG (X.blk s H scope (compEnvC scope cl C X.env) fp) tg g)
    (ht : ∀ (s : Shared) (H : Hp) (C : Addr) (cl : List (Str × Addr)) (fp : List Addr), PTs (X.blk s H scope (compEnvC scope cl C X.env) fp) ifs tt)
    (hk : ∀ (s : Shared) (H : Hp) (C : Addr) (cl : List (Str × Addr)) (fp : List Addr), PE (X.blk s H scope (compEnvC scope cl C X.env) fp) kx tk)
    (hv : ∀ (s : Shared) (H : Hp) (C : Addr) (cl : List (Str × Addr)) (fp : List Addr), PE (X.blk s H scope (compEnvC scope cl C X.env) fp) vx tv) (hs : ∀ x, foldedSetIterable iter X.env x = pure x := by intro _; rfl) :
    PE X (.DictComp kx vx [⟨tg, iter, ifs, 0⟩] scope pos) (tGDc Emp Put wi g tt tk tv (own.map (·.2))) := by
  constructor
  intro pins s σ H Q I h
  rw [arm_eval_DictComp]
  have cells : ∀ y ∈ scope.names, y.2 = .free → ∃ c, X.env.cells.lookup y.1 = some c := fun y hy e => (ok.free y hy e).elim (fun k => I.ok.has _ (.inl k)) fun k => I.ok.has _ (.inr k)
  refine wpAny_comprehension_free rfl hs (closure_ok cells) ok.kind (fun y hy e => (ok.uniq y hy).trans (congrArg some e)) ?_
  refine thn (hi.run pins s σ H _ I h) fun xv s1 walk => thn walk fun itv s2 w2 => ?_
  obtain ⟨it, fp, tn, J, H2, rfl, I2, T, at0, out2, rest⟩ := w2
  refine wpAny_newObj_type (newEnv_comp ?_)
  obtain ⟨Φ, ⟨m0, w0⟩, step⟩ := rest s2.heap.objs.size (I2.hok.fresh (Nat.le_refl _))
  have lo : ∀ b ∈ fp, b < s2.heap.objs.size := fun b hb => let ⟨_, e, _⟩ := T.obj 0 _ at0 b hb; Heap.lt_size e
  have I3 := I2.laid (h' := s2.heap.push { cls := .type "dict", data := .dict #[] }) (t' := s2.toks) (fun b o e => Heap.get?_push_of_some _ e) (Nat.le_refl _) (hemp (upd H2 s2.heap.objs.size (Emp s2.heap.objs.size)) s2.heap I2.big)
  have at1 := T.keep 0 _ (s2.heap.push { cls := .type "dict", data := .dict #[] }) at0 fun b _ o e => Heap.get?_push_of_some _ e
  have out3 : ∀ b ∈ fp, FpOk X pins (upd H2 s2.heap.objs.size (Emp s2.heap.objs.size)) b := fun b hb => ⟨(upd_ne (Nat.ne_of_lt (lo b hb))).trans (out2 b hb).1, (out2 b hb).2⟩
  have lo3 : ∀ b ∈ fp, b < (s2.heap.push { cls := .type "dict", data := .dict #[] }).objs.size := fun b hb => by rw [Heap.size_push]; exact Nat.lt_succ_of_lt (lo b hb)
  generalize s2.heap.objs.size = D at *
  generalize upd H2 D (Emp D) = H3 at *
  have I4 := block_start I3 ok hN fun b hb => ⟨out3 b hb, lo3 b hb⟩
  generalize es3 : ({ s2 with heap := s2.heap.push { cls := .type "dict", data := .dict #[] }, toks := s2.toks } : Shared) = s3 at *
  have hh3 : s3.heap = s2.heap.push { cls := .type "dict", data := .dict #[] } := by rw [← es3]
  rw [← hh3] at at1
  have pg := hg s3 H3 s3.heap.objs.size (cellsFrom (s3.heap.objs.size + 1) scope.names (cloFrom X.env.cells scope.names [])) fp
  have pt := ht s3 H3 s3.heap.objs.size (cellsFrom (s3.heap.objs.size + 1) scope.names (cloFrom X.env.cells scope.names [])) fp
  have pk := hk s3 H3 s3.heap.objs.size (cellsFrom (s3.heap.objs.size + 1) scope.names (cloFrom X.env.cells scope.names [])) fp
  have pv := hv s3 H3 s3.heap.objs.size (cellsFrom (s3.heap.objs.size + 1) scope.names (cloFrom X.env.cells scope.names [])) fp
  change codeAny _ _ (.compStart (.DictComp kx vx [⟨tg, iter, ifs, 0⟩] scope pos) 0 (.ref it) (.ref D) (compEnvC scope (cellsFrom (s3.heap.objs.size + 1) scope.names (cloFrom X.env.cells scope.names [])) s3.heap.objs.size X.env)) (compPost (model X.prog X.w) X.A X.xe none (EP X pins σ Q) (.ref D) s3.heap.objs.size) _
  have eL : (compEnvC scope (cellsFrom (s3.heap.objs.size + 1) scope.names (cloFrom X.env.cells scope.names [])) s3.heap.objs.size X.env).locals = s3.heap.objs.size := rfl
  generalize compEnvC scope (cellsFrom (s3.heap.objs.size + 1) scope.names (cloFrom X.env.cells scope.names [])) s3.heap.objs.size X.env = ce at *
  have at4 := T.keep 0 _ (pushCells (s3.heap.push { cls := .type "dict", data := .dict #[] }) scope.names) at1 fun b _ o e => pushCells_keeps _ _ _ _ (Heap.get?_push_of_some _ e)
  have mid0 : Mid (X.blk s3 H3 scope ce fp) fp tn (wipe σ (own.map (·.2))) 0 H3 { s3 with heap := pushCells (s3.heap.push { cls := .type "dict", data := .dict #[] }) scope.names } := ⟨I4, at4, fun b hb => (out3 b hb).1⟩
  generalize ({ s3 with heap := pushCells (s3.heap.push { cls := .type "dict", data := .dict #[] }) scope.names } : Shared) = s4 at mid0 ⊢
  clear I4 at4
  have foot : ∀ {σ' : L2.St} {H' : Hp} {s' : Shared}, Inv (X.blk s3 H3 scope ce fp) [] σ' H' s' → (∀ b ∈ fp, H' b = none) → ∀ b ∈ fp, FpOk (X.blk s3 H3 scope ce fp) [] H' b := by
    intro σ' H' s' J' hn b hb
    have ex := J'.ok.exf b hb
    exact ⟨hn b hb, ex.1, J'.ok.exfs b hb, .inl hb, fun x c e => ex.2 x c e, fun p hp => nomatch (show p ∈ ([] : List (Addr × Obj)) from hp)⟩
  have run : codeAny (model X.prog X.w) X.A (.compLoop (.DictComp kx vx [⟨tg, iter, ifs, 0⟩] scope pos) 0 (.ref it) (.ref D) ce) (compPost (model X.prog X.w) X.A X.xe none (EP X pins σ Q) (.ref D) s3.heap.objs.size) s4 := by
    refine compLoop_anyD (fun n s' => ∃ i H', Mid (X.blk s3 H3 scope ce fp) fp tn (wipe σ (own.map (·.2))) i H' s' ∧ Φ i n H') ?_ m0 ⟨0, H3, mid0, w0⟩
    rintro n s5 ⟨i, H5, ⟨I5, at5, fr5⟩, w5⟩
    rcases step i n H5 w5 with ⟨stop, fin⟩ | ⟨go, one⟩
    · refine thnF (T.done (X.blk s3 H3 scope ce fp) rfl rfl rfl hc i [] s5 _ H5 (fun _ _ => False) I5 (foot I5 fr5) at5 stop) ?_
      rintro _ s6 ⟨rfl, I6⟩
      -- we are back
      have nC : H5 s3.heap.objs.size = none := eL ▸ I6.free
      have I7 : Inv X pins σ H5 s6 := I3.call' (ch := fp) I6.os I6.base I6.hok I6.bare fun b hb => let f := out3 b hb; ⟨f.2.2.2.1, f.2.1, f.2.2.2.2.1, f.2.2.2.2.2⟩
      obtain ⟨m, ns, _⟩ := I6.loc
      have ns : s6.heap.Ns ce.locals m := ns
      rw [eL] at ns
      refine ⟨m, ns, fun h2 but => ⟨.ref D, H5, ?_, rfl, fin⟩⟩
      have f := I3.fpOk (H' := H5) (Nat.le_refl _) nC
      exact I7.turned (t' := s6.toks) (fun b o hb e => (but.2 b hb).trans e) f.1 f.2.1 f.2.2.2.1 f.2.2.2.2.1 f.2.2.2.2.2
    · refine thnF (T.item (X.blk s3 H3 scope ce fp) rfl rfl rfl hc i [] s5 _ H5 (fun _ _ => False) I5 (foot I5 fr5) at5 go) ?_
      rintro _ s6 ⟨u, rfl, h6⟩
      refine thnF h6 fun _ s7 ⟨x, H7, I7, r7, y7, at7, fr7⟩ => ?_
      have pin7 := I7.pinned (foot I7 fr7) (T.obj _ _ at7)
      refine thnF (pg.run _ s7 _ H7 x u _ pin7 r7 (one x H7 y7)) fun _ s8 ⟨σ8, H8, I8, same8, q8⟩ => ?_
      have len8 : (wipe σ (own.map (·.2))).length = σ8.length := by rw [← same8, wipe_length]
      -- what is left of a turn
      have left_ : ∀ {s' : Shared} {H' : Hp}, Inv (X.blk s3 H3 scope ce fp) ([] ++ pinsAt fp s7.heap) σ8 H' s' → (∃ m', m' < n ∧ Φ (i + 1) m' H') → ∃ m, m < n ∧ ∃ i H', Mid (X.blk s3 H3 scope ce fp) fp tn (wipe σ (own.map (·.2))) i H' s' ∧ Φ i m H' := by
        rintro s' H' J' ⟨m', hm, w'⟩
        have held : ∀ b ∈ fp, ∀ o, s7.heap.get? b = some o → s'.heap.get? b = some o ∧ H' b = none := fun b hb o e =>
          have z := J'.pin (b, o) (List.mem_append_right _ (List.mem_append_right _ (mem_pinsAt hb e)))
          ⟨z.1, z.2.1⟩
        refine ⟨m', hm, i + 1, H', ⟨(J'.unpinned (pins := [])).weak len8 fun j v e => (wipe_some (same8 ▸ e)).1, T.keep _ _ _ at7 fun b hb o e => (held b hb o e).1, fun b hb => ?_⟩, w'⟩
        obtain ⟨o, e, _⟩ := T.obj _ _ at7 b hb
        exact (held b hb o e).2
      refine thnF (pt.run _ s8 σ8 H8 _ I8 q8) fun b s9 ⟨H9, I9, q9⟩ => ?_
      cases b with
      | false =>
        rw [if_neg Bool.false_ne_true] at q9 ⊢
        exact left_ I9 q9
      | true =>
        rw [if_pos rfl] at q9 ⊢
        refine thnF (pk.run _ s9 σ8 H9 _ I9 q9) fun z s10 ⟨yk, H10, I10, r10, q10⟩ => ?_
        refine thnF (pv.run _ s10 σ8 H10 _ I10 q10) fun z2 s11 ⟨yv, H11, I11, r11, H12, put12, q11⟩ => ?_
        exact hput (X.blk s3 H3 scope ce fp) rfl rfl rfl rfl _ σ8 H11 H12 s11 D yk yv z z2 _ _ I11 put12 r10 r11 fun s12 I12 => left_ I12 q11
  exact codeAny_compStart_dict run (T.self X.A 0 _ _ _ mid0.at_ run)
/-- {k: v for x in ..}, the keys nested tuples -/
def PutN (P : Program) (w : World) (K : PySem.W.Frag) (D : Addr) (H : Hp) (y z : V) (H' : Hp) : Prop := ∃ kvs k b, y = .ref b ∧ H D = some (HN P w D kvs) ∧ KeysD K H kvs ∧ KeyD K H k b ∧ kvs.length < sizeLine ∧ H' = upd H D (HN P w D (putN kvs k b z))
theorem put_n {X : Cx} (hu : X.A.units + 9 < cLine) : ∀ (Y : Cx), Y.prog = X.prog → Y.w = X.w → Y.K = X.K → Y.A = X.A → ∀ (pins : List (Addr × Obj)) (σ : L2.St) (H H' : Hp) (s : Shared) (D : Addr) (y z : V) (u r : Value) (Q : Unit → Shared → Prop) (E : Value → Shared → Prop), Inv Y pins σ H s → PutN X.prog X.w X.K D H y z H' → RelV y u → RelV z r →
    (∀ s', Inv Y pins σ H' s' → Q () s') → wpAny (model Y.prog Y.w) Y.A (dictSet D u r) Q E s := by
  intro Y e1 e2 e3 e4 pins σ H H' s D y z u r Q E I ⟨kvs, k, b, ey, hD, hk, hb, hz, eH⟩ ry rz h
  subst ey eH
  rw [← e1, ← e2] at hD h
  rw [← e3] at hk hb
  exact n_dictSet (by rw [e4]; exact hu) I hD hk hb hz ry rz h
theorem emp_n {P : Program} {w : World} (H : Hp) (h : Heap) (hb : sysModules < h.objs.size) : ObjOk P w H (h.push { cls := .type "dict", data := .dict #[] }) h.objs.size (HN P w h.objs.size []) := hn_empty h hb
end Ab

set_option Elab.async false
set_option linter.all false
set_option maxRecDepth 100000
set_option  maxHeartbeats 4000000
/-! Ab: a calculus over HandS's readings in which data (lists, tuples of data that nobody changes any more) are plain values and only what may change stands in a small map. -/
namespace Ab
open PySem L2

/-! ### heaps -/
theorem same_new {H : Hp} {p : Addr} {o : HO} (h : H p = none) : Same H (upd H p o) := fun b u e => by
  rw [upd_ne (ne_of_none e h)]
  exact e
theorem same_rd {H H' : Hp} {a : Addr} {u : HO} (e : Same H H') (h : Rd H a u) : Rd H' a u := by
  rcases h with h | ⟨o, h⟩
  · exact .inl (e _ _ h)
  · exact .inr ⟨o, e _ _ h⟩
theorem same_l {K : PySem.W.Frag} {H H' : Hp} {a : Addr} {xs : List V} (e : Same H H') (h : SqL K H a xs) : SqL K H' a xs := by
  rcases h with h | h
  · exact .inl (same_rd e h)
  · exact .inr h
theorem same_t {K : PySem.W.Frag} {H H' : Hp} {a : Addr} {xs : List V} (e : Same H H') (h : SqT K H a xs) : SqT K H' a xs := by
  rcases h with h | h
  · exact .inl (same_rd e h)
  · exact .inr h
/-! data that stands in the heap: lists tracked (none of the module's own), tuples of any kind -/
mutual
inductive Dq (K : PySem.W.Frag) (H : Hp) : V → PyData → Prop
  | non : Dq K H .non .none
  | bl (b : Bool) : Dq K H (.bl b) (.bool b)
  | int (i : Int) : Dq K H (.int i) (.int i)
  | str (x : Str) : Dq K H (.str x) (.str x)
  | lst {a : Addr} {xs : List V} {ds : List PyData} : Rd H a (.lst xs) → DqAll K H xs ds → Dq K H (.ref a) (.list ds)
  | tup {a : Addr} {xs : List V} {ds : List PyData} : SqT K H a xs → DqAll K H xs ds → Dq K H (.ref a) (.tuple ds)
inductive DqAll (K : PySem.W.Frag) (H : Hp) : List V → List PyData → Prop
  | nil : DqAll K H [] []
  | cons {v : V} {vs : List V} {d : PyData} {ds : List PyData} : Dq K H v d → DqAll K H vs ds → DqAll K H (v :: vs) (d :: ds)
end
section
variable {K : PySem.W.Frag} {B B' : Hp}
mutual
theorem dq_dp : ∀ (d : PyData) (v : V), Dq K B v d → Dp K B v d
  | .none, _, h => by cases h; exact .non
  | .bool b, _, h => by cases h; exact .bl b
  | .int i, _, h => by cases h; exact .int i
  | .str x, _, h => by cases h; exact .str x
  | .list ds, _, h => by
    cases h with
    | lst hs ha => exact .lst (.inl hs) (dqa_dp ds _ ha)
  | .tuple ds, _, h => by
    cases h with
    | tup hs ha => exact .tup hs (dqa_dp ds _ ha)
  | .dict _, _, h => by cases h
theorem dqa_dp : ∀ (ds : List PyData) (vs : List V), DqAll K B vs ds → DpAll K B vs ds
  | [], _, h => by cases h; exact .nil
  | d :: ds, _, h => by
    cases h with
    | cons h1 h2 => exact .cons (dq_dp d _ h1) (dqa_dp ds _ h2)
end
mutual
theorem dp_same (e : Same B B') : ∀ (d : PyData) (v : V), Dq K B v d → Dq K B' v d
  | .none, _, h => by cases h; exact .non
  | .bool b, _, h => by cases h; exact .bl b
  | .int i, _, h => by cases h; exact .int i
  | .str x, _, h => by cases h; exact .str x
  | .list ds, _, h => by
    cases h with
    | lst hs ha => exact .lst (same_rd e hs) (dpa_same e ds _ ha)
  | .tuple ds, _, h => by
    cases h with
    | tup hs ha => exact .tup (same_t e hs) (dpa_same e ds _ ha)
  | .dict _, _, h => by cases h
theorem dpa_same (e : Same B B') : ∀ (ds : List PyData) (vs : List V), DqAll K B vs ds → DqAll K B' vs ds
  | [], _, h => by cases h; exact .nil
  | d :: ds, _, h => by
    cases h with
    | cons h1 h2 => exact .cons (dp_same e d _ h1) (dpa_same e ds _ h2)
end
end

/-! ### what a slot holds -/
inductive Sl where
  /-- data that nobody changes -/
  | dat (d : PyData)
  /-- just this value -/
  | raw (v : V)
  /-- what else is known of it, as long as things are only added -/
  | abs (P : Hp → V → Prop) (m : ∀ B B' v, Same B B' → P B v → P B' v)
abbrev Sl.int (i : Int) : Sl := .dat (.int i)
abbrev Sl.bl (b : Bool) : Sl := .dat (.bool b)
abbrev Sl.str (x : Str) : Sl := .dat (.str x)
abbrev Sl.non : Sl := .dat .none
abbrev Sl.ls (ds : List PyData) : Sl := .dat (.list ds)
abbrev Sl.tp (ds : List PyData) : Sl := .dat (.tuple ds)
abbrev Sl.ref (a : Addr) : Sl := .raw (.ref a)

def SlOk (K : PySem.W.Frag) (B : Hp) (v : V) : Sl → Prop
  | .dat d => Dq K B v d
  | .raw u => v = u
  | .abs P _ => P B v
section
variable {K : PySem.W.Frag} {B B' : Hp} {v : V} {s : Sl}
theorem SlOk.mono (e : Same B B') (h : SlOk K B v s) : SlOk K B' v s := by
  cases s with
  | dat d => exact dp_same e d v h
  | raw u => exact h
  | abs P m => exact m _ _ _ e h
theorem slok_int {i : Int} : SlOk K B (.int i) (.int i) := Dq.int i
theorem slok_bl {b : Bool} : SlOk K B (.bl b) (.bl b) := Dq.bl b
theorem slok_str {x : Str} : SlOk K B (.str x) (.str x) := Dq.str x
theorem slok_non : SlOk K B .non .non := Dq.non
theorem slok_ref {a : Addr} : SlOk K B (.ref a) (.ref a) := rfl
theorem of_int {i : Int} (h : SlOk K B v (.int i)) : v = .int i := by cases h; rfl
theorem of_bl {b : Bool} (h : SlOk K B v (.bl b)) : v = .bl b := by cases h; rfl
theorem of_str {x : Str} (h : SlOk K B v (.str x)) : v = .str x := by cases h; rfl
theorem of_non (h : SlOk K B v .non) : v = .non := by cases h; rfl
abbrev SlAll (K : PySem.W.Frag) (B : Hp) : List V → List Sl → Prop := Paired fun v s => SlOk K B v s
theorem SlAll.mono (e : Same B B') {vs : List V} {ss : List Sl} (h : SlAll K B vs ss) : SlAll K B' vs ss := Paired.mapP h fun _ _ q => q.mono e
theorem sla_dat : ∀ {vs : List V} {ds : List PyData}, DqAll K B vs ds → SlAll K B vs (ds.map .dat)
  | _, _, .nil => .nil
  | _, _, .cons h t => .cons h (sla_dat t)
theorem dpa_of : ∀ {vs : List V} {ds : List PyData}, SlAll K B vs (ds.map .dat) → DqAll K B vs ds
  | _, [], .nil => .nil
  | _, _ :: _, .cons h t => .cons h (dpa_of t)
theorem DqAll.length : ∀ {vs : List V} {ds : List PyData}, DqAll K B vs ds → vs.length = ds.length
  | _, _, .nil => rfl
  | _, _, .cons _ t => congrArg (· + 1) (DqAll.length t)
theorem DqAll.app : ∀ {vs ws : List V} {ds es : List PyData}, DqAll K B vs ds → DqAll K B ws es → DqAll K B (vs ++ ws) (ds ++ es)
  | _, _, _, _, .nil, h => h
  | _, _, _, _, .cons h t, h' => .cons h (DqAll.app t h')
theorem DqAll.take : ∀ (n : Nat) {vs : List V} {ds : List PyData}, DqAll K B vs ds → DqAll K B (vs.take n) (ds.take n)
  | 0, _, _, _ => .nil
  | _ + 1, _, _, .nil => .nil
  | n + 1, _, _, .cons h t => .cons h (DqAll.take n t)
theorem DqAll.drop : ∀ (n : Nat) {vs : List V} {ds : List PyData}, DqAll K B vs ds → DqAll K B (vs.drop n) (ds.drop n)
  | 0, _, _, h => h
  | _ + 1, _, _, .nil => .nil
  | n + 1, _, _, .cons _ t => DqAll.drop n t
theorem DqAll.get : ∀ {i : Nat} {vs : List V} {ds : List PyData} {d : PyData}, DqAll K B vs ds → ds[i]? = some d → ∃ v, vs[i]? = some v ∧ Dq K B v d
  | _, _, _, _, .nil, e => by simp at e
  | 0, _, _, _, .cons h _, e => by simp at e; subst e; exact ⟨_, rfl, h⟩
  | i + 1, _, _, _, .cons _ t, e => by
    obtain ⟨v, h1, h2⟩ := DqAll.get (i := i) t (by simpa using e)
    exact ⟨v, by simpa using h1, h2⟩
theorem SlAll.get : ∀ {i : Nat} {vs : List V} {ss : List Sl} {s : Sl}, SlAll K B vs ss → ss[i]? = some s → ∃ v, vs[i]? = some v ∧ SlOk K B v s
  | _, _, _, _, .nil, e => by simp at e
  | 0, _, _, _, .cons h _, e => by simp at e; subst e; exact ⟨_, rfl, h⟩
  | i + 1, _, _, _, .cons _ t, e => by
    obtain ⟨v, h1, h2⟩ := SlAll.get (i := i) t (by simpa using e)
    exact ⟨v, by simpa using h1, h2⟩
theorem SlAll.setI {v : V} {s : Sl} (r : SlOk K B v s) : ∀ (i : Nat) {vs : List V} {ss : List Sl}, SlAll K B vs ss → SlAll K B (vs.set i v) (ss.set i s)
  | _, _, _, .nil => .nil
  | 0, _, _, .cons _ t => .cons r t
  | i + 1, _, _, .cons q t => .cons q (SlAll.setI r i t)
theorem SlAll.app : ∀ {vs ws : List V} {ds es : List Sl}, SlAll K B vs ds → SlAll K B ws es → SlAll K B (vs ++ ws) (ds ++ es)
  | _, _, _, _, .nil, h => h
  | _, _, _, _, .cons h t, h' => .cons h (SlAll.app t h')
end

/-! ### the frame -/
abbrev Rho := List (Option Sl)
def Rl0 (K : PySem.W.Frag) (B : Hp) : L2.St → Rho → Prop
  | [], [] => True
  | x :: σ, y :: ρ => (∀ s, y = some s → ∃ v, x = some v ∧ SlOk K B v s) ∧ Rl0 K B σ ρ
  | _, _ => False
section
variable {K : PySem.W.Frag} {B B' : Hp}
theorem Rl0.mono (e : Same B B') : ∀ {σ : L2.St} {ρ : Rho}, Rl0 K B σ ρ → Rl0 K B' σ ρ
  | [], [], _ => trivial
  | _ :: _, _ :: _, ⟨h, t⟩ => ⟨fun s q => let ⟨v, e1, e2⟩ := h s q; ⟨v, e1, e2.mono e⟩, Rl0.mono e t⟩
theorem Rl0.get : ∀ {i : Nat} {σ : L2.St} {ρ : Rho} {s : Sl}, Rl0 K B σ ρ → ρ[i]? = some (some s) → ∃ v, σ[i]? = some (some v) ∧ SlOk K B v s
  | _, [], [], _, _, e => by simp at e
  | 0, _ :: _, _ :: _, s, ⟨h, _⟩, e => by
    obtain ⟨v, e1, e2⟩ := h s (by simpa using e)
    exact ⟨v, by rw [e1]; rfl, e2⟩
  | i + 1, _ :: _, _ :: _, s, ⟨_, t⟩, e => by
    obtain ⟨v, h1, h2⟩ := Rl0.get (i := i) t (by simpa using e)
    exact ⟨v, by simpa using h1, h2⟩
theorem Rl0.put {v : V} {s : Sl} (r : SlOk K B v s) : ∀ (i : Nat) {σ : L2.St} {ρ : Rho}, Rl0 K B σ ρ → Rl0 K B (σ.set i (some v)) (ρ.set i (some s))
  | _, [], [], _ => trivial
  | 0, _ :: _, _ :: _, ⟨_, t⟩ => ⟨fun s' q => (by cases q; exact ⟨v, rfl, r⟩), t⟩
  | i + 1, _ :: _, _ :: _, ⟨h, t⟩ => ⟨h, Rl0.put r i t⟩
theorem Rl0.non : ∀ (i : Nat) {σ : L2.St} {ρ : Rho}, Rl0 K B σ ρ → Rl0 K B (σ.set i none) (ρ.set i none)
  | _, [], [], _ => trivial
  | 0, _ :: _, _ :: _, ⟨_, t⟩ => ⟨fun s' q => (by cases q), t⟩
  | i + 1, _ :: _, _ :: _, ⟨h, t⟩ => ⟨h, Rl0.non i t⟩
/-- less may be known -/
theorem Rl0.less : ∀ (i : Nat) {σ : L2.St} {ρ : Rho}, Rl0 K B σ ρ → Rl0 K B σ (ρ.set i none)
  | _, [], [], _ => trivial
  | 0, _ :: _, _ :: _, ⟨_, t⟩ => ⟨fun s' q => (by simp at q), t⟩
  | i + 1, _ :: _, _ :: _, ⟨h, t⟩ => ⟨h, Rl0.less i t⟩
def wipeR (ρ : Rho) : List Nat → Rho
  | [] => ρ
  | v :: vs => (wipeR ρ vs).set v none
theorem Rl0.wiped {σ : L2.St} {ρ : Rho} (h : Rl0 K B σ ρ) : ∀ vs : List Nat, Rl0 K B (wipe σ vs) (wipeR ρ vs)
  | [] => h
  | v :: vs => Rl0.non v (Rl0.wiped h vs)
theorem rl_start : ∀ {vs : List V} {ss : List Sl} (n : Nat), SlAll K B vs ss → Rl0 K B (vs.map some ++ List.replicate n none) (ss.map some ++ List.replicate n none)
  | _, _, n, .nil => by
    show Rl0 K B (List.replicate n none) (List.replicate n none)
    induction n with
    | zero => trivial
    | succ n ih => exact ⟨fun s q => (by cases q), ih⟩
  | _, _, n, .cons h t => ⟨fun s q => (by cases q; exact ⟨_, rfl, h⟩), rl_start n t⟩
/-- what is known of a frame stands in another list of what is known, slot by slot -/
theorem wipe_set (σ : L2.St) (x : Option V) : ∀ (vs : List Nat) (j : Nat), j ∈ vs → wipe (σ.set j x) vs = wipe σ vs
  | [], _, h => by cases h
  | v :: vs, j, h => by
    show (wipe (σ.set j x) vs).set v none = (wipe σ vs).set v none
    by_cases hj : j ∈ vs
    · rw [wipe_set σ x vs j hj]
    · have e : j = v := by
        rcases List.mem_cons.mp h with h | h
        · exact h
        · exact absurd h hj
      subst e
      have out : ∀ (vs : List Nat) (σ : L2.St), j ∉ vs → wipe (σ.set j x) vs = (wipe σ vs).set j x := by
        intro vs
        induction vs with
        | nil => intro σ _; rfl
        | cons w ws ih =>
          intro σ hn
          have h1 : j ≠ w := fun e => hn (by rw [e]; exact List.mem_cons_self)
          have h2 : j ∉ ws := fun e => hn (List.mem_cons_of_mem _ e)
          show (wipe (σ.set j x) ws).set w none = ((wipe σ ws).set w none).set j x
          rw [ih σ h2, List.set_comm _ _ h1]
      rw [out vs σ hj, List.set_set]
theorem wipe_wipe (σ : L2.St) : ∀ (vs : List Nat), wipe (wipe σ vs) vs = wipe σ vs
  | [] => rfl
  | v :: vs => by
    show (wipe ((wipe σ vs).set v none) vs).set v none = (wipe σ vs).set v none
    by_cases hv : v ∈ vs
    · rw [wipe_set _ _ vs v hv, wipe_wipe σ vs]
    · have out : ∀ (vs : List Nat) (σ : L2.St), v ∉ vs → wipe (σ.set v none) vs = (wipe σ vs).set v none := by
        intro vs
        induction vs with
        | nil => intro σ _; rfl
        | cons w ws ih =>
          intro σ hn
          have h1 : v ≠ w := fun e => hn (by rw [e]; exact List.mem_cons_self)
          have h2 : v ∉ ws := fun e => hn (List.mem_cons_of_mem _ e)
          show (wipe (σ.set v none) ws).set w none = ((wipe σ ws).set w none).set v none
          rw [ih σ h2, List.set_comm _ _ h1]
      rw [out vs _ hv, wipe_wipe σ vs, List.set_set]
end

/-! ### what may change -/
inductive MO where
  | lst (xs : List Sl)
  | dK (kvs : List (Key × Sl))
  | ins (C dx : Addr) (fs : List (Str × Sl))
  | xd (fs : List (Str × Sl))
  | ho (o : HO)
  /-- a dict whose keys are nested tuples -/
  | dN (P : Program) (w : World) (a : Addr) (kvs : List (NK × Sl))
  /-- known to somebody else for a while: read, not changed -/
  | frz (ob : Obj) (v : HO) (o : MO)
abbrev MH := Addr → Option MO
def um (M : MH) (a : Addr) (o : MO) : MH := fun b => if b = a then some o else M b
def del (M : MH) (a : Addr) : MH := fun b => if b = a then none else M b
theorem um_same {M : MH} {a : Addr} {o : MO} : um M a o a = some o := by unfold um; rw [if_pos rfl]
theorem um_ne {M : MH} {a b : Addr} {o : MO} (h : b ≠ a) : um M a o b = M b := by unfold um; rw [if_neg h]
theorem um_um {M : MH} {a : Addr} {o u : MO} : um (um M a o) a u = um M a u := by
  funext b; unfold um; split <;> rfl
theorem um_id {M : MH} {a : Addr} {o : MO} (h : M a = some o) : um M a o = M := by
  funext b
  by_cases e : b = a
  · subst e; rw [um_same, h]
  · rw [um_ne e]
theorem um_comm {M : MH} {a b : Addr} {o u : MO} (h : a ≠ b) : um (um M a o) b u = um (um M b u) a o := by
  funext c
  by_cases e1 : c = a
  · subst e1
    rw [um_ne h, um_same, um_same]
  · by_cases e2 : c = b
    · subst e2
      rw [um_same, um_ne e1, um_same]
    · rw [um_ne e2, um_ne e1, um_ne e1, um_ne e2]
theorem del_same {M : MH} {a : Addr} : del M a a = none := by unfold del; rw [if_pos rfl]
theorem del_ne {M : MH} {a b : Addr} (h : b ≠ a) : del M a b = M b := by unfold del; rw [if_neg h]
theorem del_um {M : MH} {a : Addr} {o : MO} (h : M a = none) : del (um M a o) a = M := by
  funext b
  by_cases e : b = a
  · subst e; rw [del_same, h]
  · rw [del_ne e, um_ne e]
theorem mne {M : MH} {a b : Addr} {o : MO} (h : M a = some o) (h' : M b = none) : a ≠ b := by
  intro e; subst e; rw [h] at h'; cases h'
abbrev SlKs {κ : Type} (K : PySem.W.Frag) (B : Hp) : List (κ × V) → List (κ × Sl) → Prop := Paired fun p q => p.1 = q.1 ∧ SlOk K B p.2 q.2
/-- keys and values stand -/
abbrev SlNs (K : PySem.W.Frag) (B : Hp) : List (NK × Addr × V) → List (NK × Sl) → Prop := Paired fun p q => p.1 = q.1 ∧ (Dq K B (.ref p.2.1) p.1.data ∧ p.1.depth ≤ 8) ∧ SlOk K B p.2.2 q.2
def MOk (K : PySem.W.Frag) (B : Hp) (u : HO) : MO → Prop
  | .lst xs => ∃ vs, u = .lst vs ∧ SlAll K B vs xs
  | .dK kvs => ∃ vs, u = .dK vs ∧ SlKs K B vs kvs
  | .ins C dx fs => ∃ vs, u = .ins C dx vs ∧ SlKs K B vs fs
  | .xd fs => ∃ vs, u = .xd vs ∧ SlKs K B vs fs
  | .ho o => u = o
  | .dN P w a kvs => ∃ vs, u = HN P w a vs ∧ SlNs K B vs kvs
  | .frz ob v o => u = .frz ob v ∧ MOk K B v o
theorem MOk.mono {K : PySem.W.Frag} {B B' : Hp} (e : Same B B') {u : HO} {o : MO} (h : MOk K B u o) : MOk K B' u o := by
  induction o generalizing u with
  | lst xs => obtain ⟨vs, h1, h2⟩ := h; exact ⟨vs, h1, h2.mono e⟩
  | dK xs => obtain ⟨vs, h1, h2⟩ := h; exact ⟨vs, h1, Paired.mapP h2 fun _ _ q => ⟨q.1, q.2.mono e⟩⟩
  | ins C dx xs => obtain ⟨vs, h1, h2⟩ := h; exact ⟨vs, h1, Paired.mapP h2 fun _ _ q => ⟨q.1, q.2.mono e⟩⟩
  | xd xs => obtain ⟨vs, h1, h2⟩ := h; exact ⟨vs, h1, Paired.mapP h2 fun _ _ q => ⟨q.1, q.2.mono e⟩⟩
  | ho o => exact h
  | dN P w a kvs => obtain ⟨vs, h1, h2⟩ := h; exact ⟨vs, h1, Paired.mapP h2 fun _ _ q => ⟨q.1, ⟨dp_same e _ _ q.2.1.1, q.2.1.2⟩, q.2.2.mono e⟩⟩
  | frz ob v o ih => exact ⟨h.1, ih h.2⟩
structure Sep (K : PySem.W.Frag) (B : Hp) (M : MH) (H : Hp) : Prop where
  sub : Same B H
  has : ∀ a o, M a = some o → B a = none ∧ ∃ u, H a = some u ∧ MOk K B u o
section
variable {K : PySem.W.Frag} {B H : Hp} {M : MH}
theorem Sep.freeB (S : Sep K B M H) {p : Addr} (h : H p = none) : B p = none := S.sub.free h
theorem Sep.freeM (S : Sep K B M H) {p : Addr} (h : H p = none) : M p = none := by
  cases e : M p with
  | none => rfl
  | some o =>
    obtain ⟨_, u, hu, _⟩ := S.has p o e
    rw [h] at hu; cases hu
/-- a new object that nobody will change -/
theorem Sep.alloc (S : Sep K B M H) {p : Addr} {o : HO} (h : H p = none) : Sep K (upd B p o) M (upd H p o) := by
  have hB := S.freeB h
  refine ⟨fun b u e => ?_, fun a u e => ?_⟩
  · by_cases hb : b = p
    · subst hb; rw [upd_same] at e ⊢; exact e
    · rw [upd_ne hb] at e ⊢; exact S.sub b u e
  · obtain ⟨h1, w, h2, h3⟩ := S.has a u e
    have hne : a ≠ p := ne_of_none h2 h
    exact ⟨by rw [upd_ne hne]; exact h1, w, by rw [upd_ne hne]; exact h2, h3.mono (same_new hB)⟩
/-- a new object that may be changed -/
theorem Sep.new (S : Sep K B M H) {p : Addr} {u : HO} {o : MO} (h : H p = none) (ok : MOk K B u o) : Sep K B (um M p o) (upd H p u) := by
  have hB := S.freeB h
  refine ⟨fun b w e => ?_, fun a w e => ?_⟩
  · rw [upd_ne (ne_of_none e hB)]; exact S.sub b w e
  · by_cases ha : a = p
    · subst ha
      rw [um_same] at e; cases e
      exact ⟨hB, u, upd_same, ok⟩
    · rw [um_ne ha] at e
      obtain ⟨h1, w', h2, h3⟩ := S.has a w e
      exact ⟨h1, w', by rw [upd_ne ha]; exact h2, h3⟩
/-- it is changed -/
theorem Sep.put (S : Sep K B M H) {p : Addr} {u : HO} {o o' : MO} (h : M p = some o) (ok : MOk K B u o') : Sep K B (um M p o') (upd H p u) := by
  obtain ⟨hB, _, _, _⟩ := S.has p o h
  refine ⟨fun b w e => ?_, fun a w e => ?_⟩
  · rw [upd_ne (ne_of_none e hB)]; exact S.sub b w e
  · by_cases ha : a = p
    · subst ha
      rw [um_same] at e; cases e
      exact ⟨hB, u, upd_same, ok⟩
    · rw [um_ne ha] at e
      obtain ⟨h1, w', h2, h3⟩ := S.has a w e
      exact ⟨h1, w', by rw [upd_ne ha]; exact h2, h3⟩
/-- it will not be changed any more -/
theorem Sep.freeze (S : Sep K B M H) {p : Addr} {u : HO} {o : MO} (h : M p = some o) (hu : H p = some u) : Sep K (upd B p u) (del M p) H := by
  obtain ⟨hB, _, _, _⟩ := S.has p o h
  refine ⟨fun b w e => ?_, fun a w e => ?_⟩
  · by_cases hb : b = p
    · subst hb; rw [upd_same] at e; cases e; exact hu
    · rw [upd_ne hb] at e; exact S.sub b w e
  · by_cases ha : a = p
    · subst ha; rw [del_same] at e; cases e
    · rw [del_ne ha] at e
      obtain ⟨h1, w', h2, h3⟩ := S.has a w e
      exact ⟨by rw [upd_ne ha]; exact h1, w', h2, h3.mono (same_new hB)⟩
/-- less may be said -/
theorem Sep.drop (S : Sep K B M H) {p : Addr} : Sep K B (del M p) H := ⟨S.sub, fun a o e => by
  by_cases ha : a = p
  · subst ha; rw [del_same] at e; cases e
  · rw [del_ne ha] at e; exact S.has a o e⟩
theorem Sep.sub' (S : Sep K B M H) {M' : MH} (h : ∀ a o, M' a = some o → M a = some o) : Sep K B M' H := ⟨S.sub, fun a o e => S.has a o (h a o e)⟩
end

/-! ### lists and tuples that are read -/
/-- a list that is read: data, or one that may change -/
def LsV (K : PySem.W.Frag) (s : Sl) (M : MH) (xs : List Sl) : Prop := (∃ ds, s = .dat (.list ds) ∧ xs = ds.map .dat) ∨ (∃ a, s = .raw (.ref a) ∧ M a = some (.lst xs)) ∨ ∃ a vs, s = .raw (.ref a) ∧ (∀ H, SqL K H a vs) ∧ ∀ B, SlAll K B vs xs
def TpV (s : Sl) (xs : List Sl) : Prop := ∃ ds, s = .dat (.tuple ds) ∧ xs = ds.map .dat
theorem lsv_dat {K : PySem.W.Frag} {ds : List PyData} {M : MH} : LsV K (.dat (.list ds)) M (ds.map .dat) := .inl ⟨ds, rfl, rfl⟩
theorem lsv_ref {K : PySem.W.Frag} {a : Addr} {M : MH} {xs : List Sl} (h : M a = some (.lst xs)) : LsV K (.raw (.ref a)) M xs := .inr (.inl ⟨a, rfl, h⟩)
theorem tpv_dat {ds : List PyData} : TpV (.dat (.tuple ds)) (ds.map .dat) := ⟨ds, rfl, rfl⟩
section
variable {K : PySem.W.Frag} {B H : Hp} {M : MH} {v : V} {s : Sl} {xs : List Sl}
theorem LsV.get (h : LsV K s M xs) (S : Sep K B M H) (o : SlOk K B v s) : ∃ a vs, v = .ref a ∧ SqL K H a vs ∧ SlAll K B vs xs := by
  rcases h with ⟨ds, rfl, rfl⟩ | ⟨a, rfl, e⟩ | ⟨a, vs, rfl, h1, h2⟩
  · cases o with
    | lst hs ha => exact ⟨_, _, rfl, .inl (same_rd S.sub hs), sla_dat ha⟩
  · obtain ⟨_, u, hu, vs, rfl, ha⟩ := S.has a _ e
    exact ⟨a, vs, o, SqL.of hu, ha⟩
  · exact ⟨a, vs, o, h1 H, h2 B⟩
/-- a list that is no constant of the module -/
def LsR (s : Sl) (M : MH) (xs : List Sl) : Prop := (∃ ds, s = .dat (.list ds) ∧ xs = ds.map .dat) ∨ ∃ a, s = .raw (.ref a) ∧ M a = some (.lst xs)
theorem lsr_dat {ds : List PyData} {M : MH} : LsR (.dat (.list ds)) M (ds.map .dat) := .inl ⟨ds, rfl, rfl⟩
theorem lsr_ref {a : Addr} {M : MH} {xs : List Sl} (h : M a = some (.lst xs)) : LsR (.raw (.ref a)) M xs := .inr ⟨a, rfl, h⟩
theorem LsR.get (h : LsR s M xs) (S : Sep K B M H) (o : SlOk K B v s) : ∃ a vs, v = .ref a ∧ Rd H a (.lst vs) ∧ SlAll K B vs xs := by
  rcases h with ⟨ds, rfl, rfl⟩ | ⟨a, rfl, e⟩
  · cases o with
    | lst hs ha => exact ⟨_, _, rfl, same_rd S.sub hs, sla_dat ha⟩
  · obtain ⟨_, u, hu, vs, rfl, ha⟩ := S.has a _ e
    exact ⟨a, vs, o, Rd.of hu, ha⟩
theorem TpV.get (h : TpV s xs) (S : Sep K B M H) (o : SlOk K B v s) : ∃ a vs, v = .ref a ∧ SqT K H a vs ∧ SlAll K B vs xs := by
  obtain ⟨ds, rfl, rfl⟩ := h
  cases o with
  | tup hs ha => exact ⟨_, _, rfl, same_t S.sub hs, sla_dat ha⟩
theorem SlAll.len {vs : List V} (h : SlAll K B vs xs) : vs.length = xs.length := Paired.length h
end

/-! ### the calculus -/
/-- where a def stands: the module's part, what is wanted of an exception (W), and what is told of it (X) -/
structure KX where
  K : PySem.W.Frag
  W : WX
  X : Value → Option Addr → Rho → MH → Prop
/-- nothing is raised -/
abbrev KX.pure (K : PySem.W.Frag) : KX := ⟨K, fun _ _ _ _ => False, fun _ _ _ _ => False⟩
instance : Coe KX PySem.W.Frag := ⟨KX.K⟩
instance : Coe PySem.W.Frag KX := ⟨KX.pure⟩
def XOk (k : KX) (B : Hp) : Prop := ∀ C d ρ' M' σ' B' H', k.X C d ρ' M' → Same B B' → Rl0 k.K B' σ' ρ' → Sep k.K B' M' H' → k.W C d σ' H'
structure Rl (k : KX) (B : Hp) (σ : L2.St) (ρ : Rho) : Prop where
  r : Rl0 k.K B σ ρ
  x : XOk k B
section
variable {k : KX} {B B' : Hp} {σ : L2.St} {ρ : Rho}
theorem Rl.mono (e : Same B B') (h : Rl k B σ ρ) : Rl k B' σ ρ := ⟨h.r.mono e, fun C d ρ' M' σ' B2 H' q e2 => h.x C d ρ' M' σ' B2 H' q (e.trans e2)⟩
theorem Rl.get {i : Nat} {s : Sl} (h : Rl k B σ ρ) (e : ρ[i]? = some (some s)) : ∃ v, σ[i]? = some (some v) ∧ SlOk k.K B v s := h.r.get e
theorem Rl.put {v : V} {s : Sl} (r : SlOk k.K B v s) (i : Nat) (h : Rl k B σ ρ) : Rl k B (σ.set i (some v)) (ρ.set i (some s)) := ⟨h.r.put r i, h.x⟩
theorem Rl.non (i : Nat) (h : Rl k B σ ρ) : Rl k B (σ.set i none) (ρ.set i none) := ⟨h.r.non i, h.x⟩
theorem Rl.less (i : Nat) (h : Rl k B σ ρ) : Rl k B σ (ρ.set i none) := ⟨h.r.less i, h.x⟩
theorem Rl.wiped (h : Rl k B σ ρ) (vs : List Nat) : Rl k B (wipe σ vs) (wipeR ρ vs) := ⟨h.r.wiped vs, h.x⟩
end
def W (K : KX) (te : TE) (ρ : Rho) (M : MH) (Q : Sl → MH → Prop) : Prop :=
  ∀ σ B H, Rl K B σ ρ → Sep K B M H → ∀ Q0 : VK, (∀ s v M' B' H', Q s M' → Same B B' → Sep K B' M' H' → SlOk K B' v s → Q0 v H') → te σ H Q0
def WT (K : KX) (te : TT) (ρ : Rho) (M : MH) (Q : Bool → MH → Prop) : Prop :=
  ∀ σ B H, Rl K B σ ρ → Sep K B M H → ∀ Q0 : Bool → Hp → Prop, (∀ b M' B' H', Q b M' → Same B B' → Sep K B' M' H' → Q0 b H') → te σ H Q0
def WA (K : KX) (te : TA) (ρ : Rho) (M : MH) (Q : List Sl → MH → Prop) : Prop :=
  ∀ σ B H, Rl K B σ ρ → Sep K B M H → ∀ Q0 : List V → Hp → Prop, (∀ ss vs M' B' H', Q ss M' → Same B B' → Sep K B' M' H' → SlAll K B' vs ss → Q0 vs H') → te σ H Q0
def WO (K : KX) (te : TO) (ρ : Rho) (M : MH) (Q : Option Int → MH → Prop) : Prop :=
  ∀ σ B H, Rl K B σ ρ → Sep K B M H → ∀ Q0 : Option Int → Hp → Prop, (∀ b M' B' H', Q b M' → Same B B' → Sep K B' M' H' → Q0 b H') → te σ H Q0
/-- operations on values -/
def W2 (K : PySem.W.Frag) (r : R2) (x y : Sl) (M : MH) (Q : Sl → MH → Prop) : Prop :=
  ∀ B H v w, Sep K B M H → SlOk K B v x → SlOk K B w y → ∀ Q0 : VK, (∀ s z M' B' H', Q s M' → Same B B' → Sep K B' M' H' → SlOk K B' z s → Q0 z H') → r v w H Q0
def W1 (K : PySem.W.Frag) (r : V → Hp → VK → Prop) (x : Sl) (M : MH) (Q : Sl → MH → Prop) : Prop :=
  ∀ B H v, Sep K B M H → SlOk K B v x → ∀ Q0 : VK, (∀ s z M' B' H', Q s M' → Same B B' → Sep K B' M' H' → SlOk K B' z s → Q0 z H') → r v H Q0
def WL (K : PySem.W.Frag) (r : List V → Hp → VK → Prop) (xs : List Sl) (M : MH) (Q : Sl → MH → Prop) : Prop :=
  ∀ B H vs, Sep K B M H → SlAll K B vs xs → ∀ Q0 : VK, (∀ s z M' B' H', Q s M' → Same B B' → Sep K B' M' H' → SlOk K B' z s → Q0 z H') → r vs H Q0
def WM (K : PySem.W.Frag) (r : V → List V → Hp → VK → Prop) (x : Sl) (xs : List Sl) (M : MH) (Q : Sl → MH → Prop) : Prop :=
  ∀ B H v vs, Sep K B M H → SlOk K B v x → SlAll K B vs xs → ∀ Q0 : VK, (∀ s z M' B' H', Q s M' → Same B B' → Sep K B' M' H' → SlOk K B' z s → Q0 z H') → r v vs H Q0
def WSl (K : PySem.W.Frag) (r : V → Option Int → Option Int → Hp → VK → Prop) (x : Sl) (lo hi : Option Int) (M : MH) (Q : Sl → MH → Prop) : Prop :=
  ∀ B H v, Sep K B M H → SlOk K B v x → ∀ Q0 : VK, (∀ s z M' B' H', Q s M' → Same B B' → Sep K B' M' H' → SlOk K B' z s → Q0 z H') → r v lo hi H Q0
/-- targets -/
def WG (K : KX) (g : TG) (x : Sl) (ρ : Rho) (M : MH) (Q : Rho → MH → Prop) : Prop :=
  ∀ σ B H v, Rl K B σ ρ → Sep K B M H → SlOk K B v x → ∀ Q0 : L2.St → Hp → Prop, (∀ ρ' M' σ' B' H', Q ρ' M' → Same B B' → Rl K B' σ' ρ' → Sep K B' M' H' → Q0 σ' H') → g v σ H Q0
/-- statements -/
structure AE where
  nx : Rho → MH → Prop
  rt : Sl → MH → Prop
  bk : Rho → MH → Prop
  ct : Rho → MH → Prop
def NoR : Rho → MH → Prop := fun _ _ => False
def WS (K : KX) (t : TS) (ρ : Rho) (M : MH) (P : AE) : Prop :=
  ∀ σ B H D, Rl K B σ ρ → Sep K B M H →
    (∀ ρ' M' σ' B' H', P.nx ρ' M' → Same B B' → Rl K B' σ' ρ' → Sep K B' M' H' → D.nx σ' H') →
    (∀ s v M' B' H', P.rt s M' → Same B B' → Sep K B' M' H' → SlOk K B' v s → D.rt v H') →
    (∀ ρ' M' σ' B' H', P.bk ρ' M' → Same B B' → Rl K B' σ' ρ' → Sep K B' M' H' → D.bk σ' H') →
    (∀ ρ' M' σ' B' H', P.ct ρ' M' → Same B B' → Rl K B' σ' ρ' → Sep K B' M' H' → D.ct σ' H') → t D σ H

section
variable {K : KX} {ρ : Rho} {M : MH} {Q Q' : Sl → MH → Prop} {ta tb te tc : TE} {r r' : R2} {P : AE}
theorem W.imp (h : W K te ρ M Q) (k : ∀ s M', Q s M' → Q' s M') : W K te ρ M Q' := fun σ B H hR hS Q0 q => h σ B H hR hS Q0 fun s v M' B' H' z => q s v M' B' H' (k _ _ z)
theorem WS.imp {t : TS} {P' : AE} (h : WS K t ρ M P) (h1 : ∀ ρ' M', P.nx ρ' M' → P'.nx ρ' M') (h2 : ∀ s M', P.rt s M' → P'.rt s M') (h3 : ∀ ρ' M', P.bk ρ' M' → P'.bk ρ' M') (h4 : ∀ ρ' M', P.ct ρ' M' → P'.ct ρ' M') : WS K t ρ M P' :=
  fun σ B H D hR hS a b c d => h σ B H D hR hS (fun ρ' M' σ' B' H' z => a ρ' M' σ' B' H' (h1 _ _ z)) (fun s v M' B' H' z => b s v M' B' H' (h2 _ _ z)) (fun ρ' M' σ' B' H' z => c ρ' M' σ' B' H' (h3 _ _ z)) (fun ρ' M' σ' B' H' z => d ρ' M' σ' B' H' (h4 _ _ z))
theorem w_var {i : Nat} {s : Sl} (h : ρ[i]? = some (some s)) (q : Q s M) : W K (tVar i) ρ M Q := fun σ B H hR hS Q0 k => by
  obtain ⟨v, e, o⟩ := hR.get h
  exact ⟨v, e, k s v M B H q (Same.refl B) hS o⟩
theorem w_int {i : Int} (q : Q (.int i) M) : W K (tC (.int i)) ρ M Q := fun σ B H hR hS Q0 k => k _ _ M B H q (Same.refl B) hS slok_int
theorem w_str {x : Str} (q : Q (.str x) M) : W K (tC (.str x)) ρ M Q := fun σ B H hR hS Q0 k => k _ _ M B H q (Same.refl B) hS slok_str
theorem w_bl {b : Bool} (q : Q (.bl b) M) : W K (tC (.bl b)) ρ M Q := fun σ B H hR hS Q0 k => k _ _ M B H q (Same.refl B) hS slok_bl
theorem w_non (q : Q .non M) : W K (tC .non) ρ M Q := fun σ B H hR hS Q0 k => k _ _ M B H q (Same.refl B) hS slok_non
theorem w_raw {v : V} (q : Q (.raw v) M) : W K (tC v) ρ M Q := fun σ B H hR hS Q0 k => k (.raw v) v M B H q (Same.refl B) hS rfl
/-- a constant of the module that is data -/
theorem w_cdat {v : V} {d : PyData} (h : ∀ B, Dq K B v d) (q : Q (.dat d) M) : W K (tC v) ρ M Q := fun σ B H hR hS Q0 k => k (.dat d) v M B H q (Same.refl B) hS (h B)
theorem w_op (h : W K ta ρ M fun x M1 => W K tb ρ M1 fun y M2 => W2 K r x y M2 Q) : W K (tOp r ta tb) ρ M Q := fun σ B H hR hS Q0 k =>
  h σ B H hR hS _ fun x v M1 B1 H1 hb e1 S1 o1 => hb σ B1 H1 (hR.mono e1) S1 _ fun y w M2 B2 H2 hr e2 S2 o2 =>
    hr B2 H2 v w S2 (o1.mono e2) o2 Q0 fun s z M3 B3 H3 q e3 S3 o3 => k s z M3 B3 H3 q ((e1.trans e2).trans e3) S3 o3
theorem w_un {r : V → Hp → VK → Prop} (h : W K ta ρ M fun x M1 => W1 K r x M1 Q) : W K (tUn r ta) ρ M Q := fun σ B H hR hS Q0 k =>
  h σ B H hR hS _ fun x v M1 B1 H1 hr e1 S1 o1 => hr B1 H1 v S1 o1 Q0 fun s z M3 B3 H3 q e3 S3 o3 => k s z M3 B3 H3 q (e1.trans e3) S3 o3
theorem wa_nil {Q : List Sl → MH → Prop} (q : Q [] M) : WA K tNil ρ M Q := fun σ B H hR hS Q0 k => k [] [] M B H q (Same.refl B) hS .nil
theorem wa_cons {tr : TA} {Q : List Sl → MH → Prop} (h : W K ta ρ M fun x M1 => WA K tr ρ M1 fun xs M2 => Q (x :: xs) M2) : WA K (tCons ta tr) ρ M Q := fun σ B H hR hS Q0 k =>
  h σ B H hR hS _ fun x v M1 B1 H1 hb e1 S1 o1 => hb σ B1 H1 (hR.mono e1) S1 _ fun xs vs M2 B2 H2 q e2 S2 o2 =>
    k (x :: xs) (v :: vs) M2 B2 H2 q (e1.trans e2) S2 (.cons (o1.mono e2) o2)
/-- a built-in called -/
theorem w_cb {t : TA} {r : List V → Hp → VK → Prop} (h : WA K t ρ M fun xs M1 => WL K r xs M1 Q) : W K (tCB r t) ρ M Q := fun σ B H hR hS Q0 k =>
  h σ B H hR hS _ fun xs vs M1 B1 H1 hr e1 S1 o1 => hr B1 H1 vs S1 o1 Q0 fun s z M3 B3 H3 q e3 S3 o3 => k s z M3 B3 H3 q (e1.trans e3) S3 o3
/-- a tuple, a list of data -/
theorem w_tup {t : TA} (h : WA K t ρ M fun xs M1 => ∃ ds, xs = ds.map .dat ∧ ds.length ≤ 100000 ∧ Q (.dat (.tuple ds)) M1) : W K (tTup t) ρ M Q := fun σ B H hR hS Q0 k =>
  h σ B H hR hS _ fun xs vs M1 B1 H1 ⟨ds, e, hl, q⟩ e1 S1 o1 => by
    subst e
    have hd := dpa_of o1
    have hlen := DqAll.length hd
    exact ⟨Nat.le_trans (by omega) (show 100000 ≤ sizeLine by decide), fun p hp => k _ _ M1 (upd B1 p (.tup vs)) _ q (e1.trans (same_new (S1.freeB hp))) (S1.alloc hp) (Dq.tup (SqT.of upd_same) (dpa_same (same_new (S1.freeB hp)) _ _ hd))⟩
theorem w_lst {t : TA} (h : WA K t ρ M fun xs M1 => ∃ ds, xs = ds.map .dat ∧ ds.length ≤ 100000 ∧ Q (.dat (.list ds)) M1) : W K (tLst t) ρ M Q := fun σ B H hR hS Q0 k =>
  h σ B H hR hS _ fun xs vs M1 B1 H1 ⟨ds, e, hl, q⟩ e1 S1 o1 => by
    subst e
    have hd := dpa_of o1
    have hlen := DqAll.length hd
    exact ⟨Nat.le_trans (by omega) (show 100000 ≤ sizeLine by decide), fun p hp => k _ _ M1 (upd B1 p (.lst vs)) _ q (e1.trans (same_new (S1.freeB hp))) (S1.alloc hp) (Dq.lst (Rd.of upd_same) (dpa_same (same_new (S1.freeB hp)) _ _ hd))⟩
/-- a list that will be changed -/
theorem w_lstM {t : TA} (h : WA K t ρ M fun xs M1 => xs.length ≤ 100000 ∧ ∀ p, M1 p = none → Q (.raw (.ref p)) (um M1 p (.lst xs))) : W K (tLst t) ρ M Q := fun σ B H hR hS Q0 k =>
  h σ B H hR hS _ fun xs vs M1 B1 H1 ⟨hl, q⟩ e1 S1 o1 => by
    have hlen := SlAll.len o1
    exact ⟨Nat.le_trans (by omega) (show 100000 ≤ sizeLine by decide), fun p hp => k _ _ _ B1 _ (q p (S1.freeM hp)) e1 (S1.new hp ⟨vs, rfl, o1⟩) rfl⟩
/-- tests -/
theorem wt_test {Q : Bool → MH → Prop} (h : W K te ρ M fun s M1 => ∃ b, s = .bl b ∧ Q b M1) : WT K (tTest te) ρ M Q := fun σ B H hR hS Q0 k =>
  h σ B H hR hS _ fun s v M1 B1 H1 ⟨b, e, q⟩ e1 S1 o1 => by
    subst e
    exact ⟨b, of_bl o1, k b M1 B1 H1 q e1 S1⟩
theorem wt_B {Q : Bool → MH → Prop} (h : W K te ρ M fun s M1 => ∃ b, s = .bl b ∧ Q b M1) : WT K (tB te) ρ M Q := fun σ B H hR hS Q0 k =>
  h σ B H hR hS _ fun s v M1 B1 H1 ⟨b, e, q⟩ e1 S1 o1 => by
    subst e
    exact ⟨b, of_bl o1, k b M1 B1 H1 q e1 S1⟩
theorem wt_and {t u : TT} {Q : Bool → MH → Prop} (h : WT K t ρ M fun b M1 => if b = true then WT K u ρ M1 Q else Q false M1) : WT K (tAnd t u) ρ M Q := fun σ B H hR hS Q0 k =>
  h σ B H hR hS _ fun b M1 B1 H1 q e1 S1 => by
    cases b with
    | true => exact q σ B1 H1 (hR.mono e1) S1 Q0 fun b2 M2 B2 H2 q2 e2 S2 => k b2 M2 B2 H2 q2 (e1.trans e2) S2
    | false => exact k false M1 B1 H1 q e1 S1
theorem wt_or {t u : TT} {Q : Bool → MH → Prop} (h : WT K t ρ M fun b M1 => if b = true then Q true M1 else WT K u ρ M1 Q) : WT K (tOr t u) ρ M Q := fun σ B H hR hS Q0 k =>
  h σ B H hR hS _ fun b M1 B1 H1 q e1 S1 => by
    cases b with
    | false => exact q σ B1 H1 (hR.mono e1) S1 Q0 fun b2 M2 B2 H2 q2 e2 S2 => k b2 M2 B2 H2 q2 (e1.trans e2) S2
    | true => exact k true M1 B1 H1 q e1 S1
theorem wt_not {t : TT} {Q : Bool → MH → Prop} (h : WT K t ρ M fun b M1 => Q (!b) M1) : WT K (tNot t) ρ M Q := fun σ B H hR hS Q0 k =>
  h σ B H hR hS _ fun b M1 B1 H1 q e1 S1 => k _ M1 B1 H1 q e1 S1
theorem w_if {t : TT} (h : WT K t ρ M fun b M1 => if b = true then W K ta ρ M1 Q else W K tb ρ M1 Q) : W K (tIf t ta tb) ρ M Q := fun σ B H hR hS Q0 k =>
  h σ B H hR hS _ fun b M1 B1 H1 q e1 S1 => by
    cases b with
    | true => exact q σ B1 H1 (hR.mono e1) S1 Q0 fun s v M2 B2 H2 q2 e2 S2 o2 => k s v M2 B2 H2 q2 (e1.trans e2) S2 o2
    | false => exact q σ B1 H1 (hR.mono e1) S1 Q0 fun s v M2 B2 H2 q2 e2 S2 o2 => k s v M2 B2 H2 q2 (e1.trans e2) S2 o2
theorem w_andV (h : W K ta ρ M fun s M1 => ∃ b, s = .bl b ∧ if b = true then W K tb ρ M1 Q else Q (.bl false) M1) : W K (tAndV ta tb) ρ M Q := fun σ B H hR hS Q0 k =>
  h σ B H hR hS _ fun s v M1 B1 H1 ⟨b, e, q⟩ e1 S1 o1 => by
    subst e
    refine ⟨b, of_bl o1, ?_⟩
    cases b with
    | true => exact q σ B1 H1 (hR.mono e1) S1 Q0 fun s v M2 B2 H2 q2 e2 S2 o2 => k s v M2 B2 H2 q2 (e1.trans e2) S2 o2
    | false => exact k _ _ M1 B1 H1 q e1 S1 slok_bl
theorem w_orV (h : W K ta ρ M fun s M1 => ∃ b, s = .bl b ∧ if b = true then Q (.bl true) M1 else W K tb ρ M1 Q) : W K (tOrV ta tb) ρ M Q := fun σ B H hR hS Q0 k =>
  h σ B H hR hS _ fun s v M1 B1 H1 ⟨b, e, q⟩ e1 S1 o1 => by
    subst e
    refine ⟨b, of_bl o1, ?_⟩
    cases b with
    | false => exact q σ B1 H1 (hR.mono e1) S1 Q0 fun s v M2 B2 H2 q2 e2 S2 o2 => k s v M2 B2 H2 q2 (e1.trans e2) S2 o2
    | true => exact k _ _ M1 B1 H1 q e1 S1 slok_bl
theorem w_notV (h : W K ta ρ M fun s M1 => ∃ b, s = .bl b ∧ Q (.bl (!b)) M1) : W K (tNotV ta) ρ M Q := fun σ B H hR hS Q0 k =>
  h σ B H hR hS _ fun s v M1 B1 H1 ⟨b, e, q⟩ e1 S1 o1 => by
    subst e
    exact ⟨b, of_bl o1, k _ _ M1 B1 H1 q e1 S1 slok_bl⟩
theorem w_chain (h : W K ta ρ M fun x M1 => W K tb ρ M1 fun y M2 => W2 K r x y M2 fun z M3 => ∃ b, z = .bl b ∧ if b = true then W K tc ρ M3 fun w M4 => W2 K r' y w M4 Q else Q (.bl false) M3) :
    W K (tChain r r' ta tb tc) ρ M Q := fun σ B H hR hS Q0 k =>
  h σ B H hR hS _ fun x v M1 B1 H1 hb e1 S1 o1 => hb σ B1 H1 (hR.mono e1) S1 _ fun y w M2 B2 H2 hr e2 S2 o2 =>
    hr B2 H2 v w S2 (o1.mono e2) o2 _ fun s z M3 B3 H3 ⟨b, eb, q⟩ e3 S3 o3 => by
      subst eb
      refine ⟨b, of_bl o3, ?_⟩
      cases b with
      | true =>
        show tc σ H3 _
        exact q σ B3 H3 (hR.mono ((e1.trans e2).trans e3)) S3 _ fun y' w' M4 B4 H4 q4 e4 S4 o4 => q4 B4 H4 w w' S4 (o2.mono (e3.trans e4)) o4 Q0 fun s5 z5 M5 B5 H5 q5 e5 S5 o5 => k s5 z5 M5 B5 H5 q5 ((((e1.trans e2).trans e3).trans e4).trans e5) S5 o5
      | false =>
        show Q0 (.bl false) H3
        exact k _ _ M3 B3 H3 q ((e1.trans e2).trans e3) S3 slok_bl
/-- slices -/
theorem wo_none {Q : Option Int → MH → Prop} (q : Q none M) : WO K tNoPart ρ M Q := fun σ B H hR hS Q0 k => k none M B H q (Same.refl B) hS
theorem wo_some {Q : Option Int → MH → Prop} (h : W K te ρ M fun s M1 => ∃ i, s = .int i ∧ Q (some i) M1) : WO K (tPart te) ρ M Q := fun σ B H hR hS Q0 k =>
  h σ B H hR hS _ fun s v M1 B1 H1 ⟨i, e, q⟩ e1 S1 o1 => by
    subst e
    exact ⟨i, of_int o1, k _ M1 B1 H1 q e1 S1⟩
theorem w_sl {r : V → Option Int → Option Int → Hp → VK → Prop} {tl th : TO} (h : W K te ρ M fun x M1 => WO K tl ρ M1 fun lo M2 => WO K th ρ M2 fun hi M3 => WSl K r x lo hi M3 Q) : W K (tSl r te tl th) ρ M Q := fun σ B H hR hS Q0 k =>
  h σ B H hR hS _ fun x v M1 B1 H1 h1 e1 S1 o1 => h1 σ B1 H1 (hR.mono e1) S1 _ fun lo M2 B2 H2 h2 e2 S2 => h2 σ B2 H2 (hR.mono (e1.trans e2)) S2 _ fun hi M3 B3 H3 h3 e3 S3 =>
    h3 B3 H3 v S3 (o1.mono (e2.trans e3)) Q0 fun s z M4 B4 H4 q e4 S4 o4 => k s z M4 B4 H4 q (((e1.trans e2).trans e3).trans e4) S4 o4
/-- methods of built-in types -/
theorem w_bm {T : String} {r : V → List V → Hp → VK → Prop} {t : TA} (h : W K ta ρ M fun x M1 => (∀ B H v, Sep K B M1 H → SlOk K B v x → tyV K T v H) ∧ WA K t ρ M1 fun xs M2 => WM K r x xs M2 Q) : W K (tBM K T r ta t) ρ M Q := fun σ B H hR hS Q0 k =>
  h σ B H hR hS _ fun x v M1 B1 H1 ⟨ht, h1⟩ e1 S1 o1 => ⟨ht B1 H1 v S1 o1, h1 σ B1 H1 (hR.mono e1) S1 _ fun xs vs M2 B2 H2 h2 e2 S2 o2 =>
    h2 B2 H2 v vs S2 (o1.mono e2) o2 Q0 fun s z M4 B4 H4 q e4 S4 o4 => k s z M4 B4 H4 q ((e1.trans e2).trans e4) S4 o4⟩
theorem w_bm0 {T : String} {r : V → List V → Hp → VK → Prop} (h : W K ta ρ M fun x M1 => (∀ B H v, Sep K B M1 H → SlOk K B v x → tyV K T v H) ∧ WM K r x [] M1 Q) : W K (tBM0 K T r ta) ρ M Q := fun σ B H hR hS Q0 k =>
  h σ B H hR hS _ fun x v M1 B1 H1 ⟨ht, h1⟩ e1 S1 o1 => ⟨ht B1 H1 v S1 o1, h1 B1 H1 v [] S1 o1 .nil Q0 fun s z M4 B4 H4 q e4 S4 o4 => k s z M4 B4 H4 q (e1.trans e4) S4 o4⟩
theorem ty_lst {K : PySem.W.Frag} {s : Sl} {xs : List Sl} (h : LsV K s M xs) : ∀ B H v, Sep K B M H → SlOk K B v s → tyV K "list" v H := fun B H v S o => by
  obtain ⟨a, vs, e, hq, _⟩ := h.get S o
  subst e
  exact .inl ⟨rfl, _, hq⟩
end
end Ab

set_option Elab.async false
set_option linter.all false
set_option maxRecDepth 100000
set_option  maxHeartbeats 4000000
namespace Ab
open PySem L2
section
variable {K : KX} {ρ : Rho} {M : MH} {Q Q' : Sl → MH → Prop} {ta tb te tc : TE} {r r' : R2} {nx bk ct : Rho → MH → Prop} {rt : Sl → MH → Prop}

/-! ### statements -/
theorem ws_next (q : nx ρ M) : WS K tNext ρ M ⟨nx, rt, bk, ct⟩ := fun σ B H D hR hS a b c d => a ρ M σ B H q (Same.refl B) hR hS
theorem ws_break (q : bk ρ M) : WS K tBreak ρ M ⟨nx, rt, bk, ct⟩ := fun σ B H D hR hS a b c d => c ρ M σ B H q (Same.refl B) hR hS
theorem ws_cont (q : ct ρ M) : WS K tCont ρ M ⟨nx, rt, bk, ct⟩ := fun σ B H D hR hS a b c d => d ρ M σ B H q (Same.refl B) hR hS
theorem ws_seq {t u : TS} (h : WS K t ρ M ⟨fun ρ' M' => WS K u ρ' M' ⟨nx, rt, bk, ct⟩, rt, bk, ct⟩) : WS K (tSeq t u) ρ M ⟨nx, rt, bk, ct⟩ := fun σ B H D hR hS a b c d =>
  h σ B H { D with nx := u D } hR hS (fun ρ1 M1 σ1 B1 H1 q e1 R1 S1 => q σ1 B1 H1 D R1 S1 (fun ρ2 M2 σ2 B2 H2 q2 e2 => a ρ2 M2 σ2 B2 H2 q2 (e1.trans e2)) (fun s v M2 B2 H2 q2 e2 => b s v M2 B2 H2 q2 (e1.trans e2))
    (fun ρ2 M2 σ2 B2 H2 q2 e2 => c ρ2 M2 σ2 B2 H2 q2 (e1.trans e2)) (fun ρ2 M2 σ2 B2 H2 q2 e2 => d ρ2 M2 σ2 B2 H2 q2 (e1.trans e2))) b c d
theorem ws_drop (h : W K te ρ M fun _ M' => nx ρ M') : WS K (tDrop te) ρ M ⟨nx, rt, bk, ct⟩ := fun σ B H D hR hS a b c d =>
  h σ B H hR hS _ fun s v M' B' H' q e S o => a ρ M' σ B' H' q e (hR.mono e) S
theorem ws_ret (h : W K te ρ M rt) : WS K (tRet te) ρ M ⟨nx, rt, bk, ct⟩ := fun σ B H D hR hS a b c d => h σ B H hR hS _ fun s v M' B' H' q e S o => b s v M' B' H' q e S o
theorem ws_retN (h : rt .non M) : WS K tRetN ρ M ⟨nx, rt, bk, ct⟩ := fun σ B H D hR hS a b c d => b .non .non M B H h (Same.refl B) hS slok_non
theorem ws_if {t : TT} {tu tw : TS} (h : WT K t ρ M fun b M' => if b = true then WS K tu ρ M' ⟨nx, rt, bk, ct⟩ else WS K tw ρ M' ⟨nx, rt, bk, ct⟩) : WS K (tIfS t tu tw) ρ M ⟨nx, rt, bk, ct⟩ := fun σ B H D hR hS a b c d =>
  h σ B H hR hS _ fun k M1 B1 H1 q e1 S1 => by
    cases k with
    | true =>
      exact q σ B1 H1 D (hR.mono e1) S1 (fun ρ2 M2 σ2 B2 H2 q2 e2 => a ρ2 M2 σ2 B2 H2 q2 (e1.trans e2)) (fun s v M2 B2 H2 q2 e2 => b s v M2 B2 H2 q2 (e1.trans e2)) (fun ρ2 M2 σ2 B2 H2 q2 e2 => c ρ2 M2 σ2 B2 H2 q2 (e1.trans e2)) (fun ρ2 M2 σ2 B2 H2 q2 e2 => d ρ2 M2 σ2 B2 H2 q2 (e1.trans e2))
    | false =>
      exact q σ B1 H1 D (hR.mono e1) S1 (fun ρ2 M2 σ2 B2 H2 q2 e2 => a ρ2 M2 σ2 B2 H2 q2 (e1.trans e2)) (fun s v M2 B2 H2 q2 e2 => b s v M2 B2 H2 q2 (e1.trans e2)) (fun ρ2 M2 σ2 B2 H2 q2 e2 => c ρ2 M2 σ2 B2 H2 q2 (e1.trans e2)) (fun ρ2 M2 σ2 B2 H2 q2 e2 => d ρ2 M2 σ2 B2 H2 q2 (e1.trans e2))
theorem ws_asg {g : TG} (h : W K te ρ M fun s M1 => WG K g s ρ M1 nx) : WS K (tAsg te g) ρ M ⟨nx, rt, bk, ct⟩ := fun σ B H D hR hS a b c d =>
  h σ B H hR hS _ fun s v M1 B1 H1 q e1 S1 o1 => q σ B1 H1 v (hR.mono e1) S1 o1 D.nx fun ρ2 M2 σ2 B2 H2 q2 e2 R2 S2 => a ρ2 M2 σ2 B2 H2 q2 (e1.trans e2) R2 S2
theorem wg_name {i : Nat} {x : Sl} {Q : Rho → MH → Prop} (q : Q (ρ.set i (some x)) M) : WG K (gName i) x ρ M Q := fun σ B H v hR hS o Q0 k => k _ M _ B H q (Same.refl B) (Rl.put o i hR) hS
theorem ws_set {i : Nat} (h : W K te ρ M fun s M1 => nx (ρ.set i (some s)) M1) : WS K (tAsg te (gName i)) ρ M ⟨nx, rt, bk, ct⟩ := ws_asg (h.imp fun s M1 q => wg_name q)
/-- targets a, b -/
def WGs (K : KX) (g : TGs) (xs : List Sl) (ρ : Rho) (M : MH) (Q : Rho → MH → Prop) : Prop :=
  ∀ σ B H vs, Rl K B σ ρ → Sep K B M H → SlAll K B vs xs → ∀ Q0 : L2.St → Hp → Prop, (∀ ρ' M' σ' B' H', Q ρ' M' → Same B B' → Rl K B' σ' ρ' → Sep K B' M' H' → Q0 σ' H') → g vs σ H Q0
theorem wgs_nil {Q : Rho → MH → Prop} (q : Q ρ M) : WGs K gNil [] ρ M Q := fun σ B H vs hR hS o Q0 k => by
  cases o
  exact ⟨rfl, k ρ M σ B H q (Same.refl B) hR hS⟩
theorem wgs_cons {g : TG} {gs : TGs} {x : Sl} {xs : List Sl} {Q : Rho → MH → Prop} (h : WG K g x ρ M fun ρ1 M1 => WGs K gs xs ρ1 M1 Q) : WGs K (gCons g gs) (x :: xs) ρ M Q := fun σ B H vs hR hS o Q0 k => by
  cases o with
  | cons o1 o2 =>
    exact ⟨_, _, rfl, h σ B H _ hR hS o1 _ fun ρ1 M1 σ1 B1 H1 q e1 R1 S1 => q σ1 B1 H1 _ R1 S1 (SlAll.mono e1 o2) Q0 fun ρ2 M2 σ2 B2 H2 q2 e2 R2 S2 => k ρ2 M2 σ2 B2 H2 q2 (e1.trans e2) R2 S2⟩
theorem wg_tup {n : Nat} {g : TGs} {x : Sl} {ds : List PyData} {Q : Rho → MH → Prop} (hx : x = .dat (.tuple ds)) (hn : ds.length = n) (h : WGs K g (ds.map .dat) ρ M Q) : WG K (gTup K n g) x ρ M Q := fun σ B H v hR hS o Q0 k => by
  subst hx
  obtain ⟨a, vs, e, hq, ha⟩ := (tpv_dat (ds := ds)).get hS o
  exact ⟨a, vs, e, hq, by rw [SlAll.len ha, List.length_map, hn], h σ B H vs hR hS ha Q0 k⟩
theorem ws_aug {i : Nat} {f : Int → Int → Int} {a : Int} (hx : ρ[i]? = some (some (.int a))) (h : W K te ρ M fun s M1 => ∃ b, s = .int b ∧ nx (ρ.set i (some (.int (f a b)))) M1) : WS K (tAug i te (ipI f)) ρ M ⟨nx, rt, bk, ct⟩ := fun σ B H D hR hS p1 p2 p3 p4 => by
  obtain ⟨v, e, o⟩ := hR.get hx
  exact ⟨v, e, h σ B H hR hS _ fun s w M1 B1 H1 ⟨b, es, q⟩ e1 S1 o1 => by
    subst es
    exact ⟨a, b, of_int o, of_int o1, p1 _ M1 _ B1 H1 q e1 (Rl.put slok_int i (hR.mono e1)) S1⟩⟩
/-- o[i] = e, a list that may change -/
theorem ws_setL {to ti : TE} (h : W K te ρ M fun s M1 => W K to ρ M1 fun o M2 => W K ti ρ M2 fun ix M3 => ∃ a xs k j, o = .raw (.ref a) ∧ ix = .int k ∧ M3 a = some (.lst xs) ∧ ixN xs.length k = some j ∧ nx ρ (um M3 a (.lst (xs.set j s)))) : WS K (tAsg te (gSub to ti rSetL)) ρ M ⟨nx, rt, bk, ct⟩ := fun σ B H D hR hS p1 p2 p3 p4 =>
  h σ B H hR hS _ fun s v M1 B1 H1 h1 e1 S1 o1 => h1 σ B1 H1 (hR.mono e1) S1 _ fun o w M2 B2 H2 h2 e2 S2 o2 => h2 σ B2 H2 (hR.mono (e1.trans e2)) S2 _ fun ix u M3 B3 H3 ⟨a, xs, k, j, eo, ei, hM, hj, q⟩ e3 S3 o3 => by
    subst eo ei
    obtain ⟨_, u1, hu, vs, rfl, ha⟩ := S3.has a _ hM
    have hl := SlAll.len ha
    refine ⟨a, vs, k, j, o2, of_int o3, hu, by rw [hl]; exact hj, ?_⟩
    exact p1 ρ _ σ B3 _ q ((e1.trans e2).trans e3) (hR.mono ((e1.trans e2).trans e3)) (S3.put hM ⟨_, rfl, SlAll.setI (o1.mono (e2.trans e3)) j ha⟩)
/-- o[i] += e, a list of ints -/
def rGetL (K : PySem.W.Frag) : V → V → Hp → VK → Prop := fun o i H Q => ∃ p xs k j v, o = .ref p ∧ i = .int k ∧ SqL K H p xs ∧ 0 ≤ k ∧ k.toNat = j ∧ xs[j]? = some v ∧ Q v H
theorem pget_list {X : Cx} : PGet X (rGetL X.K) := by
  intro pins s σ H o i ov iv Q I ro ri h
  obtain ⟨p, xs, k, j, v, rfl, rfl, hq, h0, hj, hv, q⟩ := h
  cases ro
  obtain ⟨t, rfl⟩ := ri
  obtain ⟨its, r, pl, fits⟩ := I.list hq
  obtain ⟨w, ew, rw'⟩ := r.get hv
  have hl := r.length
  have hn := line63
  have hjl := (List.getElem?_eq_some_iff.mp ew).1
  subst hj
  exact wpAny_getItem_list pl.isList h0 (by omega) (by simpa using ew) ⟨v, H, I, rw', q⟩
theorem ws_augL {to ti : TE} {f : Int → Int → Int} (h : W K to ρ M fun o M1 => W K ti ρ M1 fun ix M2 => ∃ a xs k x, o = .raw (.ref a) ∧ ix = .int (k : Nat) ∧ M2 a = some (.lst xs) ∧ xs[k]? = some (.int x) ∧ W K te ρ M2 fun s M3 => ∃ b, s = .int b ∧ M3 a = some (.lst xs) ∧ nx ρ (um M3 a (.lst (xs.set k (.int (f x b)))))) :
    WS K (tAugS to ti te (rGetL K) (ipI f) rSetL) ρ M ⟨nx, rt, bk, ct⟩ := fun σ B H D hR hS p1 p2 p3 p4 =>
  h σ B H hR hS _ fun o v M1 B1 H1 h1 e1 S1 o1 => h1 σ B1 H1 (hR.mono e1) S1 _ fun ix w M2 B2 H2 ⟨a, xs, k, x, eo, ei, hM, hx, h2⟩ e2 S2 o2 => by
    subst eo ei
    obtain ⟨_, u1, hu, vs, rfl, ha⟩ := S2.has a _ hM
    obtain ⟨y, hy, oy⟩ := SlAll.get ha hx
    refine ⟨a, vs, k, k, y, o1, of_int o2, SqL.of hu, by omega, by omega, hy, ?_⟩
    refine h2 σ B2 H2 (hR.mono (e1.trans e2)) S2 _ fun s z M3 B3 H3 ⟨b, es, hM3, q⟩ e3 S3 o3 => ?_
    subst es
    obtain ⟨_, u3, hu3, vs3, rfl, ha3⟩ := S3.has a _ hM3
    have hk : k < xs.length := (List.getElem?_eq_some_iff.mp hx).1
    have hl := SlAll.len ha3
    refine ⟨x, b, of_int oy, of_int o3, a, vs3, k, k, o1, of_int o2, hu3, ?_, ?_⟩
    · unfold ixN
      iterate 2 rw [if_pos (by omega)]
      simp
    · exact p1 ρ _ σ B3 _ q ((e1.trans e2).trans e3) (hR.mono ((e1.trans e2).trans e3)) (S3.put hM3 ⟨_, rfl, SlAll.setI slok_int k ha3⟩)
/-- less is known -/
theorem ws_weak {t : TS} (i : Nat) (h : WS K t (ρ.set i none) M ⟨nx, rt, bk, ct⟩) : WS K t ρ M ⟨nx, rt, bk, ct⟩ := fun σ B H D hR hS => h σ B H D (hR.less i) hS
theorem ws_del {t : TS} (a : Addr) (h : WS K t ρ (del M a) ⟨nx, rt, bk, ct⟩) : WS K t ρ M ⟨nx, rt, bk, ct⟩ := fun σ B H D hR hS => h σ B H D hR hS.drop
/-- a list of ours will not be changed any more -/
theorem ws_freeze {t : TS} {i : Nat} {a : Addr} {ds : List PyData} (hi : ρ[i]? = some (some (.raw (.ref a)))) (hM : M a = some (.lst (ds.map .dat))) (h : WS K t (ρ.set i (some (.dat (.list ds)))) (del M a) ⟨nx, rt, bk, ct⟩) : WS K t ρ M ⟨nx, rt, bk, ct⟩ := fun σ B H D hR hS p1 p2 p3 p4 => by
  obtain ⟨hB, u, hu, vs, rfl, ha⟩ := hS.has a _ hM
  have e : Same B (upd B a (.lst vs)) := same_new hB
  have S' := hS.freeze hM hu
  have o : SlOk K (upd B a (.lst vs)) (.ref a) (.dat (.list ds)) := Dq.lst (Rd.of upd_same) (dpa_same e _ _ (dpa_of ha))
  obtain ⟨v, hv, ov⟩ := hR.get hi
  have ev : v = .ref a := ov
  subst ev
  have hR' := Rl.put o i (hR.mono e)
  have hσ : σ.set i (some (.ref a)) = σ := by
    obtain ⟨h1, h2⟩ := List.getElem?_eq_some_iff.mp hv
    rw [← h2]
    exact List.set_getElem_self h1
  rw [hσ] at hR'
  exact h σ _ H D hR' S' (fun ρ2 M2 σ2 B2 H2 q2 e2 => p1 ρ2 M2 σ2 B2 H2 q2 (e.trans e2)) (fun s v M2 B2 H2 q2 e2 => p2 s v M2 B2 H2 q2 (e.trans e2)) (fun ρ2 M2 σ2 B2 H2 q2 e2 => p3 ρ2 M2 σ2 B2 H2 q2 (e.trans e2)) (fun ρ2 M2 σ2 B2 H2 q2 e2 => p4 ρ2 M2 σ2 B2 H2 q2 (e.trans e2))

/-! ### operations -/
theorem w2_i0 {K : PySem.W.Frag} {f : Int → Int → Int} {i j : Int} (q : Q (.int (f i j)) M) : W2 K (rI0 fun i j => .int (f i j)) (.int i) (.int j) M Q := fun B H v w hS h1 h2 Q0 k => ⟨i, j, of_int h1, of_int h2, k _ _ M B H q (Same.refl B) hS slok_int⟩
theorem w2_b0 {K : PySem.W.Frag} {f : Int → Int → Bool} {i j : Int} (q : Q (.bl (f i j)) M) : W2 K (rI0 fun i j => .bl (f i j)) (.int i) (.int j) M Q := fun B H v w hS h1 h2 Q0 k => ⟨i, j, of_int h1, of_int h2, k _ _ M B H q (Same.refl B) hS slok_bl⟩
theorem w2_i {K : PySem.W.Frag} {C : Int → Int → Prop} {f : Int → Int → Int} {i j : Int} (hc : C i j) (q : Q (.int (f i j)) M) : W2 K (rI C fun i j => .int (f i j)) (.int i) (.int j) M Q := fun B H v w hS h1 h2 Q0 k => ⟨i, j, of_int h1, of_int h2, hc, k _ _ M B H q (Same.refl B) hS slok_int⟩
theorem w1_neg {K : PySem.W.Frag} {i : Int} (q : Q (.int (-i)) M) : W1 K (rU fun i => .int (-i)) (.int i) M Q := fun B H v hS h1 Q0 k => ⟨i, of_int h1, k _ _ M B H q (Same.refl B) hS slok_int⟩
theorem w2_eq {K : PySem.W.Frag} {d e : PyData} (h1 : SeqAt.shaped d = true) (h2 : SeqAt.shaped e = true) (q : Q (.bl (PyData.eqv d e)) M) : W2 K (rEqD K) (.dat d) (.dat e) M Q := fun B H v w hS o1 o2 Q0 k =>
  ⟨d, e, dq_dp _ _ (dp_same hS.sub _ _ o1), dq_dp _ _ (dp_same hS.sub _ _ o2), h1, h2, k _ _ M B H q (Same.refl B) hS slok_bl⟩
theorem w2_ne {K : PySem.W.Frag} {d e : PyData} (h1 : SeqAt.shaped d = true) (h2 : SeqAt.shaped e = true) (q : Q (.bl (!PyData.eqv d e)) M) : W2 K (rNeD K) (.dat d) (.dat e) M Q := fun B H v w hS o1 o2 Q0 k =>
  ⟨d, e, dq_dp _ _ (dp_same hS.sub _ _ o1), dq_dp _ _ (dp_same hS.sub _ _ o2), h1, h2, k _ _ M B H q (Same.refl B) hS slok_bl⟩
theorem w2_in {K : PySem.W.Frag} {d : PyData} {ds : List PyData} (h1 : SeqAt.shaped d = true) (h2 : SeqAt.shaped (.list ds) = true) (q : Q (.bl (ds.any fun z => PyData.eqv z d)) M) : W2 K (rInD K) (.dat d) (.dat (.list ds)) M Q := fun B H v w hS o1 o2 Q0 k =>
  ⟨d, ds, dq_dp _ _ (dp_same hS.sub _ _ o1), dq_dp _ _ (dp_same hS.sub _ _ o2), h1, h2, k _ _ M B H q (Same.refl B) hS slok_bl⟩
theorem w2_notIn {K : PySem.W.Frag} {d : PyData} {ds : List PyData} (h1 : SeqAt.shaped d = true) (h2 : SeqAt.shaped (.list ds) = true) (q : Q (.bl (!ds.any fun z => PyData.eqv z d)) M) : W2 K (rNotInD K) (.dat d) (.dat (.list ds)) M Q := fun B H v w hS o1 o2 Q0 k =>
  ⟨d, ds, dq_dp _ _ (dp_same hS.sub _ _ o1), dq_dp _ _ (dp_same hS.sub _ _ o2), h1, h2, k _ _ M B H q (Same.refl B) hS slok_bl⟩
/-- is None, is not None -/
def rIsN : R2 := fun u z H Q => z = .non ∧ Q (.bl (decide (u = .non))) H
def rNotN : R2 := fun u z H Q => z = .non ∧ Q (.bl (!decide (u = .non))) H
def isNon : PyData → Bool
  | .none => true
  | _ => false
theorem dp_non {K : PySem.W.Frag} {B : Hp} {v : V} {d : PyData} (h : Dq K B v d) : decide (v = .non) = isNon d := by
  cases h <;> first | rfl | exact decide_eq_false (fun e => nomatch e)
theorem w2_isN {K : PySem.W.Frag} {d : PyData} (q : Q (.bl (isNon d)) M) : W2 K rIsN (.dat d) .non M Q := fun B H v w hS o1 o2 Q0 k => ⟨of_non o2, by
  rw [dp_non o1]
  exact k _ _ M B H q (Same.refl B) hS slok_bl⟩
theorem w2_notN {K : PySem.W.Frag} {d : PyData} (q : Q (.bl (!isNon d)) M) : W2 K rNotN (.dat d) .non M Q := fun B H v w hS o1 o2 Q0 k => ⟨of_non o2, by
  rw [dp_non o1]
  exact k _ _ M B H q (Same.refl B) hS slok_bl⟩
/-- xs[i], t[i], s[i] -/
theorem atI_map {α β : Type} (f : α → β) (xs : List α) (i : Int) : atI (xs.map f) i = (atI xs i).map f := by
  unfold atI
  rw [List.length_map]
  cases ixN xs.length i with
  | none => rfl
  | some j => simp
theorem slall_atI {K : PySem.W.Frag} {B : Hp} {vs : List V} {ss : List Sl} {s : Sl} {i : Int} (h : SlAll K B vs ss) (e : atI ss i = some s) : ∃ v, atI vs i = some v ∧ SlOk K B v s := by
  unfold atI at e ⊢
  rw [SlAll.len h]
  cases hj : ixN ss.length i with
  | none => rw [hj] at e; cases e
  | some j =>
    rw [hj] at e
    exact SlAll.get h e
theorem w2_ixL {K : PySem.W.Frag} {s x : Sl} {xs : List Sl} {i : Int} (hs : LsV K s M xs) (hx : atI xs i = some x) (q : Q x M) : W2 K (rIxL K) s (.int i) M Q := fun B H v w hS o1 o2 Q0 k => by
  obtain ⟨a, vs, rfl, hq, ha⟩ := hs.get hS o1
  obtain ⟨z, hz, oz⟩ := slall_atI ha hx
  exact ⟨a, vs, i, z, rfl, of_int o2, hq, hz, k x z M B H q (Same.refl B) hS oz⟩
theorem w2_ixT {K : PySem.W.Frag} {d : PyData} {ds : List PyData} {i : Int} (hx : atI ds i = some d) (q : Q (.dat d) M) : W2 K (rIxT K) (.dat (.tuple ds)) (.int i) M Q := fun B H v w hS o1 o2 Q0 k => by
  obtain ⟨a, vs, rfl, hq, ha⟩ := (tpv_dat (ds := ds)).get hS o1
  obtain ⟨z, hz, oz⟩ := slall_atI (s := .dat d) ha (by rw [atI_map, hx]; rfl)
  exact ⟨a, vs, i, z, rfl, of_int o2, hq, hz, k _ z M B H q (Same.refl B) hS oz⟩
theorem w2_ixS {K : PySem.W.Frag} {z : Str} {i : Int} {c : Nat} (hz : z.length ≤ 100000) (hx : atI z.cps.toList i = some c) (q : Q (.str ⟨#[c]⟩) M) : W2 K rIxS (.str z) (.int i) M Q := fun B H v w hS o1 o2 Q0 k =>
  ⟨z, i, c, of_str o1, of_int o2, Nat.le_trans hz (by decide), hx, k _ _ M B H q (Same.refl B) hS slok_str⟩
/-- xs + ys, lists that are read -/
def rCatL (K : PySem.W.Frag) : R2 := fun x y H Q => ∃ l b xs zs, x = .ref l ∧ y = .ref b ∧ SqL K H l xs ∧ SqL K H b zs ∧ xs.length + zs.length ≤ sizeLine ∧ ∀ p, H p = none → Q (.ref p) (upd H p (.lst (xs ++ zs)))
theorem op_catL {X : Cx} : OpR X (binaryOp .Add) (rCatL X.K) := fun pins s σ H x y v u Q I rx ry ⟨l, m, us, ws, e1, e2, hU, hW, hz, q⟩ => by
  subst e1 e2
  cases rx
  cases ry
  have sizes : us.length + ws.length ≤ sizeLine := hz
  obtain ⟨is, r, ⟨⟨_, _, _, sl⟩, n, ho, hc, hdn, hd⟩, _⟩ := I.list hU
  obtain ⟨js, r2, ⟨⟨_, _, _, sl2⟩, n2, ho2, hc2, hdn2, hd2⟩, _⟩ := I.list hW
  simp only at hc hd hdn hc2 hd2 hdn2
  subst hc hd hdn hc2 hd2 hdn2
  have k1 := r.length
  have k2 := r2.length
  refine concat_meets ⟨_, ho, rfl⟩ ⟨_, ho2, rfl⟩ PySem.noFill_list_add PySem.seq_list_add PySem.F.slot_list_add PySem.F.entry_list_add (PySem.F.args_list_add_2 _ _) (PyProof.Rows.list_addW l m is.toArray js.toArray n n2 none none sl sl2 (by simp; omega)) ⟨ho, ho2, ?_⟩
  rw [show is.toArray ++ js.toArray = (is ++ js).toArray by simp]
  exact ⟨.ref _, _, I.lnew (t' := s.toks) (r.append r2) (by simp; omega), rfl, q _ I.fresh⟩
theorem lst_ok {K : PySem.W.Frag} {B : Hp} {p : Addr} {vs : List V} {ds : List PyData} (h : DqAll K B vs ds) (hp : B p = none) : SlOk K (upd B p (.lst vs)) (.ref p) (.dat (.list ds)) := Dq.lst (Rd.of upd_same) (dpa_same (same_new hp) _ _ h)
theorem tup_ok {K : PySem.W.Frag} {B : Hp} {p : Addr} {vs : List V} {ds : List PyData} (h : DqAll K B vs ds) (hp : B p = none) : SlOk K (upd B p (.tup vs)) (.ref p) (.dat (.tuple ds)) := Dq.tup (SqT.of upd_same) (dpa_same (same_new hp) _ _ h)
theorem w2_cat {K : PySem.W.Frag} {s t : Sl} {ds es : List PyData} (h1 : LsV K s M (ds.map .dat)) (h2 : LsV K t M (es.map .dat)) (hl : ds.length + es.length ≤ 100000) (q : Q (.dat (.list (ds ++ es))) M) : W2 K (rCatL K) s t M Q := fun B H v w hS o1 o2 Q0 k => by
  obtain ⟨a, vs, rfl, hq, ha⟩ := h1.get hS o1
  obtain ⟨b, ws, rfl, hq2, ha2⟩ := h2.get hS o2
  have l1 := SlAll.len ha
  have l2 := SlAll.len ha2
  rw [List.length_map] at l1 l2
  refine ⟨a, b, vs, ws, rfl, rfl, hq, hq2, Nat.le_trans (by omega) (show 100000 ≤ sizeLine by decide), fun p hp => ?_⟩
  exact k _ _ M (upd B p (.lst (vs ++ ws))) _ q (same_new (hS.freeB hp)) (hS.alloc hp) (lst_ok (DqAll.app (dpa_of ha) (dpa_of ha2)) (hS.freeB hp))
/-- [x] * n -/
def repD (ds : List PyData) (n : Nat) : List PyData := (List.replicate n ds).flatten
theorem dpa_rep {K : PySem.W.Frag} {B : Hp} {vs : List V} {ds : List PyData} (h : DqAll K B vs ds) : ∀ n : Nat, DqAll K B (List.replicate n vs).flatten (repD ds n)
  | 0 => .nil
  | n + 1 => by
    unfold repD
    simp only [List.replicate_succ, List.flatten_cons]
    exact DqAll.app h (dpa_rep h n)
/-- a list that is read, times an int -/
def rRepL : R2 := fun x y H Q => ∃ l k xs, x = .ref l ∧ y = .int k ∧ Rd H l (.lst xs) ∧ -(2 ^ 63) ≤ k ∧ k < 2 ^ 63 ∧ xs.length * k.toNat ≤ sizeLine ∧ ∀ p, H p = none → Q (.ref p) (upd H p (.lst (List.replicate k.toNat xs).flatten))
theorem rep_arr (r : List Value) (m : Nat) : (List.replicate (if r.toArray.isEmpty = true then 0 else m) r.toArray).foldl (· ++ ·) #[] = (List.replicate m r).flatten.toArray := by
  have all : (List.replicate m r.toArray).foldl (· ++ ·) #[] = (List.replicate m r).flatten.toArray := by simpa using foldl_rep r m []
  match r, all with
  | [], _ => simp
  | _ :: _, e => rw [if_neg (by simp)]; exact e
theorem op_repL {X : Cx} : OpR X (binaryOp .Mult) rRepL := fun pins s σ H x y v u Q I rx ry ⟨l, n, vs, e1, e2, hR, n1, n2, hn, q⟩ => by
  subst e1 e2
  cases rx
  obtain ⟨t, rfl⟩ := ry
  obtain ⟨_, rs, m, r, o⟩ := hR.ok I.hok
  have sz : rs.toArray.size * n.toNat ≤ sizeLine := by simpa [← r.length] using hn
  have big : (sizeLine : Nat) ≤ (2 ^ 63 - 1) / 8 := by decide
  have call := AutoListH.list___mul___list_int_3 l rs.toArray m n t (by rw [fitsIndex_both n1 n2]; simp) (by omega) (by rw [notLongL sz]; simp)
  refine wpAny_binaryOp_repeat_ref (T := "list") (U := "int") (by decide) ⟨_, o, rfl⟩ (fun z => typeIs_int z n t) PySem.noFill_list_mul F.fills_int_mul F.slot_int_rmul PySem.repeat_list F.slot_int_index.lookup ?_
  refine call_meets F.slot_int_rmul (typeIs_int s n t) F.entry_int_rmul (F.args_int_rmul_2 _ _) (int___rmul___int_list n t l rs.toArray m) ⟨o, rfl, ⟨_, o, rfl⟩, ?_⟩
  refine call_meets F.slot_list_mul ⟨_, o, rfl⟩ F.entry_list_mul (F.args_list_mul_2 _ _) call ⟨o, ?_⟩
  rw [show List.foldl (fun x1 x2 => x1 ++ x2) #[] (List.replicate (if rs.toArray.isEmpty = true then 0 else n.toNat) rs.toArray) = _ from rep_arr rs n.toNat]
  have fit : (List.replicate n.toNat vs).flatten.length ≤ sizeLine := by simpa [Nat.mul_comm] using hn
  exact ⟨.ref _, _, I.lnew (t' := s.toks) (r.rep n.toNat) fit, rfl, q _ I.fresh⟩
theorem w2_rep {K : PySem.W.Frag} {s : Sl} {ds : List PyData} {i : Int} (h : LsR s M (ds.map .dat)) (i1 : -(2 ^ 63) ≤ i) (i2 : i < 2 ^ 63) (hl : ds.length * i.toNat ≤ 100000) (q : Q (.dat (.list (repD ds i.toNat))) M) : W2 K rRepL s (.int i) M Q := fun B H v w hS o1 o2 Q0 k => by
  obtain ⟨a, vs, rfl, hq, ha⟩ := h.get hS o1
  have l1 := SlAll.len ha
  rw [List.length_map] at l1
  refine ⟨a, i, vs, rfl, of_int o2, hq, i1, i2, Nat.le_trans (by rw [l1]; exact hl) (show 100000 ≤ sizeLine by decide), fun p hp => ?_⟩
  exact k _ _ _ (upd B p (.lst (List.replicate i.toNat vs).flatten)) _ q (same_new (hS.freeB hp)) (hS.alloc hp) (lst_ok (dpa_rep (dpa_of ha) _) (hS.freeB hp))
/-- xs[lo:hi] -/
def cutG {α : Type} (xs : List α) (lo hi : Option Int) : List α := (xs.drop (HT.sIx xs.length 0 lo)).take (HT.sIx xs.length xs.length hi - HT.sIx xs.length 0 lo)
theorem cutG_map {α β : Type} (f : α → β) (xs : List α) (lo hi : Option Int) : cutG (xs.map f) lo hi = (cutG xs lo hi).map f := by
  unfold cutG
  rw [List.length_map, List.map_take, List.map_drop]
theorem dpa_cut {K : PySem.W.Frag} {B : Hp} {vs : List V} {ds : List PyData} (h : DqAll K B vs ds) (lo hi : Option Int) : DqAll K B (cutV vs lo hi) (cutG ds lo hi) := by
  unfold cutV cutG
  rw [DqAll.length h]
  exact DqAll.take _ (DqAll.drop _ h)
theorem wsl_lst {K : PySem.W.Frag} {s : Sl} {ds : List PyData} {lo hi : Option Int} (h : LsV K s M (ds.map .dat)) (q : Q (.dat (.list (cutG ds lo hi))) M) : WSl K (rSlL K) s lo hi M Q := fun B H v hS o Q0 k => by
  obtain ⟨a, vs, rfl, hq, ha⟩ := h.get hS o
  exact ⟨a, vs, rfl, hq, fun p hp => k _ _ M (upd B p (.lst (cutV vs lo hi))) _ q (same_new (hS.freeB hp)) (hS.alloc hp) (lst_ok (dpa_cut (dpa_of ha) lo hi) (hS.freeB hp))⟩
theorem dpa_rev {K : PySem.W.Frag} {B : Hp} : ∀ {vs : List V} {ds : List PyData}, DqAll K B vs ds → DqAll K B vs.reverse ds.reverse
  | _, _, .nil => .nil
  | _, _, .cons h t => by
    simp only [List.reverse_cons]
    exact DqAll.app (dpa_rev t) (.cons h .nil)
/-- xs[::-1] -/
theorem w_rev (h : W K ta ρ M fun s M1 => ∃ ds : List PyData, LsV K s M1 (ds.map .dat) ∧ Q (.dat (.list ds.reverse)) M1) : W K (tRevL K ta) ρ M Q := fun σ B H hR hS Q0 k =>
  h σ B H hR hS _ fun s v M1 B1 H1 ⟨ds, hl, q⟩ e1 S1 o1 => by
    obtain ⟨a, vs, rfl, hq, ha⟩ := hl.get S1 o1
    exact ⟨a, vs, rfl, hq, fun p hp => k _ _ M1 (upd B1 p (.lst vs.reverse)) _ q (e1.trans (same_new (S1.freeB hp))) (S1.alloc hp) (lst_ok (dpa_rev (dpa_of ha)) (S1.freeB hp))⟩
/-- built-ins -/
def rLenS (K : PySem.W.Frag) : List V → Hp → VK → Prop := fun us H Q => ∃ p zs, us = [.ref p] ∧ (SqL K H p zs ∨ SqT K H p zs) ∧ Q (.int zs.length) H
def rListS (K : PySem.W.Frag) : List V → Hp → VK → Prop := fun us H Q => ∃ p zs, us = [.ref p] ∧ (SqL K H p zs ∨ SqT K H p zs) ∧ ∀ l, H l = none → Q (.ref l) (upd H l (.lst zs))
def rTupS (K : PySem.W.Frag) : List V → Hp → VK → Prop := fun xs H Q => ∃ p ys, xs = [.ref p] ∧ ((SqL K H p ys ∧ ∀ l, H l = none → Q (.ref l) (upd H l (.tup ys))) ∨ (SqT K H p ys ∧ Q (.ref p) H))
def rInt1 : List V → Hp → VK → Prop := fun xs H Q => (∃ i, xs = [.int i] ∧ Q (.int i) H) ∨ ∃ k, xs = [.bl k] ∧ Q (.int (if k then 1 else 0)) H
theorem wl_len {K : PySem.W.Frag} {s : Sl} {xs : List Sl} (h : LsV K s M xs) (q : Q (.int (xs.length : Int)) M) : WL K (rLenS K) [s] M Q := fun B H vs hS o Q0 k => by
  cases o with
  | cons o1 o2 =>
    cases o2
    obtain ⟨a, ws, rfl, hq, ha⟩ := h.get hS o1
    refine ⟨a, ws, rfl, .inl hq, ?_⟩
    rw [SlAll.len ha]
    exact k _ _ M B H q (Same.refl B) hS slok_int
theorem wl_lenT {K : PySem.W.Frag} {s : Sl} {xs : List Sl} (h : TpV s xs) (q : Q (.int (xs.length : Int)) M) : WL K (rLenS K) [s] M Q := fun B H vs hS o Q0 k => by
  cases o with
  | cons o1 o2 =>
    cases o2
    obtain ⟨a, ws, rfl, hq, ha⟩ := h.get hS o1
    refine ⟨a, ws, rfl, .inr hq, ?_⟩
    rw [SlAll.len ha]
    exact k _ _ M B H q (Same.refl B) hS slok_int
theorem wl_list {K : PySem.W.Frag} {s : Sl} {ds : List PyData} (h : LsV K s M (ds.map .dat) ∨ TpV s (ds.map .dat)) (q : Q (.dat (.list ds)) M) : WL K (rListS K) [s] M Q := fun B H vs hS o Q0 k => by
  cases o with
  | cons o1 o2 =>
    cases o2
    rcases h with h | h
    · obtain ⟨a, ws, rfl, hq, ha⟩ := h.get hS o1
      exact ⟨a, ws, rfl, .inl hq, fun p hp => k _ _ M (upd B p (.lst ws)) _ q (same_new (hS.freeB hp)) (hS.alloc hp) (lst_ok (dpa_of ha) (hS.freeB hp))⟩
    · obtain ⟨a, ws, rfl, hq, ha⟩ := h.get hS o1
      exact ⟨a, ws, rfl, .inr hq, fun p hp => k _ _ M (upd B p (.lst ws)) _ q (same_new (hS.freeB hp)) (hS.alloc hp) (lst_ok (dpa_of ha) (hS.freeB hp))⟩
theorem wl_listM {K : PySem.W.Frag} {s : Sl} {xs : List Sl} (h : LsV K s M xs ∨ TpV s xs) (q : ∀ p, M p = none → Q (.raw (.ref p)) (um M p (.lst xs))) : WL K (rListS K) [s] M Q := fun B H vs hS o Q0 k => by
  cases o with
  | cons o1 o2 =>
    cases o2
    rcases h with h | h
    · obtain ⟨a, ws, rfl, hq, ha⟩ := h.get hS o1
      exact ⟨a, ws, rfl, .inl hq, fun p hp => k _ _ _ B _ (q p (hS.freeM hp)) (Same.refl B) (hS.new hp ⟨ws, rfl, ha⟩) rfl⟩
    · obtain ⟨a, ws, rfl, hq, ha⟩ := h.get hS o1
      exact ⟨a, ws, rfl, .inr hq, fun p hp => k _ _ _ B _ (q p (hS.freeM hp)) (Same.refl B) (hS.new hp ⟨ws, rfl, ha⟩) rfl⟩
theorem wl_tuple {K : PySem.W.Frag} {s : Sl} {ds : List PyData} (h : LsV K s M (ds.map .dat)) (q : Q (.dat (.tuple ds)) M) : WL K (rTupS K) [s] M Q := fun B H vs hS o Q0 k => by
  cases o with
  | cons o1 o2 =>
    cases o2
    obtain ⟨a, ws, rfl, hq, ha⟩ := h.get hS o1
    exact ⟨a, ws, rfl, .inl ⟨hq, fun p hp => k _ _ M (upd B p (.tup ws)) _ q (same_new (hS.freeB hp)) (hS.alloc hp) (tup_ok (dpa_of ha) (hS.freeB hp))⟩⟩
theorem wl_int {K : PySem.W.Frag} {i : Int} (q : Q (.int i) M) : WL K rInt1 [.int i] M Q := fun B H vs hS o Q0 k => by
  cases o with
  | cons o1 o2 =>
    cases o2
    exact .inl ⟨i, by rw [of_int o1], k _ _ M B H q (Same.refl B) hS slok_int⟩
theorem wl_intb {K : PySem.W.Frag} {b : Bool} (q : Q (.int (if b then 1 else 0)) M) : WL K rInt1 [.bl b] M Q := fun B H vs hS o Q0 k => by
  cases o with
  | cons o1 o2 =>
    cases o2
    exact .inr ⟨b, by rw [of_bl o1], k _ _ M B H q (Same.refl B) hS slok_int⟩
/-- isinstance of data, a built-in class -/
def tyD : PyData → String
  | .none => "NoneType"
  | .bool _ => "bool"
  | .int _ => "int"
  | .str _ => "str"
  | .list _ => "list"
  | .tuple _ => "tuple"
  | .dict _ => "dict"
theorem dp_ty {K : PySem.W.Frag} {B H : Hp} (S : Same B H) {v : V} {d : PyData} (h : Dq K B v d) : TyX K H v (.type (tyD d)) := by
  cases h with
  | non => exact .base .non
  | bl b => exact .base (.bl b)
  | int i => exact .base (.int i)
  | str x => exact .base (.str x)
  | lst hs _ =>
    rcases hs with h | ⟨o, h⟩
    · exact .base (.lst (S _ _ h))
    · exact .base (.frz (S _ _ h))
  | tup hs _ =>
    rcases hs with (h | ⟨o, h⟩) | ⟨o, _, _, hk, hc, _⟩
    · exact .base (.tup (S _ _ h))
    · exact .fTuple (S _ _ h)
    · exact .kTuple hk hc
theorem wl_isi {K : PySem.W.Frag} {d : PyData} {n : String} {b : Bool} (hb : kitB (tyD d) n = some b) (q : Q (.bl b) M) : WL K (rIsi K) [.dat d, .raw (.ty n)] M Q := fun B H vs hS o Q0 k => by
  cases o with
  | cons o1 o2 =>
    cases o2 with
    | cons o2 o3 =>
      cases o3
      obtain rfl : _ = V.ty n := o2
      exact ⟨_, .ty n, _, _, b, rfl, .ty n, dp_ty hS.sub o1, kit_ty hb, k _ _ M B H q (Same.refl B) hS slok_bl⟩
/-- xs.append(e) -/
theorem wm_append {K : PySem.W.Frag} {a : Addr} {xs : List Sl} {s : Sl} (h : M a = some (.lst xs)) (hl : xs.length < 100000) (q : Q .non (um M a (.lst (xs ++ [s])))) : WM K rAppend (.raw (.ref a)) [s] M Q := fun B H v vs hS o1 o2 Q0 k => by
  cases o2 with
  | cons o2 o3 =>
    cases o3
    obtain ⟨_, u, hu, ws, rfl, ha⟩ := hS.has a _ h
    have hlen := SlAll.len ha
    obtain rfl : v = .ref a := o1
    exact ⟨a, ws, _, rfl, rfl, hu, Nat.lt_of_lt_of_le (by omega) (show 100000 ≤ sizeLine by decide), k _ _ _ B _ q (Same.refl B) (hS.put h ⟨_, rfl, SlAll.app ha (.cons o2 .nil)⟩) slok_non⟩
end
end Ab

set_option Elab.async false
set_option linter.all false
set_option maxRecDepth 100000
set_option  maxHeartbeats 4000000
namespace Ab
open PySem L2
section
variable {K : KX} {ρ : Rho} {M : MH} {Q Q' : Sl → MH → Prop} {ta tb te tc : TE} {r r' : R2} {nx bk ct : Rho → MH → Prop} {rt : Sl → MH → Prop}

/-! ### what is walked -/
structure ItOk (K : PySem.W.Frag) (B : Hp) (J : It) (n : Nat) (item : Nat → Sl) (stay : MH → Prop) : Prop where
  go : ∀ i B2 M2 H2, i < n → Same B B2 → Sep K B2 M2 H2 → stay M2 → J.go i H2
  yld : ∀ i B2 M2 H2 x H3, i < n → Same B B2 → Sep K B2 M2 H2 → stay M2 → J.yld i H2 x H3 → ∃ B3, Same B2 B3 ∧ Sep K B3 M2 H3 ∧ SlOk K B3 x (item i)
  stop : ∀ i B2 M2 H2, n ≤ i → Same B B2 → Sep K B2 M2 H2 → stay M2 → J.stop i H2
def WI (K : KX) (wi : TI) (ρ : Rho) (M : MH) (R : Nat → (Nat → Sl) → (MH → Prop) → MH → Prop) : Prop :=
  ∀ σ B H, Rl K B σ ρ → Sep K B M H → ∀ R0 : It → Hp → Prop, (∀ n item stay M' B' H' J, R n item stay M' → Same B B' → Sep K B' M' H' → ItOk K B' J n item stay → R0 J H') → wi σ H R0
theorem ws_for {wi : TI} {g : TG} {tb : TS} (h : WI K wi ρ M fun n item stay M1 => ∃ J : Nat → Rho → MH → Prop, J 0 ρ M1 ∧ (∀ i ρ' M', i ≤ n → J i ρ' M' → stay M') ∧
    (∀ i ρ' M', i < n → J i ρ' M' → WG K g (item i) ρ' M' fun ρ2 M2 => WS K tb ρ2 M2 ⟨J (i + 1), rt, nx, J (i + 1)⟩) ∧ ∀ ρ' M', J n ρ' M' → nx ρ' M') : WS K (tFor wi g tb) ρ M ⟨nx, rt, bk, ct⟩ := fun σ B H D hR hS a b c d =>
  h σ B H hR hS _ fun n item stay M1 B1 H1 It ⟨J, j0, js, jt, je⟩ e1 S1 ok => by
    refine ⟨fun i m σ' H' => m = n - i ∧ i ≤ n ∧ ∃ ρ' M' B', J i ρ' M' ∧ Same B1 B' ∧ Rl K B' σ' ρ' ∧ Sep K B' M' H', ⟨n, by simp, Nat.zero_le _, ρ, M1, B1, j0, Same.refl _, hR.mono e1, S1⟩, ?_⟩
    rintro i m σ' H' ⟨rfl, hi, ρ', M', B', hj, e2, R2, S2⟩
    by_cases hlt : i < n
    · refine .inr ⟨ok.go i B' M' H' hlt e2 S2 (js i ρ' M' hi hj), fun σ2 H2 => ∃ ρ2 M2 B2, J (i + 1) ρ2 M2 ∧ Same B1 B2 ∧ Rl K B2 σ2 ρ2 ∧ Sep K B2 M2 H2, fun σ2 H2 ⟨ρ2, M2, B2, q⟩ => ⟨n - (i + 1), by omega, rfl, hlt, ρ2, M2, B2, q⟩, fun x H3 y => ?_⟩
      obtain ⟨B3, e3, S3, o3⟩ := ok.yld i B' M' H' x H3 hlt e2 S2 (js i ρ' M' hi hj) y
      refine jt i ρ' M' hlt hj σ' B3 H3 x (R2.mono e3) S3 o3 _ fun ρ4 M4 σ4 B4 H4 q4 e4 R4 S4 => ?_
      have e14 : Same B1 B4 := (e2.trans e3).trans e4
      exact q4 σ4 B4 H4 _ R4 S4 (fun ρ5 M5 σ5 B5 H5 q5 e5 R5 S5 => ⟨ρ5, M5, B5, q5, e14.trans e5, R5, S5⟩) (fun s v M5 B5 H5 q5 e5 => b s v M5 B5 H5 q5 ((e1.trans e14).trans e5))
        (fun ρ5 M5 σ5 B5 H5 q5 e5 R5 S5 => a ρ5 M5 σ5 B5 H5 q5 ((e1.trans e14).trans e5) R5 S5) (fun ρ5 M5 σ5 B5 H5 q5 e5 R5 S5 => ⟨ρ5, M5, B5, q5, e14.trans e5, R5, S5⟩)
    · have ei : i = n := by omega
      subst ei
      exact .inl ⟨ok.stop i B' M' H' (Nat.le_refl _) e2 S2 (js i ρ' M' hi hj), a ρ' M' σ' B' H' (je ρ' M' hj) (e1.trans e2) R2 S2⟩
/-- a list -/
theorem wi_list {tl : TE} {R : Nat → (Nat → Sl) → (MH → Prop) → MH → Prop} (h : W K tl ρ M fun s M1 => ∃ xs, LsV K s M1 xs ∧ R xs.length (fun i => xs.getD i .non) (fun M2 => LsV K s M2 xs) M1) : WI K (iList K tl) ρ M R := fun σ B H hR hS R0 k =>
  h σ B H hR hS _ fun s v M1 B1 H1 ⟨xs, hl, q⟩ e1 S1 o1 => by
    obtain ⟨a, vs, rfl, hq, ha⟩ := hl.get S1 o1
    refine ⟨a, rfl, ⟨vs, hq⟩, k xs.length _ _ M1 B1 H1 _ q e1 S1 ⟨fun i B2 M2 H2 hi e2 S2 st => ?_, fun i B2 M2 H2 x H3 hi e2 S2 st y => ?_, fun i B2 M2 H2 hi e2 S2 st => ?_⟩⟩
    · obtain ⟨b, ws, eb, hq2, ha2⟩ := st.get S2 (o1.mono e2)
      cases eb
      obtain ⟨z, hz, _⟩ := SlAll.get ha2 (List.getElem?_eq_getElem hi)
      exact ⟨ws, z, hq2, hz⟩
    · obtain ⟨b, ws, eb, hq2, ha2⟩ := st.get S2 (o1.mono e2)
      cases eb
      obtain ⟨z, hz, oz⟩ := SlAll.get ha2 (List.getElem?_eq_getElem hi)
      obtain ⟨rfl, hy⟩ := y
      have ez : z = x := Option.some.inj (hz.symm.trans (hy ws hq2))
      subst ez
      refine ⟨B2, Same.refl _, S2, ?_⟩
      rw [List.getD_eq_getElem?_getD, List.getElem?_eq_getElem hi]
      exact oz
    · obtain ⟨b, ws, eb, hq2, ha2⟩ := st.get S2 (o1.mono e2)
      cases eb
      exact ⟨ws, hq2, by rw [SlAll.len ha2]; exact hi⟩
/-- a tuple -/
theorem wi_tup {tl : TE} {R : Nat → (Nat → Sl) → (MH → Prop) → MH → Prop} (h : W K tl ρ M fun s M1 => ∃ xs, TpV s xs ∧ R xs.length (fun i => xs.getD i .non) (fun _ => True) M1) : WI K (iTup K tl) ρ M R := fun σ B H hR hS R0 k =>
  h σ B H hR hS _ fun s v M1 B1 H1 ⟨xs, hl, q⟩ e1 S1 o1 => by
    obtain ⟨a, vs, rfl, hq, ha⟩ := hl.get S1 o1
    refine ⟨a, rfl, ⟨vs, hq⟩, k xs.length _ _ M1 B1 H1 _ q e1 S1 ⟨fun i B2 M2 H2 hi e2 S2 st => ?_, fun i B2 M2 H2 x H3 hi e2 S2 st y => ?_, fun i B2 M2 H2 hi e2 S2 st => ?_⟩⟩
    · obtain ⟨b, ws, eb, hq2, ha2⟩ := hl.get S2 (o1.mono e2)
      cases eb
      obtain ⟨z, hz, _⟩ := SlAll.get ha2 (List.getElem?_eq_getElem hi)
      exact ⟨ws, z, hq2, hz⟩
    · obtain ⟨b, ws, eb, hq2, ha2⟩ := hl.get S2 (o1.mono e2)
      cases eb
      obtain ⟨z, hz, oz⟩ := SlAll.get ha2 (List.getElem?_eq_getElem hi)
      obtain ⟨rfl, hy⟩ := y
      have ez : z = x := Option.some.inj (hz.symm.trans (hy ws hq2))
      subst ez
      refine ⟨B2, Same.refl _, S2, ?_⟩
      rw [List.getD_eq_getElem?_getD, List.getElem?_eq_getElem hi]
      exact oz
    · obtain ⟨b, ws, eb, hq2, ha2⟩ := hl.get S2 (o1.mono e2)
      cases eb
      exact ⟨ws, hq2, by rw [SlAll.len ha2]; exact hi⟩
/-- ranges -/
theorem wi_r1 {t : TA} {R : Nat → (Nat → Sl) → (MH → Prop) → MH → Prop} (h : WA K t ρ M fun xs M1 => ∃ n : Int, xs = [.int n] ∧ -(2 ^ 62) ≤ n ∧ n < 2 ^ 62 ∧ R n.toNat (fun i => .int (i : Int)) (fun _ => True) M1) : WI K (iRng1 t) ρ M R := fun σ B H hR hS R0 k =>
  h σ B H hR hS _ fun xs vs M1 B1 H1 ⟨n, e, h1, h2, q⟩ e1 S1 o1 => by
    subst e
    cases o1 with
    | cons o1 o2 =>
      cases o2
      refine ⟨n, by rw [of_int o1], h1, h2, k _ _ _ M1 B1 H1 _ q e1 S1 ⟨fun i B2 M2 H2 hi e2 S2 st => hi, fun i B2 M2 H2 x H3 hi e2 S2 st y => ?_, fun i B2 M2 H2 hi e2 S2 st => hi⟩⟩
      obtain ⟨rfl, rfl⟩ := y
      exact ⟨B2, Same.refl _, S2, by rw [Int.zero_add]; exact slok_int⟩
theorem wi_r2 {t : TA} {R : Nat → (Nat → Sl) → (MH → Prop) → MH → Prop} (h : WA K t ρ M fun xs M1 => ∃ lo n : Int, xs = [.int lo, .int n] ∧ (-(2 ^ 62) ≤ lo ∧ lo < 2 ^ 62 ∧ -(2 ^ 62) ≤ n ∧ n < 2 ^ 62) ∧ R (n - lo).toNat (fun i => .int (lo + (i : Int))) (fun _ => True) M1) : WI K (iRng2 t) ρ M R := fun σ B H hR hS R0 k =>
  h σ B H hR hS _ fun xs vs M1 B1 H1 ⟨lo, n, e, h1, q⟩ e1 S1 o1 => by
    subst e
    cases o1 with
    | cons o1 o2 =>
      cases o2 with
      | cons o2 o3 =>
        cases o3
        refine ⟨lo, n, by rw [of_int o1, of_int o2], h1, k _ _ _ M1 B1 H1 _ q e1 S1 ⟨fun i B2 M2 H2 hi e2 S2 st => hi, fun i B2 M2 H2 x H3 hi e2 S2 st y => ?_, fun i B2 M2 H2 hi e2 S2 st => hi⟩⟩
        obtain ⟨rfl, rfl⟩ := y
        exact ⟨B2, Same.refl _, S2, slok_int⟩
theorem wi_r3 {t : TA} {R : Nat → (Nat → Sl) → (MH → Prop) → MH → Prop} (h : WA K t ρ M fun xs M1 => ∃ (i j c : Int) (n : Nat), xs = [.int i, .int j, .int c] ∧ RgC i j c n ∧ R n (fun k => .int (i + (k : Int) * c)) (fun _ => True) M1) : WI K (iRng3 t) ρ M R := fun σ B H hR hS R0 k =>
  h σ B H hR hS _ fun xs vs M1 B1 H1 ⟨i, j, c, n, e, h1, q⟩ e1 S1 o1 => by
    subst e
    cases o1 with
    | cons o1 o2 =>
      cases o2 with
      | cons o2 o3 =>
        cases o3 with
        | cons o3 o4 =>
          cases o4
          refine ⟨i, j, c, n, by rw [of_int o1, of_int o2, of_int o3], h1, k _ _ _ M1 B1 H1 _ q e1 S1 ⟨fun i B2 M2 H2 hi e2 S2 st => hi, fun i B2 M2 H2 x H3 hi e2 S2 st y => ?_, fun i B2 M2 H2 hi e2 S2 st => hi⟩⟩
          obtain ⟨rfl, rfl⟩ := y
          exact ⟨B2, Same.refl _, S2, slok_int⟩
/-- for x in a list of data, by the part that was taken -/
theorem getD_map {α : Type} {enc : α → PyData} {xs : List α} {i : Nat} (h : i < xs.length) : ((xs.map enc).map Sl.dat).getD i .non = .dat (enc xs[i]) := by
  rw [List.getD_eq_getElem?_getD, List.getElem?_map, List.getElem?_map, List.getElem?_eq_getElem h]
  rfl
theorem split_at {α : Type} {xs : List α} {i : Nat} (h : i < xs.length) : xs = xs.take i ++ xs[i] :: xs.drop (i + 1) := by
  rw [List.getElem_cons_drop, List.take_append_drop]
theorem ws_forD {α : Type} {enc : α → PyData} {xs : List α} {tl : TE} {g : TG} {tb : TS} {M1 : MH} (hl : W K tl ρ M fun s M2 => s = .dat (.list (xs.map enc)) ∧ M2 = M1) (J : List α → Rho → MH → Prop) (h0 : J [] ρ M1)
    (hs : ∀ pre x post ρ' M', xs = pre ++ x :: post → J pre ρ' M' → WG K g (.dat (enc x)) ρ' M' fun ρ2 M2 => WS K tb ρ2 M2 ⟨J (pre ++ [x]), rt, nx, J (pre ++ [x])⟩) (hd : ∀ ρ' M', J xs ρ' M' → nx ρ' M') : WS K (tFor (iList K tl) g tb) ρ M ⟨nx, rt, bk, ct⟩ :=
  ws_for (wi_list (hl.imp fun s M2 ⟨e1, e2⟩ => by
    subst e1 e2
    refine ⟨_, lsv_dat, fun i => J (xs.take i), h0, fun _ _ _ _ _ => lsv_dat, fun i ρ' M' hi hj => ?_, fun ρ' M' hj => hd ρ' M' (by rwa [List.length_map, List.length_map, List.take_length] at hj)⟩
    have hi' : i < xs.length := by simpa using hi
    have q := hs (xs.take i) xs[i] (xs.drop (i + 1)) ρ' M' (split_at hi') hj
    rw [← List.take_succ_eq_append_getElem hi'] at q
    show WG K g (((xs.map enc).map Sl.dat).getD i .non) ρ' M' _
    rw [getD_map hi']
    exact q))
theorem ws_forR1 {n : Int} {t : TA} {g : TG} {tb : TS} {M1 : MH} (hl : WA K t ρ M fun xs M2 => xs = [.int n] ∧ M2 = M1) (hn : -(2 ^ 62) ≤ n ∧ n < 2 ^ 62) (J : Nat → Rho → MH → Prop) (h0 : J 0 ρ M1)
    (hs : ∀ (i : Nat) ρ' M', (i : Int) < n → J i ρ' M' → WG K g (.int (i : Int)) ρ' M' fun ρ2 M2 => WS K tb ρ2 M2 ⟨J (i + 1), rt, nx, J (i + 1)⟩) (hd : ∀ ρ' M', J n.toNat ρ' M' → nx ρ' M') : WS K (tFor (iRng1 t) g tb) ρ M ⟨nx, rt, bk, ct⟩ :=
  ws_for (wi_r1 fun σ B H hR hS Q0 k => hl σ B H hR hS Q0 fun ss vs M' B' H' ⟨e1, e2⟩ => by
    subst e1 e2
    exact k _ vs _ B' H' ⟨n, rfl, hn.1, hn.2, J, h0, fun _ _ _ _ _ => trivial, fun i ρ' M' hi hj => hs i ρ' M' (by omega) hj, hd⟩)

/-! ### comprehensions -/
/-- [te for x in ..], x the slot j; J: how many, what was made, what else stands -/
theorem w_lc {wi : TI} {tt : TT} {j : Nat} {vs : List Nat} (hj : j ∈ vs) (h : WI K wi ρ M fun n item stay M1 => ∃ J : Nat → List PyData → MH → Prop, J 0 [] M1 ∧ (∀ i acc M', i ≤ n → J i acc M' → ∀ D o, M' D = none → stay (um M' D o)) ∧
    (∀ i acc M' D, i < n → J i acc M' → M' D = none → WT K tt ((wipeR ρ vs).set j (some (item i))) (um M' D (.lst (acc.map .dat))) fun b M3 =>
      if b = true then W K te ((wipeR ρ vs).set j (some (item i))) M3 fun s M4 => ∃ d M5, s = .dat d ∧ M4 = um M5 D (.lst (acc.map .dat)) ∧ M5 D = none ∧ acc.length < 100000 ∧ J (i + 1) (acc ++ [d]) M5
      else ∃ M5, M3 = um M5 D (.lst (acc.map .dat)) ∧ M5 D = none ∧ J (i + 1) acc M5) ∧
    ∀ acc M', J n acc M' → Q (.dat (.list acc)) M') : W K (tLc wi (gName j) tt te vs) ρ M Q := fun σ B H hR hS Q0 k =>
  h σ B H hR hS _ fun n item stay M1 B1 H1 It ⟨J, j0, js, jt, je⟩ e1 S1 ok => fun D hD => by
    have hwp : ∀ x, wipe ((wipe σ vs).set j (some x)) vs = wipe σ vs := fun x => by rw [wipe_set _ _ _ _ hj, wipe_wipe]
    refine ⟨fun i m H' => m = n - i ∧ i ≤ n ∧ ∃ acc M' B', J i acc M' ∧ M' D = none ∧ Same B1 B' ∧ Sep K B' (um M' D (.lst (acc.map .dat))) H', ⟨n, by simp, Nat.zero_le _, [], M1, B1, j0, S1.freeM hD, Same.refl _, S1.new hD ⟨[], rfl, .nil⟩⟩, ?_⟩
    rintro i m H' ⟨rfl, hi, acc, M', B', hj', hMD, e2, S2⟩
    by_cases hlt : i < n
    · refine .inr ⟨ok.go i B' _ H' hlt e2 S2 (js i acc M' hi hj' D _ hMD), fun H2 => ∃ acc M2 B2, J (i + 1) acc M2 ∧ M2 D = none ∧ Same B1 B2 ∧ Sep K B2 (um M2 D (.lst (acc.map .dat))) H2, fun H2 ⟨acc, M2, B2, q⟩ => ⟨n - (i + 1), by omega, rfl, hlt, acc, M2, B2, q⟩, fun x H3 y => ?_⟩
      obtain ⟨B3, e3, S3, o3⟩ := ok.yld i B' _ H' x H3 hlt e2 S2 (js i acc M' hi hj' D _ hMD) y
      refine ⟨hwp x, ?_⟩
      have R3 : Rl K B3 ((wipe σ vs).set j (some x)) ((wipeR ρ vs).set j (some (item i))) := Rl.put o3 j ((hR.mono ((e1.trans e2).trans e3)).wiped vs)
      refine jt i acc M' D hlt hj' hMD _ B3 H3 R3 S3 _ fun b M4 B4 H4 q4 e4 S4 => ?_
      have e14 := (e2.trans e3).trans e4
      cases b with
      | true =>
        refine q4 _ B4 H4 (R3.mono e4) S4 _ fun s v M5 B5 H5 ⟨d, M6, es, em, hn6, hl6, hj6⟩ e5 S5 o5 => ?_
        subst es em
        obtain ⟨_, u, hu, ws, rfl, ha⟩ := S5.has D _ um_same
        have hlen := SlAll.len ha
        rw [List.length_map] at hlen
        refine ⟨ws, hu, Nat.lt_of_lt_of_le (by omega) (show 100000 ≤ sizeLine by decide), acc ++ [d], M6, B5, hj6, hn6, e14.trans e5, ?_⟩
        have S6 := S5.put (u := .lst (ws ++ [v])) (o' := .lst ((acc ++ [d]).map .dat)) um_same ⟨_, rfl, by rw [List.map_append]; exact SlAll.app ha (.cons o5 .nil)⟩
        rw [um_um] at S6
        exact S6
      | false =>
        obtain ⟨M5, em, hn5, hj5⟩ := q4
        subst em
        exact ⟨acc, M5, B4, hj5, hn5, e14, S4⟩
    · have ei : i = n := by omega
      subst ei
      refine .inl ⟨ok.stop i B' _ H' (Nat.le_refl _) e2 S2 (js i acc M' hi hj' D _ hMD), ?_⟩
      obtain ⟨hB, u, hu, ws, rfl, ha⟩ := S2.has D _ um_same
      have S3 := S2.freeze um_same hu
      rw [del_um hMD] at S3
      exact k _ _ M' _ H' (je acc M' hj') ((e1.trans e2).trans (same_new hB)) S3 (lst_ok (dpa_of ha) hB)
theorem wt_yes {Q : Bool → MH → Prop} (q : Q true M) : WT K tYes ρ M Q := fun σ B H hR hS Q0 k => k true M B H q (Same.refl B) hS
/-- [f(x) for x in a list of data], nothing else is touched -/
theorem w_lcD {α : Type} {enc : α → PyData} {xs : List α} {tl : TE} {j : Nat} {vs : List Nat} {M1 : MH} (hj : j ∈ vs) (hl : W K tl ρ M fun s M2 => s = .dat (.list (xs.map enc)) ∧ M2 = M1) (hz : xs.length ≤ 100000) (f : α → PyData)
    (he : ∀ x D o, x ∈ xs → M1 D = none → W K te ((wipeR ρ vs).set j (some (.dat (enc x)))) (um M1 D o) fun s M' => s = .dat (f x) ∧ M' = um M1 D o) (q : Q (.dat (.list (xs.map f))) M1) : W K (tLc (iList K tl) (gName j) tYes te vs) ρ M Q :=
  w_lc hj (wi_list (hl.imp fun s M2 ⟨e1, e2⟩ => by
    subst e1 e2
    refine ⟨_, lsv_dat, fun i acc M' => M' = M2 ∧ acc = (xs.take i).map f, ⟨rfl, by simp⟩, fun _ _ _ _ _ _ _ _ => lsv_dat, fun i acc M' D hi ⟨eM, ea⟩ hD => ?_, fun acc M' ⟨eM, ea⟩ => ?_⟩
    · subst eM ea
      have hi' : i < xs.length := by simpa using hi
      refine wt_yes ?_
      show W K te ((wipeR ρ vs).set j (some (((xs.map enc).map Sl.dat).getD i .non))) _ _
      rw [getD_map hi']
      refine (he xs[i] D _ (List.getElem_mem hi') hD).imp fun s M' ⟨e1, e2⟩ => ⟨f xs[i], _, e1, e2, hD, ?_, rfl, ?_⟩
      · rw [List.length_map, List.length_take]
        omega
      · rw [List.take_succ_eq_append_getElem hi', List.map_append]
        rfl
    · subst eM ea
      rw [List.length_map, List.length_map, List.take_length]
      exact q))
end
end Ab

set_option Elab.async false
set_option linter.all false
set_option maxRecDepth 100000
set_option  maxHeartbeats 4000000
namespace Ab
open PySem PySem.Spec PyProof.Rows L2
/-! ### defs -/
/-- what a def makes of what it is given, and of what may change -/
abbrev ASp := List Sl → MH → (Sl → MH → Prop) → Prop
def conc (K : PySem.W.Frag) (A : ASp) : Sp := fun vs H Q _ => ∃ (B : Hp) (M : MH) (ss : List Sl) (QA : Sl → MH → Prop), Sep K B M H ∧ SlAll K B vs ss ∧ A ss M QA ∧ ∀ s v M' B' H', QA s M' → Same B B' → Sep K B' M' H' → SlOk K B' v s → Q v H'
section
variable {K : KX} {ρ : Rho} {M : MH} {Q Q' : Sl → MH → Prop} {ta tb te tc : TE} {P : AE}
theorem w_call {A : ASp} {E : XK} {t : TA} (h : WA K t ρ M fun ss M1 => A ss M1 Q) : W K (tCall (conc K A) [] E t) ρ M Q := fun σ B H hR hS Q0 k =>
  h σ B H hR hS _ fun ss vs M1 B1 H1 q e1 S1 o1 => ⟨B1, M1, ss, Q, S1, by rw [List.append_nil]; exact o1, q, fun s v M2 B2 H2 q2 e2 S2 o2 => k s v M2 B2 H2 q2 (e1.trans e2) S2 o2⟩
def rho0 (n : Nat) (ss : List Sl) : Rho := ss.map some ++ List.replicate (n - ss.length) none
theorem ab_ok {K : PySem.W.Frag} {P : Program} {w : World} {mg : Str → Option Value} {base : Heap} {x qual : Str} {st : Stmt} {f : Addr} {fd : FuncData} {N ps : List Str} {k : Nat} {A : ASp} (F : Fun K x qual st f fd) (S : FnScope N ps (defScope st))
    (hlen : ∀ ss M Q, A ss M Q → ss.length = ps.length)
    (hb : ∀ (cdv : Value) (Ar : Around) (outer : List Env) (s : Shared) (H : Hp) (E : XK), Room k (Ar.deeper (envOfC qual (defScope st) s.heap.objs.size f cdv)) →
      ∃ t, PSs (cxOf CX0 P w K mg base N qual (defScope st) f cdv Ar outer s H E).nox (defBody st) t ∧ ∀ ss M Q, A ss M Q → WS (KX.pure K) t (rho0 N.length ss) M ⟨fun _ M' => Q .non M', Q, NoR, NoR⟩) :
    FnOk P w K mg base CX0 (k + 1) f fd ps (conc K A) := by
  refine F.ok S (fun vs H Q E h => ?_) (fun cdv Ar outer s H vs Q E hr h => ?_)
  · obtain ⟨B, M, ss, QA, hS, hv, ha, _⟩ := h
    rw [SlAll.len hv]
    exact hlen ss M QA ha
  · obtain ⟨B, M, ss, QA, hS, hv, ha, hq⟩ := h
    obtain ⟨t, ht, hw⟩ := hb cdv Ar outer s H E hr
    refine ⟨t, ht, ?_⟩
    have hR : Rl (KX.pure K) B (L2.start N vs) (rho0 N.length ss) := by
      unfold L2.start rho0
      rw [SlAll.len hv]
      exact ⟨rl_start _ hv, fun _ _ _ _ _ _ _ q => q.elim⟩
    exact hw ss M QA ha (L2.start N vs) B H ⟨fun _ H' => Q .non H', Q, _, _⟩ hR hS (fun ρ' M' σ' B' H' q e _ S' => hq .non .non M' B' H' q e S' slok_non) (fun s v M' B' H' q e S' o => hq s v M' B' H' q e S' o) (fun _ _ _ _ _ z => z.elim) (fun _ _ _ _ _ z => z.elim)
/-- a def that works on data alone and changes nothing -/
def pureA (R : List PyData → PyData → Prop) : ASp := fun ss M Q => ∃ ds d, ss = ds.map .dat ∧ R ds d ∧ Q (.dat d) M
end
end Ab

set_option Elab.async false
set_option linter.all false
set_option maxRecDepth 100000
set_option  maxHeartbeats 4000000
namespace Ab
open PySem PyProof.Rows L2
/-! ### for the steps that need no thought -/
def datsOf : List Sl → Option (List PyData)
  | [] => some []
  | .dat d :: r => match datsOf r with
    | some ds => some (d :: ds)
    | none => none
  | _ :: _ => none
theorem datsOf_eq : ∀ {xs : List Sl} {ds : List PyData}, datsOf xs = some ds → xs = ds.map .dat
  | [], _, h => by cases h; rfl
  | .dat d :: r, ds, h => by
    unfold datsOf at h
    cases e : datsOf r with
    | none => rw [e] at h; cases h
    | some es =>
      rw [e] at h
      cases h
      rw [datsOf_eq e]
      rfl
  | .raw _ :: _, _, h => by cases h
  | .abs _ _ :: _, _, h => by cases h
section
variable {K : KX} {ρ : Rho} {M : MH} {Q Q' : Sl → MH → Prop} {ta tb te tc : TE} {P : AE}
theorem w_tupD {t : TA} (h : WA K t ρ M fun xs M1 => ∃ ds, datsOf xs = some ds ∧ ds.length ≤ 100000 ∧ Q (.dat (.tuple ds)) M1) : W K (tTup t) ρ M Q :=
  w_tup fun σ B H hR hS Q0 k => h σ B H hR hS Q0 fun ss vs M' B' H' ⟨ds, e, l, q⟩ => k ss vs M' B' H' ⟨ds, datsOf_eq e, l, q⟩
theorem w_lstD {t : TA} (h : WA K t ρ M fun xs M1 => ∃ ds, datsOf xs = some ds ∧ ds.length ≤ 100000 ∧ Q (.dat (.list ds)) M1) : W K (tLst t) ρ M Q :=
  w_lst fun σ B H hR hS Q0 k => h σ B H hR hS Q0 fun ss vs M' B' H' ⟨ds, e, l, q⟩ => k ss vs M' B' H' ⟨ds, datsOf_eq e, l, q⟩
theorem ite_b {b : Bool} {A B : Prop} (h1 : b = true → A) (h2 : b = false → B) : if b = true then A else B := by
  cases b with
  | true => exact h1 rfl
  | false => exact h2 rfl
theorem ite_t {b : Bool} {A B : Prop} (e : b = true) (h : A) : if b = true then A else B := by
  rw [if_pos e]; exact h
theorem ite_f {b : Bool} {A B : Prop} (e : b = false) (h : B) : if b = true then A else B := by
  rw [if_neg (by rw [e]; decide)]; exact h
theorem wa_imp {Q Q' : List Sl → MH → Prop} {t : TA} (h : WA K t ρ M Q) (k : ∀ s M', Q s M' → Q' s M') : WA K t ρ M Q' := fun σ B H hR hS Q0 q => h σ B H hR hS Q0 fun s v M' B' H' z => q s v M' B' H' (k _ _ z)
theorem wt_imp {Q Q' : Bool → MH → Prop} {t : TT} (h : WT K t ρ M Q) (k : ∀ s M', Q s M' → Q' s M') : WT K t ρ M Q' := fun σ B H hR hS Q0 q => h σ B H hR hS Q0 fun s M' B' H' z => q s M' B' H' (k _ _ z)
end
/-- a word between a statement and the rest -/
theorem ws_mid {K : KX} {ρ : Rho} {M : MH} {nx bk ct : Rho → MH → Prop} {rt : Sl → MH → Prop} {t u : TS} (Mid : Rho → MH → Prop) (h : WS K t ρ M ⟨Mid, rt, bk, ct⟩) (k : ∀ ρ' M', Mid ρ' M' → WS K u ρ' M' ⟨nx, rt, bk, ct⟩) : WS K (tSeq t u) ρ M ⟨nx, rt, bk, ct⟩ :=
  ws_seq (h.imp k (fun _ _ z => z) (fun _ _ z => z) (fun _ _ z => z))
theorem atI_ok {α : Type} {xs : List α} {i : Int} {x : α} (h0 : 0 ≤ i) (h : xs[i.toNat]? = some x) : atI xs i = some x := by
  obtain ⟨n, rfl⟩ := Int.eq_ofNat_of_zero_le h0
  exact atI_nat (by simpa using h)
theorem get_two {α : Type} {f : α → PyData} {xs : List α} {i : Nat} {x : α} (h : xs[i]? = some x) : ((xs.map f).map Sl.dat)[i]? = some (.dat (f x)) := by
  rw [List.getElem?_map, List.getElem?_map, h]
  rfl
theorem atI_two {α : Type} {f : α → PyData} {xs : List α} {i : Int} (d : α) (h0 : 0 ≤ i) (h : i.toNat < xs.length) : atI ((xs.map f).map Sl.dat) i = some (.dat (f (xs.getD i.toNat d))) :=
  atI_ok h0 (by rw [get_two (List.getElem?_eq_getElem h), List.getD_eq_getElem?_getD, List.getElem?_eq_getElem h]; rfl)
theorem atI_one {α : Type} {f : α → PyData} {xs : List α} {i : Int} (d : α) (h0 : 0 ≤ i) (h : i.toNat < xs.length) : atI (xs.map f) i = some (f (xs.getD i.toNat d)) :=
  atI_ok h0 (by rw [List.getElem?_map, List.getD_eq_getElem?_getD, List.getElem?_eq_getElem h]; rfl)
/-- data of small depth whose texts are texts -/
theorem shaped_int (i : Int) : SeqAt.shaped (.int i) = true := by simp [SeqAt.shaped, PyData.canLay0, PyData.depth]
theorem shaped_bool (b : Bool) : SeqAt.shaped (.bool b) = true := by simp [SeqAt.shaped, PyData.canLay0, PyData.depth]
theorem shaped_none : SeqAt.shaped .none = true := by simp [SeqAt.shaped, PyData.canLay0, PyData.depth]
theorem eqv_int (i j : Int) : PyData.eqv (.int i) (.int j) = decide (i = j) := by
  simp only [PyData.eqv]
  by_cases e : i = j
  · subst e; simp
  · rw [decide_eq_false e]; exact beq_eq_false_iff_ne.mpr e
mutual
/-- depth below n, texts that are texts -/
def okD : Nat → PyData → Bool
  | _, .none => true
  | _, .bool _ => true
  | _, .int _ => true
  | _, .str x => PyData.strOk x
  | 0, _ => false
  | n + 1, .list xs => decide (xs.length ≤ 100000) && okAll n xs
  | n + 1, .tuple xs => decide (xs.length ≤ 100000) && okAll n xs
  | _, .dict _ => false
def okAll : Nat → List PyData → Bool
  | _, [] => true
  | n, x :: xs => okD n x && okAll n xs
end
mutual
theorem okD_lay : ∀ (n : Nat) (d : PyData), okD n d = true → d.canLay0 = true ∧ d.depth ≤ n + 1
  | n, .none, _ => by simp [PyData.canLay0, PyData.depth]
  | n, .bool _, _ => by simp [PyData.canLay0, PyData.depth]
  | n, .int _, _ => by simp [PyData.canLay0, PyData.depth]
  | n, .str x, h => by
    have h' : PyData.strOk x = true := by cases n <;> simpa [okD] using h
    simp [PyData.canLay0, PyData.depth, h']
  | 0, .list xs, h => by simp [okD] at h
  | 0, .tuple xs, h => by simp [okD] at h
  | n + 1, .list xs, h => by
    have h' : xs.length ≤ 100000 ∧ okAll n xs = true := by simpa [okD] using h
    have q := okAll_lay n xs h'.2
    simp only [PyData.canLay0, PyData.depth]
    exact ⟨q.1, by omega⟩
  | n + 1, .tuple xs, h => by
    have h' : xs.length ≤ 100000 ∧ okAll n xs = true := by simpa [okD] using h
    have q := okAll_lay n xs h'.2
    simp only [PyData.canLay0, PyData.depth]
    exact ⟨q.1, by omega⟩
  | n, .dict _, h => by cases n <;> simp [okD] at h
theorem okAll_lay : ∀ (n : Nat) (ds : List PyData), okAll n ds = true → PyData.canLayAll0 ds = true ∧ PyData.depthAll ds ≤ n + 1
  | n, [], _ => by simp [PyData.canLayAll0, PyData.depthAll]
  | n, d :: ds, h => by
    have h' : okD n d = true ∧ okAll n ds = true := by
      simp only [okAll, Bool.and_eq_true] at h
      exact h
    have q1 := okD_lay n d h'.1
    have q2 := okAll_lay n ds h'.2
    simp only [PyData.canLayAll0, PyData.depthAll, Bool.and_eq_true]
    exact ⟨⟨q1.1, q2.1⟩, by omega⟩
end
theorem okD_shaped {n : Nat} {d : PyData} (h : okD n d = true) (hn : n ≤ 60) : SeqAt.shaped d = true := by
  obtain ⟨h1, h2⟩ := okD_lay n d h
  unfold SeqAt.shaped
  rw [h1, decide_eq_true (by omega)]
  rfl
theorem okAll_of {n : Nat} : ∀ {ds : List PyData}, (∀ d ∈ ds, okD n d = true) → okAll n ds = true
  | [], _ => rfl
  | d :: ds, h => by
    show (okD n d && okAll n ds) = true
    rw [h d List.mem_cons_self, okAll_of fun e he => h e (List.mem_cons_of_mem _ he)]
    rfl
theorem okD_mem {n : Nat} : ∀ {ds : List PyData} {d : PyData}, okAll n ds = true → d ∈ ds → okD n d = true
  | [], _, _, h => by cases h
  | x :: xs, d, h, hm => by
    have h' : okD n x = true ∧ okAll n xs = true := by
      simp only [okAll, Bool.and_eq_true] at h
      exact h
    rcases List.mem_cons.mp hm with rfl | hm
    · exact h'.1
    · exact okD_mem h'.2 hm
theorem okD_up : ∀ {n : Nat} {d : PyData}, okD n d = true → okD (n + 1) d = true
  | n, .none, _ => by cases n <;> rfl
  | n, .bool _, _ => by cases n <;> rfl
  | n, .int _, _ => by cases n <;> rfl
  | n, .str x, h => by cases n <;> simpa [okD] using h
  | 0, .list _, h => by simp [okD] at h
  | 0, .tuple _, h => by simp [okD] at h
  | n + 1, .list xs, h => by
    have h' : xs.length ≤ 100000 ∧ okAll n xs = true := by simpa [okD] using h
    show (decide (xs.length ≤ 100000) && okAll (n + 1) xs) = true
    rw [decide_eq_true h'.1, okAll_of fun d hd => okD_up (okD_mem h'.2 hd)]
    rfl
  | n + 1, .tuple xs, h => by
    have h' : xs.length ≤ 100000 ∧ okAll n xs = true := by simpa [okD] using h
    show (decide (xs.length ≤ 100000) && okAll (n + 1) xs) = true
    rw [decide_eq_true h'.1, okAll_of fun d hd => okD_up (okD_mem h'.2 hd)]
    rfl
  | n, .dict _, h => by cases n <;> simp [okD] at h
termination_by n => n
theorem okD_list {n : Nat} {xs : List PyData} (h : okD (n + 1) (.list xs) = true) : xs.length ≤ 100000 ∧ okAll n xs = true := by simpa [okD] using h
theorem okD_tuple {n : Nat} {xs : List PyData} (h : okD (n + 1) (.tuple xs) = true) : xs.length ≤ 100000 ∧ okAll n xs = true := by simpa [okD] using h
theorem okD_mkL {n : Nat} {xs : List PyData} (h : xs.length ≤ 100000) (h2 : okAll n xs = true) : okD (n + 1) (.list xs) = true := by simp [okD, h, h2]
theorem okD_mkT {n : Nat} {xs : List PyData} (h : xs.length ≤ 100000) (h2 : okAll n xs = true) : okD (n + 1) (.tuple xs) = true := by simp [okD, h, h2]
theorem okD_lsi (n : Nat) {xs : List Int} (h : xs.length ≤ 100000) : okD (n + 1) (.list (xs.map .int)) = true := okD_mkL (by simpa using h) (okAll_of fun d hd => by
  obtain ⟨i, _, rfl⟩ := List.mem_map.mp hd
  cases n <;> rfl)
theorem eqv_self {n : Nat} {d : PyData} (h : okD n d = true) : PyData.eqv d d = true := SeqAt.eqv_refl d (okD_lay n d h).1
/-! isinstance -/
@[reducible] def isB : PyData → Bool
  | .bool _ => true
  | _ => false
@[reducible] def isI : PyData → Bool
  | .bool _ => true
  | .int _ => true
  | _ => false
@[reducible] def isS : PyData → Bool
  | .str _ => true
  | _ => false
@[reducible] def isT : PyData → Bool
  | .tuple _ => true
  | _ => false
@[reducible] def isL : PyData → Bool
  | .list _ => true
  | _ => false
theorem isi_bool (d : PyData) : kitB (tyD d) "bool" = some (isB d) := by cases d <;> (simp only [tyD, isB]; decide +kernel)
theorem isi_int (d : PyData) : kitB (tyD d) "int" = some (isI d) := by cases d <;> (simp only [tyD, isI]; decide +kernel)
theorem isi_str (d : PyData) : kitB (tyD d) "str" = some (isS d) := by cases d <;> (simp only [tyD, isS]; decide +kernel)
theorem isi_tuple (d : PyData) : kitB (tyD d) "tuple" = some (isT d) := by cases d <;> (simp only [tyD, isT]; decide +kernel)
theorem isi_list (d : PyData) : kitB (tyD d) "list" = some (isL d) := by cases d <;> (simp only [tyD, isL]; decide +kernel)
section
variable {K : KX} {ρ : Rho} {M : MH} {Q : Sl → MH → Prop}
/-- x[i] of a list, a tuple of data -/
theorem w2_ixDL {K : PySem.W.Frag} {d : PyData} {ds : List PyData} {i : Int} (hx : atI ds i = some d) (q : Q (.dat d) M) : W2 K (rIx K) (.dat (.list ds)) (.int i) M Q := fun B H v w hS o1 o2 Q0 k =>
  .inl (w2_ixL lsv_dat (by rw [atI_map, hx]; rfl) q B H v w hS o1 o2 Q0 k)
theorem w2_ixDT {K : PySem.W.Frag} {d : PyData} {ds : List PyData} {i : Int} (hx : atI ds i = some d) (q : Q (.dat d) M) : W2 K (rIx K) (.dat (.tuple ds)) (.int i) M Q := fun B H v w hS o1 o2 Q0 k =>
  .inr (.inl (w2_ixT hx q B H v w hS o1 o2 Q0 k))
end
end Ab

set_option Elab.async false
set_option linter.all false
set_option maxRecDepth 100000
set_option  maxHeartbeats 4000000
namespace Ab
open PySem PyProof.Rows L2
/-! the operations on lists that are pictures of lists -/
abbrev lsm {α : Type} (f : α → PyData) (xs : List α) : Sl := .dat (.list (xs.map f))
def itemsI : List Sl → Option (List Int)
  | [] => some []
  | .dat (.int i) :: r => match itemsI r with
    | some ds => some (i :: ds)
    | none => none
  | _ :: _ => none
theorem itemsI_eq : ∀ {xs : List Sl} {ns : List Int}, itemsI xs = some ns → xs = (ns.map PyData.int).map .dat
  | [], _, h => by cases h; rfl
  | .dat (.int i) :: r, ns, h => by
    unfold itemsI at h
    cases e : itemsI r with
    | none => rw [e] at h; cases h
    | some es =>
      rw [e] at h
      cases h
      rw [itemsI_eq e]
      rfl
  | .dat .none :: _, _, h => by cases h
  | .dat (.bool _) :: _, _, h => by cases h
  | .dat (.str _) :: _, _, h => by cases h
  | .dat (.list _) :: _, _, h => by cases h
  | .dat (.tuple _) :: _, _, h => by cases h
  | .dat (.dict _) :: _, _, h => by cases h
  | .raw _ :: _, _, h => by cases h
  | .abs _ _ :: _, _, h => by cases h
section
variable {K : KX} {ρ : Rho} {M : MH} {Q Q' : Sl → MH → Prop} {ta tb te tc : TE} {α : Type} {f : α → PyData}
theorem w_lstI {t : TA} (h : WA K t ρ M fun xs M1 => ∃ ns, itemsI xs = some ns ∧ ns.length ≤ 100000 ∧ Q (lsm .int ns) M1) : W K (tLst t) ρ M Q :=
  w_lst fun σ B H hR hS Q0 k => h σ B H hR hS Q0 fun ss vs M' B' H' ⟨ns, e, l, q⟩ => k ss vs M' B' H' ⟨_, itemsI_eq e, by rw [List.length_map]; exact l, q⟩
theorem wl_lenE {K : PySem.W.Frag} {xs : List α} (q : Q (.int (xs.length : Int)) M) : WL K (rLenS K) [lsm f xs] M Q := wl_len lsv_dat (by rw [List.length_map, List.length_map]; exact q)
theorem wl_lenD {K : PySem.W.Frag} {ds : List PyData} (q : Q (.int (ds.length : Int)) M) : WL K (rLenS K) [.dat (.list ds)] M Q := wl_len lsv_dat (by rw [List.length_map]; exact q)
theorem wl_lenTD {K : PySem.W.Frag} {ds : List PyData} (q : Q (.int (ds.length : Int)) M) : WL K (rLenS K) [.dat (.tuple ds)] M Q := wl_lenT tpv_dat (by rw [List.length_map]; exact q)
theorem wsl_E {K : PySem.W.Frag} {xs : List α} {lo hi : Option Int} (q : Q (lsm f (cutG xs lo hi)) M) : WSl K (rSlL K) (lsm f xs) lo hi M Q := wsl_lst lsv_dat (by rw [cutG_map]; exact q)
theorem w2_catE {K : PySem.W.Frag} {xs ys : List α} (hl : xs.length + ys.length ≤ 100000) (q : Q (lsm f (xs ++ ys)) M) : W2 K (rCatL K) (lsm f xs) (lsm f ys) M Q := w2_cat lsv_dat lsv_dat (by rw [List.length_map, List.length_map]; exact hl) (by rw [← List.map_append]; exact q)
theorem w2_ixE {K : PySem.W.Frag} {xs : List α} {i : Int} (d : α) (h0 : 0 ≤ i) (h : i < xs.length) (q : Q (.dat (f (xs.getD i.toNat d))) M) : W2 K (rIxL K) (lsm f xs) (.int i) M Q := w2_ixL lsv_dat (atI_two d h0 (by omega)) q
theorem repD_map (xs : List α) (n : Nat) : repD (xs.map f) n = ((List.replicate n xs).flatten).map f := by
  unfold repD
  rw [List.map_flatten, List.map_replicate]
theorem w2_repE {K : PySem.W.Frag} {xs : List α} {i : Int} (i1 : -(2 ^ 63) ≤ i) (i2 : i < 2 ^ 63) (hl : xs.length * i.toNat ≤ 100000) (q : Q (lsm f (List.replicate i.toNat xs).flatten) M) : W2 K rRepL (lsm f xs) (.int i) M Q := w2_rep lsr_dat i1 i2 (by rw [List.length_map]; exact hl) (by rw [repD_map]; exact q)
theorem rep_one {α : Type} (x : α) : ∀ n : Nat, (List.replicate n [x]).flatten = List.replicate n x
  | 0 => rfl
  | n + 1 => by rw [List.replicate_succ, List.flatten_cons, rep_one x n]; rfl
theorem w2_rep1 {K : PySem.W.Frag} {x : α} {i : Int} (i1 : -(2 ^ 63) ≤ i) (i2 : i ≤ 100000) (q : Q (lsm f (List.replicate i.toNat x)) M) : W2 K rRepL (lsm f [x]) (.int i) M Q := w2_repE i1 (by omega) (by show 1 * i.toNat ≤ 100000; omega) (by rw [rep_one]; exact q)
theorem w_revE {xs : List α} (h : W K ta ρ M fun s M1 => s = lsm f xs ∧ Q (lsm f xs.reverse) M1) : W K (tRevL K ta) ρ M Q := w_rev (h.imp fun s M1 ⟨e, q⟩ => ⟨xs.map f, by subst e; exact lsv_dat, by rw [← List.map_reverse]; exact q⟩)
theorem wl_listE {K : PySem.W.Frag} {xs : List α} (q : Q (lsm f xs) M) : WL K (rListS K) [lsm f xs] M Q := wl_list (.inl lsv_dat) q
end
section
variable {K : KX} {ρ : Rho} {M : MH} {Q Q' : Sl → MH → Prop} {ta tb te tc : TE}
/-- [te for x in a list of data], what else changes told by J -/
theorem w_lcJ {α : Type} {enc : α → PyData} {xs : List α} {tl : TE} {j : Nat} {vs : List Nat} {M1 : MH} (hj : j ∈ vs) (hl : W K tl ρ M fun s M2 => s = lsm enc xs ∧ M2 = M1) (J : List α → List PyData → MH → Prop) (h0 : J [] [] M1)
    (hs : ∀ pre x post acc M' D, xs = pre ++ x :: post → J pre acc M' → M' D = none → W K te ((wipeR ρ vs).set j (some (.dat (enc x)))) (um M' D (.lst (acc.map .dat))) fun s M4 => ∃ d M5, s = .dat d ∧ M4 = um M5 D (.lst (acc.map .dat)) ∧ M5 D = none ∧ acc.length < 100000 ∧ J (pre ++ [x]) (acc ++ [d]) M5)
    (hd : ∀ acc M', J xs acc M' → Q (.dat (.list acc)) M') : W K (tLc (iList K tl) (gName j) tYes te vs) ρ M Q :=
  w_lc hj (wi_list (hl.imp fun s M2 ⟨e1, e2⟩ => by
    subst e1 e2
    refine ⟨_, lsv_dat, fun i acc M' => J (xs.take i) acc M', h0, fun _ _ _ _ _ _ _ _ => lsv_dat, fun i acc M' D hi hJ hD => ?_, fun acc M' hJ => ?_⟩
    · have hi' : i < xs.length := by simpa using hi
      refine wt_yes ?_
      show W K te ((wipeR ρ vs).set j (some (((xs.map enc).map Sl.dat).getD i .non))) _ _
      rw [getD_map hi']
      have q := hs (xs.take i) xs[i] (xs.drop (i + 1)) acc M' D (split_at hi') hJ hD
      rw [← List.take_succ_eq_append_getElem hi'] at q
      exact q
    · refine hd acc M' ?_
      rw [List.length_map, List.length_map, List.take_length] at hJ
      exact hJ))
/-- xs + ys, a list that will be changed -/
theorem w2_catM {K : PySem.W.Frag} {s t : Sl} {xs ys : List Sl} (h1 : LsV K s M xs) (h2 : LsV K t M ys) (hl : xs.length + ys.length ≤ 100000) (q : ∀ p, M p = none → Q (.ref p) (um M p (.lst (xs ++ ys)))) : W2 K (rCatL K) s t M Q := fun B H v w hS o1 o2 Q0 k => by
  obtain ⟨a, vs, rfl, hq, ha⟩ := h1.get hS o1
  obtain ⟨b, ws, rfl, hq2, ha2⟩ := h2.get hS o2
  have l1 := SlAll.len ha
  have l2 := SlAll.len ha2
  refine ⟨a, b, vs, ws, rfl, rfl, hq, hq2, Nat.le_trans (by omega) (show 100000 ≤ sizeLine by decide), fun p hp => ?_⟩
  exact k _ _ _ B _ (q p (hS.freeM hp)) (Same.refl B) (hS.new hp ⟨_, rfl, SlAll.app ha ha2⟩) rfl
theorem um_swap {p D : Addr} {x y o : MO} (h : D ≠ p) : um (um (um M p x) D o) p y = um (um M p y) D o := by rw [um_comm h, um_um]
end
theorem eqv_lsi (xs ys : List Int) : PyData.eqv (.list (xs.map .int)) (.list (ys.map .int)) = decide (xs = ys) := by
  simp only [PyData.eqv]
  induction xs generalizing ys with
  | nil =>
    cases ys with
    | nil => simp [PyData.eqvAll]
    | cons y ys => simp [PyData.eqvAll]
  | cons x xs ih =>
    cases ys with
    | nil => simp [PyData.eqvAll]
    | cons y ys =>
      simp only [List.map_cons, PyData.eqvAll, ih ys, eqv_int]
      by_cases e : x = y
      · subst e
        simp
      · simp [e]
theorem cutG_len {α : Type} (xs : List α) (lo hi : Option Int) : (cutG xs lo hi).length ≤ xs.length := by
  unfold cutG
  rw [List.length_take, List.length_drop]
  omega
theorem cutG_int {α : Type} (xs : List α) {lo hi : Int} (h1 : 0 ≤ lo) (h2 : 0 ≤ hi) : cutG xs (some lo) (some hi) = (xs.drop lo.toNat).take (hi.toNat - lo.toNat) := by
  obtain ⟨l, rfl⟩ := Int.eq_ofNat_of_zero_le h1
  obtain ⟨h, rfl⟩ := Int.eq_ofNat_of_zero_le h2
  unfold cutG
  rw [HT.sIx_nat, HT.sIx_nat, Int.toNat_natCast, Int.toNat_natCast]
  apply List.ext_getElem?
  intro i
  simp only [List.getElem?_take, List.getElem?_drop]
  by_cases c1 : l + i < xs.length
  · rw [show min l xs.length = l by omega]
    by_cases c2 : i < h - l
    · rw [if_pos (by omega), if_pos c2]
    · rw [if_neg (by omega), if_neg c2]
  · rw [if_neg (by omega), List.getElem?_eq_none (by omega)]
    split <;> rfl
theorem cutG_hi {α : Type} (xs : List α) {hi : Int} (h2 : 0 ≤ hi) : cutG xs none (some hi) = xs.take hi.toNat := by
  obtain ⟨h, rfl⟩ := Int.eq_ofNat_of_zero_le h2
  unfold cutG
  rw [HT.sIx_none, HT.sIx_nat, Int.toNat_natCast, List.drop_zero, Nat.sub_zero]
  apply List.ext_getElem?
  intro i
  simp only [List.getElem?_take]
  by_cases c1 : i < xs.length
  · by_cases c2 : i < h
    · rw [if_pos (by omega), if_pos c2]
    · rw [if_neg (by omega), if_neg c2]
  · rw [if_neg (by omega), List.getElem?_eq_none (by omega)]
    split <;> rfl
theorem cutG_lo {α : Type} (xs : List α) {lo : Int} (h1 : 0 ≤ lo) : cutG xs (some lo) none = xs.drop lo.toNat := by
  obtain ⟨l, rfl⟩ := Int.eq_ofNat_of_zero_le h1
  unfold cutG
  rw [HT.sIx_none, HT.sIx_nat, Int.toNat_natCast]
  apply List.ext_getElem?
  intro i
  simp only [List.getElem?_take, List.getElem?_drop]
  by_cases c1 : l + i < xs.length
  · rw [show min l xs.length = l by omega, if_pos (by omega)]
  · rw [if_neg (by omega), List.getElem?_eq_none (by omega)]
/-! the script of a law -/
def scriptA (K : PySem.W.Frag) : Sp := conc K fun ss M Q => ∃ (s : Sl) (ns : List Int), ss = [s] ∧ ns.length ≤ 63 ∧ (∀ z ∈ ns, Builtin.Int.intBits z ≤ 1048576) ∧ (∀ M, LsV K s M ((ns.map PyData.int).map .dat)) ∧ ∀ M', Q (.bl true) M'
theorem slall_ints {K : PySem.W.Frag} {B : Hp} : ∀ ns : List Int, SlAll K B (ns.map V.int) ((ns.map PyData.int).map .dat)
  | [] => .nil
  | _ :: ns => .cons slok_int (slall_ints ns)
theorem script_in {K : PySem.W.Frag} {H : Hp} {a : Addr} {ns : List Int} (hl : ns.length ≤ 63) (hb : ∀ z ∈ ns, Builtin.Int.intBits z ≤ 1048576) (hS : SqL K H a (ns.map V.int)) : scriptA K [.ref a] H (fun v _ => v = .bl true) fun _ _ _ => False := by
  have S : Sep K H (fun _ => none) H := ⟨Same.refl H, fun a o e => by cases e⟩
  rcases hS with h | h
  · exact ⟨H, _, [.dat (.list (ns.map .int))], fun s _ => s = .bl true, S, .cons (Dq.lst h (dpa_of (slall_ints ns))) .nil, ⟨_, ns, rfl, hl, hb, fun M => lsv_dat, fun _ => rfl⟩, fun s v M' B' H' e _ _ o => by subst e; exact of_bl o⟩
  · exact ⟨H, _, [.raw (.ref a)], fun s _ => s = .bl true, S, .cons rfl .nil, ⟨_, ns, rfl, hl, hb, fun M => .inr (.inr ⟨a, _, rfl, fun H => .inr h, fun B => slall_ints ns⟩), fun _ => rfl⟩, fun s v M' B' H' e _ _ o => by subst e; exact of_bl o⟩
end Ab

set_option Elab.async false
set_option linter.all false
set_option maxRecDepth 100000
set_option  maxHeartbeats 4000000
/-! Ab7: <, >, <=, >= of data that Python can compare (ints, texts, tuples of them, as far as the first place that differs). -/
namespace Ab
open PySem PySem.SeqAt
open PySem.AutoSeq1 (wpAny_loadPart')
open PySem.MeetsSeq PySem.MeetsSeq2 PySem.MeetsSeq3

def cmpN (op : CmpOp) (a b : Nat) : Bool := match op with
  | .Lt => decide (a < b) | .Gt => decide (a > b) | .LtE => decide (a ≤ b) | .GtE => decide (a ≥ b) | _ => false
def cmpI (op : CmpOp) (a b : Int) : Bool := match op with
  | .Lt => decide (a < b) | .Gt => decide (b < a) | .LtE => decide (a ≤ b) | .GtE => decide (b ≤ a) | _ => false
def cmpS (op : CmpOp) (x y : Str) : Bool := match op with
  | .Lt => decide (x.cps.toList < y.cps.toList) | .Gt => decide (y.cps.toList < x.cps.toList) | .LtE => !decide (y.cps.toList < x.cps.toList) | .GtE => !decide (x.cps.toList < y.cps.toList) | _ => false
mutual
/-- what Python's op answers -/
def cmpV (op : CmpOp) : PyData → PyData → Bool
  | .int a, .int b => cmpI op a b
  | .str a, .str b => cmpS op a b
  | .tuple xs, .tuple ys => cmpVs op (cmpN op xs.length ys.length) xs ys
  | _, _ => false
def cmpVs (op : CmpOp) (z : Bool) : List PyData → List PyData → Bool
  | x :: xs, y :: ys => if PyData.eqv x y then cmpVs op z xs ys else cmpV op x y
  | [], _ => z
  | _ :: _, [] => z
end
mutual
/-- whether Python compares the two -/
def cmpOk : PyData → PyData → Bool
  | .int _, .int _ => true
  | .str _, .str _ => true
  | .tuple xs, .tuple ys => cmpOks xs ys
  | _, _ => false
def cmpOks : List PyData → List PyData → Bool
  | x :: xs, y :: ys => if PyData.eqv x y then cmpOks xs ys else cmpOk x y
  | [], _ => true
  | _ :: _, [] => true
end
/-- y op x answers k, and nothing changes -/
def Rc (op : CmpOp) (A : Around) (s : Shared) (y x : Value) (k : Bool) : Prop :=
  ∀ (prog : Program) (w : World) (E : Value → Shared → Prop) (Q : Value → Shared → Prop), Q (.bool k) s → wpAny (model prog w) A (richCompare op y x) Q E s
/-- pair by pair up to the first that differs -/
inductive Cmp (A : Around) (s : Shared) (op : CmpOp) (z : Bool) : List (Value × Value) → Bool → Prop
  | nil : Cmp A s op z [] z
  | same {y x : Value} {r : List (Value × Value)} {k : Bool} : EqAt A s y x true → Cmp A s op z r k → Cmp A s op z ((y, x) :: r) k
  | stop {y x : Value} {r : List (Value × Value)} {k : Bool} : EqAt A s y x false → Rc op A s y x k → Cmp A s op z ((y, x) :: r) k

section
theorem tup_lt (l b : Addr) (us ws : Array Value) (n m : Nat) (dd dd2 : Option Addr) (sl sl2 : Array (Option Value)) (k : Bool) :
    Meets (Builtin.«tuple.__lt__» ⟨[.ref l, .ref b], []⟩)
      (fun A R s => s.heap.get? l = some { cls := .type "tuple", dict := dd, data := .seq us n, slots := sl } ∧ s.heap.get? b = some { cls := .type "tuple", dict := dd2, data := .seq ws m, slots := sl2 } ∧
        Cmp A.in1 s .Lt (cmpN .Lt us.size ws.size) (us.toList.zip ws.toList) k ∧ R (.ok (.ret (.bool k))) s) := .of_wp fun prog w A R s h => by
  obtain ⟨hp, g, d, tk, os⟩ := s; obtain ⟨hl, hb, hc, h⟩ := h
  have sub := AutoSeq1.sub_tuple_tuple
  wp_walk using wpAny_loadPart' hl, wpAny_loadPart' hb, wpAny_forIn_list _ (fun rest b s' => b.1 = none ∧ s' = ⟨hp, g, d, tk, os⟩ ∧ Cmp A.in1 ⟨hp, g, d, tk, os⟩ .Lt (cmpN .Lt us.size ws.size) rest k) _
  case turn =>
    rintro ⟨y, x⟩ rest b s' ⟨hb', rfl, hc⟩
    cases hc with
    | same he hr =>
      refine wpAny_bind (he prog w _ _ ?_)
      wp_walk
      exact ⟨rfl, rfl, hr⟩
    | stop he hr =>
      refine wpAny_bind (he prog w _ _ ?_)
      refine wpAny_bind (wpAny_rule ?_)
      refine wpAny_bind (hr prog w _ _ ?_)
      wp_walk
      exact ⟨_, rfl, h⟩
  case fin =>
    rintro ⟨b1, b2⟩ s' ⟨hb', rfl, hc⟩
    simp only at hb'
    subst hb'
    cases hc
    wp_walk
    exact ⟨_, rfl, by simpa [Builtin.Tuple.tupleCompareSizes, cmpN] using h⟩
  case h => exact ⟨rfl, rfl, hc⟩
theorem rc_tup_lt {A : Around} {s : Shared} {l b : Addr} {us ws : Array Value} {k : Bool} (hl : s.heap.IsTuple l us) (hb : s.heap.IsTuple b ws) (hu : A.units < cLine) (hc : Cmp A.in1 s .Lt (cmpN .Lt us.size ws.size) (us.toList.zip ws.toList) k) : Rc .Lt A s (.ref l) (.ref b) k := fun prog w E Q h => by
  obtain ⟨⟨_, dd, _, sl⟩, ho, c1, n, d1⟩ := id hl
  obtain ⟨⟨_, dd2, _, sl2⟩, ho2, c2, m, d2⟩ := id hb
  simp only at c1 d1 c2 d2
  subst c1 d1 c2 d2
  exact richCompare_meets_room (op := .Lt) ⟨_, ho, rfl⟩ ⟨_, ho2, rfl⟩ F.slot_tuple_lt F.entry_tuple_lt (F.args_tuple_lt_2 _ _) (tup_lt l b us ws n m dd dd2 sl sl2 k)
    ⟨ho, ho2, hc, show Value.bool k ≠ Value.notImplemented ∧ Q (.bool k) s from ⟨(fun x => nomatch x), h⟩⟩ hu
theorem tup_gt (l b : Addr) (us ws : Array Value) (n m : Nat) (dd dd2 : Option Addr) (sl sl2 : Array (Option Value)) (k : Bool) :
    Meets (Builtin.«tuple.__gt__» ⟨[.ref l, .ref b], []⟩)
      (fun A R s => s.heap.get? l = some { cls := .type "tuple", dict := dd, data := .seq us n, slots := sl } ∧ s.heap.get? b = some { cls := .type "tuple", dict := dd2, data := .seq ws m, slots := sl2 } ∧
        Cmp A.in1 s .Gt (cmpN .Gt us.size ws.size) (us.toList.zip ws.toList) k ∧ R (.ok (.ret (.bool k))) s) := .of_wp fun prog w A R s h => by
  obtain ⟨hp, g, d, tk, os⟩ := s; obtain ⟨hl, hb, hc, h⟩ := h
  have sub := AutoSeq1.sub_tuple_tuple
  wp_walk using wpAny_loadPart' hl, wpAny_loadPart' hb, wpAny_forIn_list _ (fun rest b s' => b.1 = none ∧ s' = ⟨hp, g, d, tk, os⟩ ∧ Cmp A.in1 ⟨hp, g, d, tk, os⟩ .Gt (cmpN .Gt us.size ws.size) rest k) _
  case turn =>
    rintro ⟨y, x⟩ rest b s' ⟨hb', rfl, hc⟩
    cases hc with
    | same he hr =>
      refine wpAny_bind (he prog w _ _ ?_)
      wp_walk
      exact ⟨rfl, rfl, hr⟩
    | stop he hr =>
      refine wpAny_bind (he prog w _ _ ?_)
      refine wpAny_bind (wpAny_rule ?_)
      refine wpAny_bind (hr prog w _ _ ?_)
      wp_walk
      exact ⟨_, rfl, h⟩
  case fin =>
    rintro ⟨b1, b2⟩ s' ⟨hb', rfl, hc⟩
    simp only at hb'
    subst hb'
    cases hc
    wp_walk
    exact ⟨_, rfl, by simpa [Builtin.Tuple.tupleCompareSizes, cmpN] using h⟩
  case h => exact ⟨rfl, rfl, hc⟩
theorem rc_tup_gt {A : Around} {s : Shared} {l b : Addr} {us ws : Array Value} {k : Bool} (hl : s.heap.IsTuple l us) (hb : s.heap.IsTuple b ws) (hu : A.units < cLine) (hc : Cmp A.in1 s .Gt (cmpN .Gt us.size ws.size) (us.toList.zip ws.toList) k) : Rc .Gt A s (.ref l) (.ref b) k := fun prog w E Q h => by
  obtain ⟨⟨_, dd, _, sl⟩, ho, c1, n, d1⟩ := id hl
  obtain ⟨⟨_, dd2, _, sl2⟩, ho2, c2, m, d2⟩ := id hb
  simp only at c1 d1 c2 d2
  subst c1 d1 c2 d2
  exact richCompare_meets_room (op := .Gt) ⟨_, ho, rfl⟩ ⟨_, ho2, rfl⟩ F.slot_tuple_gt F.entry_tuple_gt (F.args_tuple_gt_2 _ _) (tup_gt l b us ws n m dd dd2 sl sl2 k)
    ⟨ho, ho2, hc, show Value.bool k ≠ Value.notImplemented ∧ Q (.bool k) s from ⟨(fun x => nomatch x), h⟩⟩ hu
theorem tup_le (l b : Addr) (us ws : Array Value) (n m : Nat) (dd dd2 : Option Addr) (sl sl2 : Array (Option Value)) (k : Bool) :
    Meets (Builtin.«tuple.__le__» ⟨[.ref l, .ref b], []⟩)
      (fun A R s => s.heap.get? l = some { cls := .type "tuple", dict := dd, data := .seq us n, slots := sl } ∧ s.heap.get? b = some { cls := .type "tuple", dict := dd2, data := .seq ws m, slots := sl2 } ∧
        Cmp A.in1 s .LtE (cmpN .LtE us.size ws.size) (us.toList.zip ws.toList) k ∧ R (.ok (.ret (.bool k))) s) := .of_wp fun prog w A R s h => by
  obtain ⟨hp, g, d, tk, os⟩ := s; obtain ⟨hl, hb, hc, h⟩ := h
  have sub := AutoSeq1.sub_tuple_tuple
  wp_walk using wpAny_loadPart' hl, wpAny_loadPart' hb, wpAny_forIn_list _ (fun rest b s' => b.1 = none ∧ s' = ⟨hp, g, d, tk, os⟩ ∧ Cmp A.in1 ⟨hp, g, d, tk, os⟩ .LtE (cmpN .LtE us.size ws.size) rest k) _
  case turn =>
    rintro ⟨y, x⟩ rest b s' ⟨hb', rfl, hc⟩
    cases hc with
    | same he hr =>
      refine wpAny_bind (he prog w _ _ ?_)
      wp_walk
      exact ⟨rfl, rfl, hr⟩
    | stop he hr =>
      refine wpAny_bind (he prog w _ _ ?_)
      refine wpAny_bind (wpAny_rule ?_)
      refine wpAny_bind (hr prog w _ _ ?_)
      wp_walk
      exact ⟨_, rfl, h⟩
  case fin =>
    rintro ⟨b1, b2⟩ s' ⟨hb', rfl, hc⟩
    simp only at hb'
    subst hb'
    cases hc
    wp_walk
    exact ⟨_, rfl, by simpa [Builtin.Tuple.tupleCompareSizes, cmpN] using h⟩
  case h => exact ⟨rfl, rfl, hc⟩
theorem rc_tup_le {A : Around} {s : Shared} {l b : Addr} {us ws : Array Value} {k : Bool} (hl : s.heap.IsTuple l us) (hb : s.heap.IsTuple b ws) (hu : A.units < cLine) (hc : Cmp A.in1 s .LtE (cmpN .LtE us.size ws.size) (us.toList.zip ws.toList) k) : Rc .LtE A s (.ref l) (.ref b) k := fun prog w E Q h => by
  obtain ⟨⟨_, dd, _, sl⟩, ho, c1, n, d1⟩ := id hl
  obtain ⟨⟨_, dd2, _, sl2⟩, ho2, c2, m, d2⟩ := id hb
  simp only at c1 d1 c2 d2
  subst c1 d1 c2 d2
  exact richCompare_meets_room (op := .LtE) ⟨_, ho, rfl⟩ ⟨_, ho2, rfl⟩ F.slot_tuple_le F.entry_tuple_le (F.args_tuple_le_2 _ _) (tup_le l b us ws n m dd dd2 sl sl2 k)
    ⟨ho, ho2, hc, show Value.bool k ≠ Value.notImplemented ∧ Q (.bool k) s from ⟨(fun x => nomatch x), h⟩⟩ hu
theorem tup_ge (l b : Addr) (us ws : Array Value) (n m : Nat) (dd dd2 : Option Addr) (sl sl2 : Array (Option Value)) (k : Bool) :
    Meets (Builtin.«tuple.__ge__» ⟨[.ref l, .ref b], []⟩)
      (fun A R s => s.heap.get? l = some { cls := .type "tuple", dict := dd, data := .seq us n, slots := sl } ∧ s.heap.get? b = some { cls := .type "tuple", dict := dd2, data := .seq ws m, slots := sl2 } ∧
        Cmp A.in1 s .GtE (cmpN .GtE us.size ws.size) (us.toList.zip ws.toList) k ∧ R (.ok (.ret (.bool k))) s) := .of_wp fun prog w A R s h => by
  obtain ⟨hp, g, d, tk, os⟩ := s; obtain ⟨hl, hb, hc, h⟩ := h
  have sub := AutoSeq1.sub_tuple_tuple
  wp_walk using wpAny_loadPart' hl, wpAny_loadPart' hb, wpAny_forIn_list _ (fun rest b s' => b.1 = none ∧ s' = ⟨hp, g, d, tk, os⟩ ∧ Cmp A.in1 ⟨hp, g, d, tk, os⟩ .GtE (cmpN .GtE us.size ws.size) rest k) _
  case turn =>
    rintro ⟨y, x⟩ rest b s' ⟨hb', rfl, hc⟩
    cases hc with
    | same he hr =>
      refine wpAny_bind (he prog w _ _ ?_)
      wp_walk
      exact ⟨rfl, rfl, hr⟩
    | stop he hr =>
      refine wpAny_bind (he prog w _ _ ?_)
      refine wpAny_bind (wpAny_rule ?_)
      refine wpAny_bind (hr prog w _ _ ?_)
      wp_walk
      exact ⟨_, rfl, h⟩
  case fin =>
    rintro ⟨b1, b2⟩ s' ⟨hb', rfl, hc⟩
    simp only at hb'
    subst hb'
    cases hc
    wp_walk
    exact ⟨_, rfl, by simpa [Builtin.Tuple.tupleCompareSizes, cmpN] using h⟩
  case h => exact ⟨rfl, rfl, hc⟩
theorem rc_tup_ge {A : Around} {s : Shared} {l b : Addr} {us ws : Array Value} {k : Bool} (hl : s.heap.IsTuple l us) (hb : s.heap.IsTuple b ws) (hu : A.units < cLine) (hc : Cmp A.in1 s .GtE (cmpN .GtE us.size ws.size) (us.toList.zip ws.toList) k) : Rc .GtE A s (.ref l) (.ref b) k := fun prog w E Q h => by
  obtain ⟨⟨_, dd, _, sl⟩, ho, c1, n, d1⟩ := id hl
  obtain ⟨⟨_, dd2, _, sl2⟩, ho2, c2, m, d2⟩ := id hb
  simp only at c1 d1 c2 d2
  subst c1 d1 c2 d2
  exact richCompare_meets_room (op := .GtE) ⟨_, ho, rfl⟩ ⟨_, ho2, rfl⟩ F.slot_tuple_ge F.entry_tuple_ge (F.args_tuple_ge_2 _ _) (tup_ge l b us ws n m dd dd2 sl sl2 k)
    ⟨ho, ho2, hc, show Value.bool k ≠ Value.notImplemented ∧ Q (.bool k) s from ⟨(fun x => nomatch x), h⟩⟩ hu
end
/-- the four orders -/
inductive IsCmp : CmpOp → Prop
  | lt : IsCmp .Lt
  | gt : IsCmp .Gt
  | le : IsCmp .LtE
  | ge : IsCmp .GtE
theorem rc_tup {op : CmpOp} (ho : IsCmp op) {A : Around} {s : Shared} {l b : Addr} {us ws : Array Value} {k : Bool} (hl : s.heap.IsTuple l us) (hb : s.heap.IsTuple b ws) (hu : A.units < cLine) (hc : Cmp A.in1 s op (cmpN op us.size ws.size) (us.toList.zip ws.toList) k) : Rc op A s (.ref l) (.ref b) k := by
  cases ho
  · exact rc_tup_lt hl hb hu hc
  · exact rc_tup_gt hl hb hu hc
  · exact rc_tup_le hl hb hu hc
  · exact rc_tup_ge hl hb hu hc
theorem rc_int {op : CmpOp} (ho : IsCmp op) {A : Around} {s : Shared} (i j : Int) (t u : Tok) : Rc op A s (.int i t) (.int j u) (cmpI op i j) := fun prog w E Q h => by
  cases ho
  · exact PySem.P.lt_int h
  · exact PyProof.Rows.gt_int h
  · exact PyProof.Rows.le_int h
  · exact PyProof.Rows.ge_int h
theorem rc_str {op : CmpOp} (ho : IsCmp op) {A : Around} {s : Shared} (x y : Str) (t u : Tok) : Rc op A s (.str x t) (.str y u) (cmpS op x y) := fun prog w E Q h => by
  cases ho
  · exact PySem.P.lt_str h
  · exact PySem.P.gt_str h
  · exact PySem.P.le_str h
  · exact PySem.P.ge_str h
mutual
theorem rc_data {op : CmpOp} (ho : IsCmp op) : ∀ (d e : PyData) (A : Around) (s : Shared) (a b : Value) (as bs : List Addr), Reads s.heap a d as → Reads s.heap b e bs → cmpOk d e = true → d.canLay0 = true → e.canLay0 = true → A.units + min d.depth e.depth < cLine → Rc op A s a b (cmpV op d e)
  | .int i, .int j, A, s, _, _, _, _, ra, rb, _, _, _, _ => by
    cases ra with
    | int _ t => cases rb with
      | int _ u => exact rc_int ho i j t u
  | .str x, .str y, A, s, _, _, _, _, ra, rb, _, _, _, _ => by
    cases ra with
    | str _ t => cases rb with
      | str _ u => exact rc_str ho x y t u
  | .tuple xs, .tuple ys, A, s, _, _, _, _, ra, rb, hc, ha, hb, hu => by
    cases ra with
    | @tuple l o vs n _ as₁ h1 h2 h3 h4 =>
      cases rb with
      | @tuple l' o' vs' n' _ bs₁ k1 k2 k3 k4 =>
        have n1 : vs.size = xs.length := by simpa using ReadsAll.length _ _ _ h4
        have n2 : vs'.size = ys.length := by simpa using ReadsAll.length _ _ _ k4
        refine rc_tup ho ⟨_, h1, h2, _, h3⟩ ⟨_, k1, k2, _, k3⟩ (room_here hu) ?_
        rw [n1, n2]
        exact rc_datas ho xs ys A.in1 s _ _ _ _ _ h4 k4 hc ha hb (room_in hu)
  | .none, _, _, _, _, _, _, _, _, _, h, _, _, _ => by simp [cmpOk] at h
  | .bool _, _, _, _, _, _, _, _, _, _, h, _, _, _ => by simp [cmpOk] at h
  | .list _, _, _, _, _, _, _, _, _, _, h, _, _, _ => by simp [cmpOk] at h
  | .dict _, _, _, _, _, _, _, _, _, _, h, _, _, _ => by simp [cmpOk] at h
  | .int _, .none, _, _, _, _, _, _, _, _, h, _, _, _ => by simp [cmpOk] at h
  | .int _, .bool _, _, _, _, _, _, _, _, _, h, _, _, _ => by simp [cmpOk] at h
  | .int _, .str _, _, _, _, _, _, _, _, _, h, _, _, _ => by simp [cmpOk] at h
  | .int _, .list _, _, _, _, _, _, _, _, _, h, _, _, _ => by simp [cmpOk] at h
  | .int _, .tuple _, _, _, _, _, _, _, _, _, h, _, _, _ => by simp [cmpOk] at h
  | .int _, .dict _, _, _, _, _, _, _, _, _, h, _, _, _ => by simp [cmpOk] at h
  | .str _, .none, _, _, _, _, _, _, _, _, h, _, _, _ => by simp [cmpOk] at h
  | .str _, .bool _, _, _, _, _, _, _, _, _, h, _, _, _ => by simp [cmpOk] at h
  | .str _, .int _, _, _, _, _, _, _, _, _, h, _, _, _ => by simp [cmpOk] at h
  | .str _, .list _, _, _, _, _, _, _, _, _, h, _, _, _ => by simp [cmpOk] at h
  | .str _, .tuple _, _, _, _, _, _, _, _, _, h, _, _, _ => by simp [cmpOk] at h
  | .str _, .dict _, _, _, _, _, _, _, _, _, h, _, _, _ => by simp [cmpOk] at h
  | .tuple _, .none, _, _, _, _, _, _, _, _, h, _, _, _ => by simp [cmpOk] at h
  | .tuple _, .bool _, _, _, _, _, _, _, _, _, h, _, _, _ => by simp [cmpOk] at h
  | .tuple _, .int _, _, _, _, _, _, _, _, _, h, _, _, _ => by simp [cmpOk] at h
  | .tuple _, .str _, _, _, _, _, _, _, _, _, h, _, _, _ => by simp [cmpOk] at h
  | .tuple _, .list _, _, _, _, _, _, _, _, _, h, _, _, _ => by simp [cmpOk] at h
  | .tuple _, .dict _, _, _, _, _, _, _, _, _, h, _, _, _ => by simp [cmpOk] at h
theorem rc_datas {op : CmpOp} (ho : IsCmp op) : ∀ (xs ys : List PyData) (A : Around) (s : Shared) (z : Bool) (vs ws : List Value) (as bs : List Addr), ReadsAll s.heap vs xs as → ReadsAll s.heap ws ys bs → cmpOks xs ys = true → PyData.canLayAll0 xs = true → PyData.canLayAll0 ys = true →
    A.units + min (PyData.depthAll xs) (PyData.depthAll ys) < cLine → Cmp A s op z (vs.zip ws) (cmpVs op z xs ys)
  | [], _, A, s, z, _, _, _, _, ra, _, _, _, _, _ => by cases ra; simp only [List.zip_nil_left, cmpVs]; exact .nil
  | _ :: _, [], A, s, z, _, _, _, _, ra, rb, _, _, _, _ => by cases rb; simp only [List.zip_nil_right, cmpVs]; exact .nil
  | x :: xs, y :: ys, A, s, z, _, _, _, _, ra, rb, hc, ha, hb, hu => by
    cases ra with
    | cons r rs =>
      cases rb with
      | cons r' rs' =>
        rw [PyData.canLayAll0, Bool.and_eq_true] at ha hb
        rw [List.zip_cons_cons]
        have he := eqAt_reads x y A s _ _ _ _ r r' ha.1 hb.1 (room_head hu)
        rw [cmpOks] at hc
        cases hx : PyData.eqv x y with
        | true =>
          rw [hx] at he hc
          rw [cmpVs, hx, if_pos rfl]
          exact .same he (rc_datas ho xs ys A s z _ _ _ _ rs rs' hc ha.2 hb.2 (room_tail hu))
        | false =>
          rw [hx] at he hc
          rw [cmpVs, hx, if_neg Bool.false_ne_true]
          exact .stop he (rc_data ho x y A s _ _ _ _ r r' hc ha.1 hb.1 (room_head hu))
end
end Ab
namespace Ab
open PySem L2
/-- x op y, data that Python can compare -/
def rCmp (op : CmpOp) (K : PySem.W.Frag) : R2 := fun x y H Q => ∃ d e, Dp K H x d ∧ Dp K H y e ∧ cmpOk d e = true ∧ SeqAt.shaped d = true ∧ SeqAt.shaped e = true ∧ Q (.bl (cmpV op d e)) H
theorem op_cmp {X : Cx} {op : CmpOp} (hu : X.A.units + 64 < cLine) (ho : IsCmp op) : OpR X (compareOp op) (rCmp op X.K) := fun pins s σ H x y v u Q I rx ry ⟨d, e, hd, he, hc, sd, se, q⟩ => by
  obtain ⟨_, r1⟩ := Dp.reads I d x v hd rx
  obtain ⟨_, r2⟩ := Dp.reads I e y u he ry
  have z := rc_data ho d e X.A s v u _ _ r1 r2 hc (SeqAt.canLay_of_shaped sd) (SeqAt.canLay_of_shaped se) (SeqAt.room_of_shaped sd hu)
  cases ho <;> exact z _ _ _ _ ⟨.bl _, H, I, rfl, q⟩
theorem op_ltD {X : Cx} (hu : X.A.units + 64 < cLine) : OpR X (compareOp .Lt) (rCmp .Lt X.K) := op_cmp hu .lt
theorem op_gtD {X : Cx} (hu : X.A.units + 64 < cLine) : OpR X (compareOp .Gt) (rCmp .Gt X.K) := op_cmp hu .gt
theorem op_leD {X : Cx} (hu : X.A.units + 64 < cLine) : OpR X (compareOp .LtE) (rCmp .LtE X.K) := op_cmp hu .le
theorem op_geD {X : Cx} (hu : X.A.units + 64 < cLine) : OpR X (compareOp .GtE) (rCmp .GtE X.K) := op_cmp hu .ge
section
variable {K : KX} {M : MH} {Q : Sl → MH → Prop}
theorem w2_cmp {K : PySem.W.Frag} {op : CmpOp} {d e : PyData} (hc : cmpOk d e = true) (h1 : SeqAt.shaped d = true) (h2 : SeqAt.shaped e = true) (q : Q (.bl (cmpV op d e)) M) : W2 K (rCmp op K) (.dat d) (.dat e) M Q := fun B H v w hS o1 o2 Q0 k =>
  ⟨d, e, dq_dp _ _ (dp_same hS.sub _ _ o1), dq_dp _ _ (dp_same hS.sub _ _ o2), hc, h1, h2, k _ _ M B H q (Same.refl B) hS slok_bl⟩
end
end Ab

set_option Elab.async false
set_option linter.all false
set_option maxRecDepth 100000
set_option  maxHeartbeats 4000000
/-! Ab8: the draws of a law (defs that take the state of the draws), comprehensions of draws, join, index, + and slices of tuples. -/
namespace Ab
open PySem L2
theorem room65 {k : Nat} {A : Around} (r : Room k A) : A.units + 65 < cLine := by
  have := r.un
  omega
/-! ### the draws -/
/-- the state of the draws: the script, how far it is read, a number in hand, the seed -/
def DrawL (xs : List Sl) : Prop := ∃ (sc : List Int) (pos cur seed : Int), xs = [.dat (.list (sc.map .int)), .int pos, .int cur, .int seed] ∧ 0 ≤ pos
def A_next : ASp := fun ss M Q => ∃ (p : Addr) (n : Int) (xs : List Sl), ss = [.ref p, .int n] ∧ M p = some (.lst xs) ∧ DrawL xs ∧ 0 < n ∧ n ≤ 10 ^ 40 ∧ ∀ (v : Int) (ys : List Sl), 0 ≤ v → v < n → DrawL ys → Q (.int v) (um M p (.lst ys))
/-- a def that draws something of a sort -/
def A_gen (R : List PyData → Prop) (P : List PyData → PyData → Prop) : ASp := fun ss M Q => ∃ (p : Addr) (xs : List Sl) (ds : List PyData), ss = .ref p :: ds.map .dat ∧ R ds ∧ M p = some (.lst xs) ∧ DrawL xs ∧ ∀ d ys, P ds d → DrawL ys → Q (.dat d) (um M p (.lst ys))
theorem a_next {M : MH} {p : Addr} {n : Int} {ys : List Sl} {Q : Sl → MH → Prop} (hD : DrawL ys) (h0 : 0 < n) (h1 : n ≤ 10 ^ 40) (q : ∀ (v : Int) (zs : List Sl), 0 ≤ v → v < n → DrawL zs → Q (.int v) (um M p (.lst zs))) : A_next [.ref p, .int n] (um M p (.lst ys)) Q :=
  ⟨p, n, ys, rfl, um_same, hD, h0, h1, fun v zs a b c => by rw [um_um]; exact q v zs a b c⟩
theorem a_gen {R : List PyData → Prop} {P : List PyData → PyData → Prop} {M : MH} {p : Addr} {ys : List Sl} {Q : Sl → MH → Prop} (hD : DrawL ys) (ds : List PyData) (hR : R ds) (q : ∀ d zs, P ds d → DrawL zs → Q (.dat d) (um M p (.lst zs))) : A_gen R P (.ref p :: ds.map .dat) (um M p (.lst ys)) Q :=
  ⟨p, ys, ds, rfl, hR, um_same, hD, fun d zs a b => by rw [um_um]; exact q d zs a b⟩
/-- a draw with no more to be told -/
theorem a_gen0 {R : List PyData → Prop} {P : List PyData → PyData → Prop} {M : MH} {p : Addr} {ys : List Sl} {Q : Sl → MH → Prop} (hD : DrawL ys) (hR : R []) (q : ∀ d zs, P [] d → DrawL zs → Q (.dat d) (um M p (.lst zs))) : A_gen R P [.ref p] (um M p (.lst ys)) Q := a_gen hD [] hR q
theorem a_gen1 {R : List PyData → Prop} {P : List PyData → PyData → Prop} {M : MH} {p : Addr} {ys : List Sl} {Q : Sl → MH → Prop} {x : PyData} (hD : DrawL ys) (hR : R [x]) (q : ∀ d zs, P [x] d → DrawL zs → Q (.dat d) (um M p (.lst zs))) : A_gen R P [.ref p, .dat x] (um M p (.lst ys)) Q := a_gen hD [x] hR q
section
variable {K : KX} {ρ : Rho} {M : MH} {Q Q' : Sl → MH → Prop} {ta tb te tc to : TE}
/-- [te for _ in range(n)], te a draw -/
theorem w_lcGen {t : TA} {j : Nat} {vs : List Nat} {p : Addr} (hj : j ∈ vs) (P : PyData → Prop)
    (hl : WA K t ρ M fun ss M1 => ∃ (n : Int) (M0 : MH) (ys : List Sl), ss = [.int n] ∧ M1 = um M0 p (.lst ys) ∧ DrawL ys ∧ n ≤ 100000 ∧ -100000 ≤ n ∧
      (∀ (i : Nat) M2 zs, (i : Int) < n → DrawL zs → W K te ((wipeR ρ vs).set j (some (.int (i : Int)))) (um M2 p (.lst zs)) fun s M4 => ∃ d us, s = .dat d ∧ M4 = um M2 p (.lst us) ∧ DrawL us ∧ P d) ∧
      ∀ ds zs, DrawL zs → ds.length = n.toNat → (∀ d ∈ ds, P d) → Q (.dat (.list ds)) (um M0 p (.lst zs))) : W K (tLc (iRng1 t) (gName j) tYes te vs) ρ M Q :=
  w_lc hj (wi_r1 fun σ B H hR hS Q0 k => hl σ B H hR hS Q0 fun ss ws M' B' H' ⟨n, M0, ys, e1, e2, hD, hn, hn', hs, q⟩ => by
    subst e1 e2
    refine k _ ws _ B' H' ⟨n, rfl, by omega, by omega, fun i acc M2 => ∃ zs, M2 = um M0 p (.lst zs) ∧ DrawL zs ∧ acc.length = i ∧ ∀ d ∈ acc, P d, ⟨ys, rfl, hD, rfl, fun d hd => (nomatch hd)⟩, fun _ _ _ _ _ _ _ _ => trivial, ?_, ?_⟩
    · rintro i acc M2 D hi ⟨zs, rfl, hz, hl, hP⟩ hDn
      refine wt_yes ?_
      have hne : p ≠ D := fun e => by rw [← e, um_same] at hDn; cases hDn
      rw [um_comm hne]
      refine (hs i _ zs (by omega) hz).imp fun s M4 ⟨d, us, e1, e2, hu, hp⟩ => ⟨d, um M0 p (.lst us), e1, ?_, ?_, by omega, us, rfl, hu, by rw [List.length_append, hl]; rfl, fun d' hd' => ?_⟩
      · rw [e2, um_comm hne.symm]
      · rw [um_ne hne.symm] at hDn ⊢
        exact hDn
      · rcases List.mem_append.mp hd' with h | h
        · exact hP d' h
        · rw [List.mem_singleton.mp h]; exact hp
    · rintro acc M2 ⟨zs, rfl, hz, hl, hP⟩
      exact q acc zs hz hl hP)
/-- a comprehension whose list will be changed -/
theorem w_lcM {wi : TI} {tt : TT} {j : Nat} {vs : List Nat} (hj : j ∈ vs) (h : WI K wi ρ M fun n item stay M1 => ∃ J : Nat → List PyData → MH → Prop, J 0 [] M1 ∧ (∀ i acc M', i ≤ n → J i acc M' → ∀ D o, M' D = none → stay (um M' D o)) ∧
    (∀ i acc M' D, i < n → J i acc M' → M' D = none → WT K tt ((wipeR ρ vs).set j (some (item i))) (um M' D (.lst (acc.map .dat))) fun b M3 =>
      if b = true then W K te ((wipeR ρ vs).set j (some (item i))) M3 fun s M4 => ∃ d M5, s = .dat d ∧ M4 = um M5 D (.lst (acc.map .dat)) ∧ M5 D = none ∧ acc.length < 100000 ∧ J (i + 1) (acc ++ [d]) M5
      else ∃ M5, M3 = um M5 D (.lst (acc.map .dat)) ∧ M5 D = none ∧ J (i + 1) acc M5) ∧
    ∀ acc M' D, J n acc M' → M' D = none → Q (.raw (.ref D)) (um M' D (.lst (acc.map .dat)))) : W K (tLc wi (gName j) tt te vs) ρ M Q := fun σ B H hR hS Q0 k =>
  h σ B H hR hS _ fun n item stay M1 B1 H1 It ⟨J, j0, js, jt, je⟩ e1 S1 ok => fun D hD => by
    have hwp : ∀ x, wipe ((wipe σ vs).set j (some x)) vs = wipe σ vs := fun x => by rw [wipe_set _ _ _ _ hj, wipe_wipe]
    refine ⟨fun i m H' => m = n - i ∧ i ≤ n ∧ ∃ acc M' B', J i acc M' ∧ M' D = none ∧ Same B1 B' ∧ Sep K B' (um M' D (.lst (acc.map .dat))) H', ⟨n, by simp, Nat.zero_le _, [], M1, B1, j0, S1.freeM hD, Same.refl _, S1.new hD ⟨[], rfl, .nil⟩⟩, ?_⟩
    rintro i m H' ⟨rfl, hi, acc, M', B', hj', hMD, e2, S2⟩
    by_cases hlt : i < n
    · refine .inr ⟨ok.go i B' _ H' hlt e2 S2 (js i acc M' hi hj' D _ hMD), fun H2 => ∃ acc M2 B2, J (i + 1) acc M2 ∧ M2 D = none ∧ Same B1 B2 ∧ Sep K B2 (um M2 D (.lst (acc.map .dat))) H2, fun H2 ⟨acc, M2, B2, q⟩ => ⟨n - (i + 1), by omega, rfl, hlt, acc, M2, B2, q⟩, fun x H3 y => ?_⟩
      obtain ⟨B3, e3, S3, o3⟩ := ok.yld i B' _ H' x H3 hlt e2 S2 (js i acc M' hi hj' D _ hMD) y
      refine ⟨hwp x, ?_⟩
      have R3 : Rl K B3 ((wipe σ vs).set j (some x)) ((wipeR ρ vs).set j (some (item i))) := Rl.put o3 j ((hR.mono ((e1.trans e2).trans e3)).wiped vs)
      refine jt i acc M' D hlt hj' hMD _ B3 H3 R3 S3 _ fun b M4 B4 H4 q4 e4 S4 => ?_
      have e14 := (e2.trans e3).trans e4
      cases b with
      | true =>
        refine q4 _ B4 H4 (R3.mono e4) S4 _ fun s v M5 B5 H5 ⟨d, M6, es, em, hn6, hl6, hj6⟩ e5 S5 o5 => ?_
        subst es em
        obtain ⟨_, u, hu, ws, rfl, ha⟩ := S5.has D _ um_same
        have hlen := SlAll.len ha
        rw [List.length_map] at hlen
        refine ⟨ws, hu, Nat.lt_of_lt_of_le (by omega) (show 100000 ≤ sizeLine by decide), acc ++ [d], M6, B5, hj6, hn6, e14.trans e5, ?_⟩
        have S6 := S5.put (u := .lst (ws ++ [v])) (o' := .lst ((acc ++ [d]).map .dat)) um_same ⟨_, rfl, by rw [List.map_append]; exact SlAll.app ha (.cons o5 .nil)⟩
        rw [um_um] at S6
        exact S6
      | false =>
        obtain ⟨M5, em, hn5, hj5⟩ := q4
        subst em
        exact ⟨acc, M5, B4, hj5, hn5, e14, S4⟩
    · have ei : i = n := by omega
      subst ei
      refine .inl ⟨ok.stop i B' _ H' (Nat.le_refl _) e2 S2 (js i acc M' hi hj' D _ hMD), ?_⟩
      exact k _ _ _ B' H' (je acc M' D hj' hMD) (e1.trans e2) S2 slok_ref
/-- the same, a list that will be changed -/
theorem w_lcGenM {t : TA} {j : Nat} {vs : List Nat} {p : Addr} (hj : j ∈ vs) (P : PyData → Prop)
    (hl : WA K t ρ M fun ss M1 => ∃ (n : Int) (M0 : MH) (ys : List Sl), ss = [.int n] ∧ M1 = um M0 p (.lst ys) ∧ DrawL ys ∧ n ≤ 100000 ∧ -100000 ≤ n ∧
      (∀ (i : Nat) M2 zs, (i : Int) < n → DrawL zs → W K te ((wipeR ρ vs).set j (some (.int (i : Int)))) (um M2 p (.lst zs)) fun s M4 => ∃ d us, s = .dat d ∧ M4 = um M2 p (.lst us) ∧ DrawL us ∧ P d) ∧
      ∀ (ds : List PyData) (zs : List Sl) (D : Addr), DrawL zs → ds.length = n.toNat → (∀ d ∈ ds, P d) → um M0 p (.lst zs) D = none → Q (.ref D) (um (um M0 p (.lst zs)) D (.lst (ds.map .dat)))) : W K (tLc (iRng1 t) (gName j) tYes te vs) ρ M Q :=
  w_lcM hj (wi_r1 fun σ B H hR hS Q0 k => hl σ B H hR hS Q0 fun ss ws M' B' H' ⟨n, M0, ys, e1, e2, hD, hn, hn', hs, q⟩ => by
    subst e1 e2
    refine k _ ws _ B' H' ⟨n, rfl, by omega, by omega, fun i acc M2 => ∃ zs, M2 = um M0 p (.lst zs) ∧ DrawL zs ∧ acc.length = i ∧ ∀ d ∈ acc, P d, ⟨ys, rfl, hD, rfl, fun d hd => (nomatch hd)⟩, fun _ _ _ _ _ _ _ _ => trivial, ?_, ?_⟩
    · rintro i acc M2 D hi ⟨zs, rfl, hz, hl, hP⟩ hDn
      refine wt_yes ?_
      have hne : p ≠ D := fun e => by rw [← e, um_same] at hDn; cases hDn
      rw [um_comm hne]
      refine (hs i _ zs (by omega) hz).imp fun s M4 ⟨d, us, e1, e2, hu, hp⟩ => ⟨d, um M0 p (.lst us), e1, ?_, ?_, by omega, us, rfl, hu, by rw [List.length_append, hl]; rfl, fun d' hd' => ?_⟩
      · rw [e2, um_comm hne.symm]
      · rw [um_ne hne.symm] at hDn ⊢
        exact hDn
      · rcases List.mem_append.mp hd' with h | h
        · exact hP d' h
        · rw [List.mem_singleton.mp h]; exact hp
    · rintro acc M2 D ⟨zs, rfl, hz, hl, hP⟩ hD2
      exact q acc zs D hz hl hP hD2)
/-- [f(x) for x in a tuple of data], nothing else is touched -/
theorem getD_mapT {α : Type} {enc : α → PyData} {xs : List α} {i : Nat} (h : i < xs.length) : ((xs.map enc).map Sl.dat).getD i .non = .dat (enc xs[i]) := getD_map h
theorem w_lcT {α : Type} {enc : α → PyData} {xs : List α} {tl : TE} {j : Nat} {vs : List Nat} {M1 : MH} (hj : j ∈ vs) (hl : W K tl ρ M fun s M2 => s = .dat (.tuple (xs.map enc)) ∧ M2 = M1) (hz : xs.length ≤ 100000) (f : α → PyData)
    (he : ∀ x D o, x ∈ xs → M1 D = none → W K te ((wipeR ρ vs).set j (some (.dat (enc x)))) (um M1 D o) fun s M' => s = .dat (f x) ∧ M' = um M1 D o) (q : Q (.dat (.list (xs.map f))) M1) : W K (tLc (iTup K tl) (gName j) tYes te vs) ρ M Q :=
  w_lc hj (wi_tup (hl.imp fun s M2 ⟨e1, e2⟩ => by
    subst e1 e2
    refine ⟨_, tpv_dat, fun i acc M' => M' = M2 ∧ acc = (xs.take i).map f, ⟨rfl, by simp⟩, fun _ _ _ _ _ _ _ _ => trivial, fun i acc M' D hi ⟨eM, ea⟩ hD => ?_, fun acc M' ⟨eM, ea⟩ => ?_⟩
    · subst eM ea
      have hi' : i < xs.length := by simpa using hi
      refine wt_yes ?_
      show W K te ((wipeR ρ vs).set j (some (((xs.map enc).map Sl.dat).getD i .non))) _ _
      rw [getD_map hi']
      refine (he xs[i] D _ (List.getElem_mem hi') hD).imp fun s M' ⟨e1, e2⟩ => ⟨f xs[i], _, e1, e2, hD, ?_, rfl, ?_⟩
      · rw [List.length_map, List.length_take]
        omega
      · rw [List.take_succ_eq_append_getElem hi', List.map_append]
        rfl
    · subst eM ea
      rw [List.length_map, List.length_map, List.take_length]
      exact q))
/-- for _ in range(n), n found on the way -/
theorem ws_forRn {nx bk ct : Rho → MH → Prop} {rt : Sl → MH → Prop} {t : TA} {g : TG} {tb : TS} (h : WA K t ρ M fun xs M1 => ∃ n : Int, xs = [.int n] ∧ -(2 ^ 62) ≤ n ∧ n < 2 ^ 62 ∧ ∃ J : Nat → Rho → MH → Prop, J 0 ρ M1 ∧
    (∀ (i : Nat) ρ' M', (i : Int) < n → J i ρ' M' → WG K g (.int (i : Int)) ρ' M' fun ρ2 M2 => WS K tb ρ2 M2 ⟨J (i + 1), rt, nx, J (i + 1)⟩) ∧ ∀ ρ' M', J n.toNat ρ' M' → nx ρ' M') : WS K (tFor (iRng1 t) g tb) ρ M ⟨nx, rt, bk, ct⟩ :=
  ws_for (wi_r1 fun σ B H hR hS Q0 k => h σ B H hR hS Q0 fun ss vs M' B' H' ⟨n, e1, h1, h2, J, j0, js, je⟩ => by
    subst e1
    exact k _ vs _ B' H' ⟨n, rfl, h1, h2, J, j0, fun _ _ _ _ _ => trivial, fun i ρ' M' hi hj => js i ρ' M' (by omega) hj, je⟩)
/-! ### one of a list -/
theorem w2_ixAny {K : PySem.W.Frag} {ds : List PyData} {i : Int} (h0 : 0 ≤ i) (h : i < ds.length) (q : ∀ d ∈ ds, Q (.dat d) M) : W2 K (rIxL K) (.dat (.list ds)) (.int i) M Q := by
  have hi : i.toNat < ds.length := by omega
  refine w2_ixL (x := .dat ds[i.toNat]) lsv_dat ?_ (q _ (List.getElem_mem hi))
  rw [atI_map, atI_ok h0 (List.getElem?_eq_getElem hi)]
  rfl
/-! ### tuples: slices, + -/
theorem cutG_all {α : Type} {xs : List α} {lo hi : Option Int} (h : HT.sIx xs.length 0 lo = 0 ∧ HT.sIx xs.length xs.length hi = xs.length) : cutG xs lo hi = xs := by
  unfold cutG
  rw [h.1, h.2]
  simp
theorem wsl_tup {K : PySem.W.Frag} {ds : List PyData} {lo hi : Option Int} (q : Q (.dat (.tuple (cutG ds lo hi))) M) : WSl K (rSlA K) (.dat (.tuple ds)) lo hi M Q := fun B H v hS o Q0 k => by
  obtain ⟨a, vs, rfl, hq, ha⟩ := (tpv_dat (ds := ds)).get hS o
  have hl := DqAll.length (dpa_of ha)
  refine ⟨a, vs, rfl, hq, fun hw => ?_, fun hw p hp => ?_⟩
  · rw [hl] at hw
    rw [cutG_all hw] at q
    exact k _ _ M B H q (Same.refl B) hS o
  · exact k _ _ M (upd B p (.tup (cutV vs lo hi))) _ q (same_new (hS.freeB hp)) (hS.alloc hp) (tup_ok (dpa_cut (dpa_of ha) lo hi) (hS.freeB hp))
theorem w2_catT {K : PySem.W.Frag} {ds es : List PyData} (hl : ds.length + es.length ≤ 100000) (q : Q (.dat (.tuple (ds ++ es))) M) : W2 K (rCatA K) (.dat (.tuple ds)) (.dat (.tuple es)) M Q := fun B H v w hS o1 o2 Q0 k => by
  obtain ⟨a, vs, rfl, hq, ha⟩ := (tpv_dat (ds := ds)).get hS o1
  obtain ⟨b, ws, rfl, hq2, ha2⟩ := (tpv_dat (ds := es)).get hS o2
  have l1 := DqAll.length (dpa_of ha)
  have l2 := DqAll.length (dpa_of ha2)
  refine ⟨a, b, vs, ws, rfl, rfl, hq, hq2, Nat.le_trans (by omega) (show 100000 ≤ sizeLine by decide), fun e => ?_, fun _ e => ?_, fun _ _ p hp => ?_⟩
  · subst e
    cases ds with
    | nil => exact k _ _ M B H q (Same.refl B) hS o2
    | cons _ _ => cases l1
  · subst e
    cases es with
    | nil => rw [List.append_nil] at q; exact k _ _ M B H q (Same.refl B) hS o1
    | cons _ _ => cases l2
  · exact k _ _ M (upd B p (.tup (vs ++ ws))) _ q (same_new (hS.freeB hp)) (hS.alloc hp) (tup_ok (DqAll.app (dpa_of ha) (dpa_of ha2)) (hS.freeB hp))
theorem wl_min {K : PySem.W.Frag} {i j : Int} (q : Q (.int (if j < i then j else i)) M) : WL K (fun xs H Q => ∃ i j, xs = [.int i, .int j] ∧ Q (.int (if j < i then j else i)) H) [.dat (.int i), .dat (.int j)] M Q := fun B H vs hS o Q0 k => by
  cases o with
  | cons o1 o2 => cases o2 with
    | cons o2 o3 =>
      cases o3
      exact ⟨i, j, by rw [of_int o1, of_int o2], k _ _ M B H q (Same.refl B) hS slok_int⟩
/-! ### texts -/
theorem dpa_strs {K : PySem.W.Frag} {B : Hp} : ∀ {vs : List V} {ys : List Str}, DqAll K B vs (ys.map .str) → vs = ys.map V.str
  | _, [], .nil => rfl
  | _, _ :: _, .cons h t => by
    cases h
    rw [dpa_strs t]
    rfl
abbrev rJoin (K : PySem.W.Frag) : V → List V → Hp → VK → Prop := fun x xs H Q => ∃ a p, ∃ ys : List Str, x = .str a ∧ xs = [.ref p] ∧ (SqL K H p (ys.map V.str) ∨ SqT K H p (ys.map V.str)) ∧ (ys.map (·.length)).sum + ys.length * a.length ≤ 16777216 ∧ Q (.str (Txt.join a ys)) H
theorem w_join (h : W K to ρ M fun s M1 => ∃ a, s = .str a ∧ W K te ρ M1 fun x M2 => ∃ ys : List Str, x = .dat (.list (ys.map .str)) ∧ (ys.map (·.length)).sum + ys.length * a.length ≤ 16777216 ∧ Q (.str (Txt.join a ys)) M2) : W K (tM1 (rJoin K) to te) ρ M Q := fun σ B H hR hS Q0 k =>
  h σ B H hR hS _ fun s v M1 B1 H1 ⟨a, es, h1⟩ e1 S1 o1 => by
    subst es
    refine ⟨⟨a, of_str o1⟩, h1 σ B1 H1 (hR.mono e1) S1 _ fun x w M2 B2 H2 ⟨ys, ex, hl, q⟩ e2 S2 o2 => ?_⟩
    subst ex
    obtain ⟨p, vs, rfl, hq, ha⟩ := (lsv_dat (K := K) (ds := ys.map .str) (M := M2)).get S2 o2
    have ev := dpa_strs (dpa_of ha)
    subst ev
    exact ⟨a, p, ys, of_str o1, rfl, .inl hq, hl, k _ _ M2 B2 H2 q (e1.trans e2) S2 slok_str⟩
/-! ### index -/
abbrev rTIndex (K : PySem.W.Frag) : V → List V → Hp → VK → Prop := fun x xs H Q => ∃ p, ∃ ys : List Str, ∃ z j, x = .ref p ∧ xs = [.str z] ∧ SqT K H p (ys.map V.str) ∧ ys[j]? = some z ∧ (∀ m, m < j → ys[m]? ≠ some z) ∧ Q (.int (j : Nat)) H
/-- a tuple of texts of the module -/
def TupC (K : PySem.W.Frag) (c : Addr) (ys : List Str) : Prop := (∃ o, K.lookup c = some o ∧ o.cls = .type "tuple" ∧ o.dict = none) ∧ ∀ H, SqT K H c (ys.map V.str)
theorem wm_tindex {K : PySem.W.Frag} {ys : List Str} {z : Str} {j : Nat} {c : Addr} (hc : TupC K c ys) (h1 : ys[j]? = some z) (h2 : ∀ m, m < j → ys[m]? ≠ some z) (q : Q (.int (j : Nat)) M) : WM K (rTIndex K) (.raw (.ref c)) [.str z] M Q := fun B H v vs hS o1 o2 Q0 k => by
  cases o2 with
  | cons a b =>
    cases b
    exact ⟨c, ys, z, j, o1, by rw [of_str a], hc.2 H, h1, h2, k _ _ M B H q (Same.refl B) hS slok_int⟩
theorem ty_tupC {K : PySem.W.Frag} {ys : List Str} {c : Addr} (hc : TupC K c ys) : ∀ B H v, Sep K B M H → SlOk K B v (.raw (.ref c)) → tyV K "tuple" v H := fun B H v S o => by
  obtain ⟨ob, h⟩ := hc.1
  have e : v = .ref c := o
  subst e
  exact .inr (.inl ⟨rfl, ob, h⟩)
theorem wm_index {K : PySem.W.Frag} {ds : List PyData} {d z : PyData} {j : Nat} (s1 : SeqAt.shaped (.list ds) = true) (s2 : SeqAt.shaped d = true) (h1 : ds[j]? = some z) (h2 : PyData.eqv z d = true) (h3 : ∀ (m : Nat) (z' : PyData), m < j → ds[m]? = some z' → PyData.eqv z' d = false) (q : Q (.int (j : Nat)) M) : WM K (rIndexD K) (.dat (.list ds)) [.dat d] M Q := fun B H v vs hS o1 o2 Q0 k => by
  obtain ⟨a, us, rfl, hq, ha⟩ := (lsv_dat (K := K) (ds := ds) (M := M)).get hS o1
  cases o2 with
  | cons x y =>
    cases y
    exact ⟨a, _, d, ds, j, z, rfl, rfl, dq_dp _ _ (dp_same hS.sub _ _ o1), dq_dp _ _ (dp_same hS.sub _ _ x), s1, s2, h1, h2, h3, k _ _ M B H q (Same.refl B) hS slok_int⟩
end
end Ab

set_option Elab.async false
set_option linter.all false
set_option maxRecDepth 100000
set_option  maxHeartbeats 4000000
/-! Ab9: instances (fields, methods, making), calls that may raise, raise, try. -/
namespace L2
open PySem PySem.Spec PyProof.Rows
section
variable {X : Cx} {CX : CXT} {k : Nat} {f C : Addr} {fd : FuncData} {ps : List Str} {sp : Sp} {dvs : List V} {ds : List Value} {E : St → XK} {x m : Str} {p pos apos : Pos} {e o : Expr} {es : List Expr} {ta : TE} {t : TA}
/-- what stands behind o.m(..), as the model reads it -/
def IsMCall (X : Cx) (o : Expr) (m : Str) (es : List Expr) (apos pos : Pos) (pl : Sem Bool) : Prop :=
  eval (.Call (.Attribute o m apos) es [] pos) X.env = (do let ov ← eval o X.env; standAt apos.atName; let (f, first) ← holding [ov] (getMethod ov m pl); callWith pos f first (backTo pos (starEach es X.env)) (backToKw pos (keywordEach [] X.env)))
/-- o.m(..): what it lets out may hang on the slots -/
def tMethD (C : Addr) (m : Str) (sp : Sp) (dvs : List V) (E : St → XK) (ta : TE) (t : TA) : TE := fun σ H Q =>
  ta σ H fun x H1 => ∃ a dx fs, x = .ref a ∧ H1 a = some (.ins C dx fs) ∧ fs.lookup m = none ∧ t σ H1 fun vs H2 => sp (x :: (vs ++ dvs)) H2 Q (E σ)
theorem pe_methD {pl : Sem Bool} (he : PE X o ta) (c : Cls X.K C) (hm : Meth X.K C m f) (F : FnOk X.prog X.w X.K X.mg X.base CX k f fd ps sp) (hr : Room k X.A) (hb : Binds X.K fd ps ds) (hd : Vals dvs ds) (hx : ∀ σ, PassesAt CX X σ (E σ)) (ha : PA X (e :: es) t)
    (h1 : starEach (e :: es) X.env = (false, eval e X.env) :: starEach es X.env := by rfl) (h2 : (backTo pos (starEach es X.env)).any (·.1) = false := by rfl) (h3 : IsMCall X o m (e :: es) apos pos pl := by rfl) : PE X (.Call (.Attribute o m apos) (e :: es) [] pos) (tMethD C m sp dvs E ta t) :=
  ⟨fun pins s σ H Q I h => PySem.W.methodCall_KW (pl := pl) (thn (he.run pins s σ H _ I h) fun u s1 ⟨_, H1, I1, rx, a, dx, fs, ex, ea, l, q⟩ => by
    cases ex
    cases rx
    exact getmeth_ok I1 ea c hm l (PySem.W.callWith_K (first := [.ref a]) (h₀ := X.base) I.ok.mod.kin hm.kp (thn (ha.run pos pins s1 σ H1 _ I1 q) fun us s2 ⟨vs, H2, I2, r, q2⟩ => ⟨I2.kIn, run_fnSD (us := .ref a :: us) (vs := .ref a :: vs) F hr hb hd (hx σ) I2 (.cons rfl r) q2⟩) h1 h2)) h3⟩
theorem pe_methD0 {pl : Sem Bool} (he : PE X o ta) (c : Cls X.K C) (hm : Meth X.K C m f) (F : FnOk X.prog X.w X.K X.mg X.base CX k f fd ps sp) (hr : Room k X.A) (hb : Binds X.K fd ps ds) (hd : Vals dvs ds) (hx : ∀ σ, PassesAt CX X σ (E σ))
    (h3 : IsMCall X o m [] apos pos pl := by rfl) : PE X (.Call (.Attribute o m apos) [] [] pos) (tMethD C m sp dvs E ta tNil) :=
  ⟨fun pins s σ H Q I h => PySem.W.methodCall_KW (pl := pl) (thn (he.run pins s σ H _ I h) fun u s1 ⟨_, H1, I1, rx, a, dx, fs, ex, ea, l, q⟩ => by
    cases ex
    cases rx
    exact getmeth_ok I1 ea c hm l (PySem.W.callWith_K0 (first := [.ref a]) I1.kIn hm.kp (run_fnSD (us := [.ref a]) (vs := [.ref a]) F hr hb hd (hx σ) I1 (.cons rfl .nil) q))) h3⟩
theorem pe_callSD0 (F : FnOk X.prog X.w X.K X.mg X.base CX k f fd ps sp) (hr : Room k X.A) (hg : Gl X x) (hm : X.mg x = some (.ref f)) (hk : PySem.W.keepIn X.K (.ref f) = true) (hb : Binds X.K fd ps ds) (hd : Vals dvs ds) (hx : ∀ σ, PassesAt CX X σ (E σ))
    (hdb : (x == ("__debug__" : Str)) = false := by decide) : PE X (.Call (.Name x p) [] [] pos) (tCallSD sp dvs E tNil) :=
  ⟨fun pins s σ H Q I h => wpAny_Call_Name_kw (ld_glob I hg hm (PySem.W.callWith_K0 I.kIn hk (run_fnSD (us := []) F hr hb hd (hx σ) I .nil h)) hdb)⟩
/-- C(..) -/
def tMakeD (C : Addr) (sp : Sp) (dvs : List V) (E : St → XK) (t : TA) : TE := fun σ H Q => t σ H fun vs H1 => ∀ x dx, H1 x = none → H1 dx = none → dx ≠ x →
  sp (.ref x :: (vs ++ dvs)) (upd (upd H1 dx (.own x)) x (.ins C dx [])) (fun v H2 => v = .non ∧ Q (.ref x) H2) (E σ)
theorem run_makeD {pins : List (Addr × Obj)} {σ : St} {H : Hp} {s : Shared} {Q : VK} {us : List Value} {vs : List V} (M : Mk X.K C f) (F : FnOk X.prog X.w X.K X.mg X.base CX k f fd ps sp) (hr : Room (k + 1) X.A) (hb : Binds X.K fd ps ds) (hd : Vals dvs ds) (hx : PassesAt CX X σ (E σ)) (I : Inv X pins σ H s) (r : Vals vs us)
    (h : ∀ x dx, H x = none → H dx = none → dx ≠ x → sp (.ref x :: (vs ++ dvs)) (upd (upd H dx (.own x)) x (.ins C dx [])) (fun v H2 => v = .non ∧ Q (.ref x) H2) (E σ)) : wpAny (model X.prog X.w) X.A (call (.ref C) us) (EP X pins σ Q) X.xe s := by
  let n := s.heap.objs.size
  have now := h (n + 1) n (I.hok.fresh (Nat.le_succ _)) (I.hok.fresh (Nat.le_refl _)) (Nat.ne_of_lt (Nat.lt_succ_self _))
  have J := Inv.made (C := C) I
  have all : Vals (V.ref (n + 1) :: (vs ++ dvs)) (Value.ref (n + 1) :: (us ++ ds)) := .cons rfl (r.append hd)
  have count : (Value.ref (n + 1) :: us ++ ds).length = ps.length := all.length.symm.trans (F.len _ _ _ _ now)
  have bound := hb _ (Value.ref (n + 1) :: us) J.kIn count
  refine wpAny_call (make_map (f := f) I.kIn M.makes M.init (beq_iff_eq.mp M.fn) (codeAny_mono (F.run _ X.stack _ _ ⟨_, []⟩ _ _ _ (E σ) (hr.make C us []) (J.env0.make C us []) bound all now) fun out s' ho => ?_))
  match out, ho with
  | .error e, ho => exact hx pins _ _ e s' J ho
  | .ok (.ret u), ho =>
    obtain ⟨v, H', I3, rv, rfl, q⟩ := J.after ho
    exact ⟨rv, V.ref (n + 1), H', I3, rfl, q⟩
theorem pe_makeD (M : Mk X.K C f) (F : FnOk X.prog X.w X.K X.mg X.base CX k f fd ps sp) (hr : Room (k + 1) X.A) (hg : Gl X x) (hm : X.mg x = some (.ref C)) (hb : Binds X.K fd ps ds) (hd : Vals dvs ds) (hx : ∀ σ, PassesAt CX X σ (E σ)) (ha : PA X (e :: es) t) (hdb : (x == ("__debug__" : Str)) = false := by decide)
    (h1 : starEach (e :: es) X.env = (false, eval e X.env) :: starEach es X.env := by rfl) (h2 : (backTo pos (starEach es X.env)).any (·.1) = false := by rfl) : PE X (.Call (.Name x p) (e :: es) [] pos) (tMakeD C sp dvs E t) :=
  ⟨fun pins s σ H Q I h => wpAny_Call_Name_kw (ld_glob I hg hm (PySem.W.callWith_K (h₀ := X.base) I.ok.mod.kin M.kp (thn (ha.run pos pins s σ H _ I h) fun us s1 ⟨vs, H1, I1, r, q⟩ => ⟨I1.kIn, run_makeD M F hr hb hd (hx σ) I1 r q⟩) h1 h2) hdb)⟩
theorem pe_makeD0 (M : Mk X.K C f) (F : FnOk X.prog X.w X.K X.mg X.base CX k f fd ps sp) (hr : Room (k + 1) X.A) (hg : Gl X x) (hm : X.mg x = some (.ref C)) (hb : Binds X.K fd ps ds) (hd : Vals dvs ds) (hx : ∀ σ, PassesAt CX X σ (E σ)) (hdb : (x == ("__debug__" : Str)) = false := by decide) :
    PE X (.Call (.Name x p) [] [] pos) (tMakeD C sp dvs E tNil) :=
  ⟨fun pins s σ H Q I h => wpAny_Call_Name_kw (ld_glob I hg hm (PySem.W.callWith_K0 I.kIn M.kp (run_makeD (us := []) M F hr hb hd (hx σ) I .nil h)) hdb)⟩
end
end L2
namespace Ab
open PySem PySem.Spec PyProof.Rows L2
/-! ### what a def that may raise promises -/
abbrev ASpX := List Sl → MH → (Sl → MH → Prop) → (Value → Option Addr → MH → Prop) → Prop
def concX (K : PySem.W.Frag) (A : ASpX) : Sp := fun vs H Q E => ∃ (B : Hp) (M : MH) (ss : List Sl) (QA : Sl → MH → Prop) (XA : Value → Option Addr → MH → Prop), Sep K B M H ∧ SlAll K B vs ss ∧ A ss M QA XA ∧
  (∀ s v M' B' H', QA s M' → Same B B' → Sep K B' M' H' → SlOk K B' v s → Q v H') ∧ ∀ C d M' B' H', XA C d M' → Same B B' → Sep K B' M' H' → E C d H'
/-- one that raises nothing, read so -/
abbrev noX (A : ASp) : ASpX := fun ss M Q _ => A ss M Q
section
variable {K : KX} {ρ : Rho} {M : MH} {Q Q' : Sl → MH → Prop} {ta tb te tc : TE} {P : AE} {nx bk ct : Rho → MH → Prop} {rt : Sl → MH → Prop}
theorem conc_x {F : PySem.W.Frag} {A : ASpX} {vs : List V} {H : Hp} {Q0 : VK} {E : XK} {B : Hp} {M : MH} {ss : List Sl} {QA : Sl → MH → Prop} {XA : Value → Option Addr → MH → Prop} (S : Sep F B M H) (o : SlAll F B vs ss) (h : A ss M QA XA)
    (k : ∀ s v M' B' H', QA s M' → Same B B' → Sep F B' M' H' → SlOk F B' v s → Q0 v H') (x : ∀ C d M' B' H', XA C d M' → Same B B' → Sep F B' M' H' → E C d H') : concX F A vs H Q0 E := ⟨B, M, ss, QA, XA, S, o, h, k, x⟩
theorem w_callX {A : ASpX} {t : TA} (h : WA K t ρ M fun ss M1 => A ss M1 Q fun C d M2 => K.X C d ρ M2) : W K (tCallSD (concX K.K A) [] (WE K.W) t) ρ M Q := fun σ B H hR hS Q0 k =>
  h σ B H hR hS _ fun ss vs M1 B1 H1 q e1 S1 o1 => conc_x S1 (by rw [List.append_nil]; exact o1) q (fun s v M2 B2 H2 q2 e2 S2 o2 => k s v M2 B2 H2 q2 (e1.trans e2) S2 o2)
    (fun C d M2 B2 H2 x e2 S2 => hR.x C d ρ M2 σ B2 H2 x (e1.trans e2) (hR.r.mono (e1.trans e2)) S2)
/-! ### instances -/
theorem slks_get {F : PySem.W.Frag} {B : Hp} {f : Str} {s : Sl} : ∀ {vs : List (Str × V)} {fs : List (Str × Sl)}, SlKs F B vs fs → fs.lookup f = some s → ∃ v, vs.lookup f = some v ∧ SlOk F B v s
  | _, _, .nil, e => nomatch e
  | (g, v) :: vs, (g', s') :: fs, .cons ⟨h1, h2⟩ t, e => by
    cases h1
    rw [List.lookup_cons] at e ⊢
    cases hb : f == g with
    | true => rw [hb] at e; cases e; exact ⟨v, rfl, h2⟩
    | false => rw [hb] at e; exact slks_get t e
theorem slks_none {F : PySem.W.Frag} {B : Hp} {f : Str} : ∀ {vs : List (Str × V)} {fs : List (Str × Sl)}, SlKs F B vs fs → fs.lookup f = none → vs.lookup f = none
  | _, _, .nil, _ => rfl
  | (g, v) :: vs, (g', s') :: fs, .cons ⟨h1, h2⟩ t, e => by
    cases h1
    rw [List.lookup_cons] at e ⊢
    cases hb : f == g with
    | true => rw [hb] at e; cases e
    | false => rw [hb] at e; exact slks_none t e
def putS (f : Str) (s : Sl) : List (Str × Sl) → List (Str × Sl)
  | [] => [(f, s)]
  | (g, x) :: r => if g = f then (g, s) :: r else (g, x) :: putS f s r
theorem slks_put {F : PySem.W.Frag} {B : Hp} {f : Str} {s : Sl} {v : V} (o : SlOk F B v s) : ∀ {vs : List (Str × V)} {fs : List (Str × Sl)}, SlKs F B vs fs → SlKs F B (putF f v vs) (putS f s fs)
  | _, _, .nil => .cons ⟨rfl, o⟩ .nil
  | (g, x) :: vs, (g', y) :: fs, .cons ⟨h1, h2⟩ t => by
    cases h1
    unfold putF putS
    by_cases e : g = f
    · rw [if_pos e, if_pos e]; exact .cons ⟨rfl, o⟩ t
    · rw [if_neg e, if_neg e]; exact .cons ⟨rfl, h2⟩ (slks_put o t)
theorem w_fld {f : Str} (h : W K ta ρ M fun s M1 => ∃ a C dx fs x, s = .raw (.ref a) ∧ M1 a = some (.ins C dx fs) ∧ Cls K.K C ∧ NoAttr K.K C f ∧ fs.lookup f = some x ∧ Q x M1) : W K (tFld K.K ta f) ρ M Q := fun σ B H hR hS Q0 k =>
  h σ B H hR hS _ fun s v M1 B1 H1 ⟨a, C, dx, fs, x, es, hM, c, n, l, q⟩ e1 S1 o1 => by
    subst es
    have ev : v = .ref a := o1
    subst ev
    obtain ⟨_, u, hu, vs, rfl, hv⟩ := S1.has a _ hM
    obtain ⟨y, hy, oy⟩ := slks_get hv l
    exact ⟨a, C, dx, vs, y, rfl, hu, c, n, hy, k x y M1 B1 H1 q e1 S1 oy⟩
theorem ws_fld {f : Str} (h : W K te ρ M fun s M1 => W K ta ρ M1 fun o M2 => ∃ a C dx fs, o = .raw (.ref a) ∧ M2 a = some (.ins C dx fs) ∧ Cls K.K C ∧ NoAttr K.K C f ∧ fs.length < 1000 ∧ nx ρ (um M2 a (.ins C dx (putS f s fs)))) : WS K (sFld K.K ta te f) ρ M ⟨nx, rt, bk, ct⟩ := fun σ B H D hR hS p1 p2 p3 p4 =>
  h σ B H hR hS _ fun s v M1 B1 H1 h1 e1 S1 o1 => h1 σ B1 H1 (hR.mono e1) S1 _ fun o w M2 B2 H2 ⟨a, C, dx, fs, eo, hM, c, n, hl, q⟩ e2 S2 o2 => by
    subst eo
    have ev : w = .ref a := o2
    subst ev
    obtain ⟨_, u, hu, vs, rfl, hv⟩ := S2.has a _ hM
    refine ⟨a, C, dx, vs, rfl, hu, c, n, by rw [Paired.length hv]; exact hl, ?_⟩
    exact p1 ρ _ σ B2 _ q (e1.trans e2) (hR.mono (e1.trans e2)) (S2.put hM ⟨_, rfl, slks_put (o1.mono e2) hv⟩)
theorem w_meth {C : Addr} {m : Str} {A : ASp} {E : XK} {t : TA} (h : W K ta ρ M fun s M1 => ∃ a dx fs, s = .raw (.ref a) ∧ M1 a = some (.ins C dx fs) ∧ fs.lookup m = none ∧ WA K t ρ M1 fun ss M2 => A (.raw (.ref a) :: ss) M2 Q) : W K (tMeth C m (conc K.K A) [] E ta t) ρ M Q := fun σ B H hR hS Q0 k =>
  h σ B H hR hS _ fun s v M1 B1 H1 ⟨a, dx, fs, es, hM, l, h1⟩ e1 S1 o1 => by
    subst es
    have ev : v = .ref a := o1
    subst ev
    obtain ⟨_, u, hu, vs, rfl, hv⟩ := S1.has a _ hM
    refine ⟨a, dx, vs, rfl, hu, slks_none hv l, ?_⟩
    exact h1 σ B1 H1 (hR.mono e1) S1 _ fun ss ws M2 B2 H2 q e2 S2 o2 => ⟨B2, M2, _, Q, S2, by rw [List.append_nil]; exact .cons rfl o2, q, fun s v M3 B3 H3 q3 e3 S3 o3 => k s v M3 B3 H3 q3 ((e1.trans e2).trans e3) S3 o3⟩
theorem w_methX {C : Addr} {m : Str} {A : ASpX} {t : TA} (h : W K ta ρ M fun s M1 => ∃ a dx fs, s = .raw (.ref a) ∧ M1 a = some (.ins C dx fs) ∧ fs.lookup m = none ∧ WA K t ρ M1 fun ss M2 => A (.raw (.ref a) :: ss) M2 Q fun C d M3 => K.X C d ρ M3) : W K (tMethD C m (concX K.K A) [] (WE K.W) ta t) ρ M Q := fun σ B H hR hS Q0 k =>
  h σ B H hR hS _ fun s v M1 B1 H1 ⟨a, dx, fs, es, hM, l, h1⟩ e1 S1 o1 => by
    subst es
    have ev : v = .ref a := o1
    subst ev
    obtain ⟨_, u, hu, vs, rfl, hv⟩ := S1.has a _ hM
    refine ⟨a, dx, vs, rfl, hu, slks_none hv l, ?_⟩
    exact h1 σ B1 H1 (hR.mono e1) S1 _ fun ss ws M2 B2 H2 q e2 S2 o2 => conc_x S2 (by rw [List.append_nil]; exact .cons rfl o2) q (fun s v M3 B3 H3 q3 e3 S3 o3 => k s v M3 B3 H3 q3 ((e1.trans e2).trans e3) S3 o3)
      (fun C d M3 B3 H3 x e3 S3 => hR.x C d ρ M3 σ B3 H3 x ((e1.trans e2).trans e3) (hR.r.mono ((e1.trans e2).trans e3)) S3)
/-- a new instance -/
theorem sep_make {F : PySem.W.Frag} {B H : Hp} {M : MH} {x dx C : Addr} (S : Sep F B M H) (h1 : H x = none) (h2 : H dx = none) (hne : dx ≠ x) : Sep F (upd B dx (.own x)) (um M x (.ins C dx [])) (upd (upd H dx (.own x)) x (.ins C dx [])) :=
  (S.alloc h2).new (by rw [upd_ne hne.symm]; exact h1) ⟨[], rfl, .nil⟩
theorem w_make {C : Addr} {A : ASp} {E : XK} {t : TA} (h : WA K t ρ M fun ss M1 => ∀ x dx, M1 x = none → A (.raw (.ref x) :: ss) (um M1 x (.ins C dx [])) fun s M2 => s = .non ∧ Q (.raw (.ref x)) M2) : W K (tMake C (conc K.K A) [] E t) ρ M Q := fun σ B H hR hS Q0 k =>
  h σ B H hR hS _ fun ss vs M1 B1 H1 q e1 S1 o1 x dx hx hdx hne =>
    have e2 : Same B1 (upd B1 dx (.own x)) := same_new (S1.freeB hdx)
    ⟨_, _, _, _, sep_make S1 hx hdx hne, by rw [List.append_nil]; exact .cons rfl (o1.mono e2), q x dx (S1.freeM hx), fun s v M2 B2 H2 ⟨es, q2⟩ e3 S2 o2 => by
      subst es
      exact ⟨of_non o2, k _ _ M2 B2 H2 q2 ((e1.trans e2).trans e3) S2 slok_ref⟩⟩
theorem w_makeX {C : Addr} {A : ASpX} {t : TA} (h : WA K t ρ M fun ss M1 => ∀ x dx, M1 x = none → A (.raw (.ref x) :: ss) (um M1 x (.ins C dx [])) (fun s M2 => s = .non ∧ Q (.raw (.ref x)) M2) fun C d M3 => K.X C d ρ M3) : W K (tMakeD C (concX K.K A) [] (WE K.W) t) ρ M Q := fun σ B H hR hS Q0 k =>
  h σ B H hR hS _ fun ss vs M1 B1 H1 q e1 S1 o1 x dx hx hdx hne =>
    have e2 : Same B1 (upd B1 dx (.own x)) := same_new (S1.freeB hdx)
    conc_x (sep_make S1 hx hdx hne) (by rw [List.append_nil]; exact .cons rfl (o1.mono e2)) (q x dx (S1.freeM hx)) (fun s v M2 B2 H2 ⟨es, q2⟩ e3 S2 o2 => by
      subst es
      exact ⟨of_non o2, k _ _ M2 B2 H2 q2 ((e1.trans e2).trans e3) S2 slok_ref⟩) (fun C d M3 B3 H3 x e3 S3 => hR.x C d ρ M3 σ B3 H3 x ((e1.trans e2).trans e3) (hR.r.mono ((e1.trans e2).trans e3)) S3)
/-! ### raise, try -/
theorem ws_raise {C : Value} (h : K.X C none ρ M) : WS K (fun _ σ H => K.W C none σ H) ρ M P := fun σ B H D hR hS _ _ _ _ => hR.x C none ρ M σ B H h (Same.refl B) hR.r hS
theorem ws_tryOnly {c : Value} {tb : WX → TS} {ts : Addr → Value → Option Addr → TS} (X : Value → Option Addr → Rho → MH → Prop) (hb : ∀ W, WS ⟨K.K, W, X⟩ (tb W) ρ M ⟨nx, rt, bk, ct⟩)
    (hx : ∀ C d ρ' M', X C d ρ' M' → ∃ b, PySem.W.exmOne K.K C c = some b ∧ (b = true → ∀ a, WS K (ts a C d) ρ' M' ⟨nx, rt, bk, ct⟩) ∧ (b = false → K.X C d ρ' M')) :
    WS K (fun D σ H => tb (wOnly K.K c ts K.W D) D σ H) ρ M ⟨nx, rt, bk, ct⟩ := fun σ B H D hR hS p1 p2 p3 p4 => by
  refine hb _ σ B H D ⟨hR.r, fun C d ρ' M' σ' B' H' x e r S => ?_⟩ hS (fun ρ2 M2 σ2 B2 H2 q e2 R2 S2 => p1 ρ2 M2 σ2 B2 H2 q e2 ⟨R2.r, (hR.mono e2).x⟩ S2) p2 (fun ρ2 M2 σ2 B2 H2 q e2 R2 S2 => p3 ρ2 M2 σ2 B2 H2 q e2 ⟨R2.r, (hR.mono e2).x⟩ S2) (fun ρ2 M2 σ2 B2 H2 q e2 R2 S2 => p4 ρ2 M2 σ2 B2 H2 q e2 ⟨R2.r, (hR.mono e2).x⟩ S2)
  obtain ⟨b, h1, h2, h3⟩ := hx C d ρ' M' x
  refine ⟨b, h1, fun e1 a _ => ?_, fun e1 => hR.x C d ρ' M' σ' B' H' (h3 e1) e r S⟩
  exact h2 e1 a σ' B' H' D ⟨r, (hR.mono e).x⟩ S (fun ρ2 M2 σ2 B2 H2 q e2 => p1 ρ2 M2 σ2 B2 H2 q (e.trans e2)) (fun s v M2 B2 H2 q e2 => p2 s v M2 B2 H2 q (e.trans e2)) (fun ρ2 M2 σ2 B2 H2 q e2 => p3 ρ2 M2 σ2 B2 H2 q (e.trans e2)) (fun ρ2 M2 σ2 B2 H2 q e2 => p4 ρ2 M2 σ2 B2 H2 q (e.trans e2))
end
/-! ### a def that may raise -/
theorem ab_okX {K : PySem.W.Frag} {P : Program} {w : World} {mg : Str → Option Value} {base : Heap} {x qual : Str} {st : Stmt} {f : Addr} {fd : FuncData} {N ps : List Str} {k : Nat} {A : ASpX} (F : Fun K x qual st f fd) (S : FnScope N ps (defScope st))
    (hlen : ∀ ss M Q X, A ss M Q X → ss.length = ps.length)
    (hb : ∀ (cdv : Value) (Ar : Around) (outer : List Env) (s : Shared) (H : Hp) (E : XK), Room k (Ar.deeper (envOfC qual (defScope st) s.heap.objs.size f cdv)) →
      ∃ t, PSs (cxOf (L2.CX P w) P w K mg base N qual (defScope st) f cdv Ar outer s H E) (defBody st) t ∧
        ∀ ss M Q X, A ss M Q X → WS ⟨K, fun cls d _ H => E cls d H, fun C d _ M' => X C d M'⟩ t (rho0 N.length ss) M ⟨fun _ M' => Q .non M', Q, NoR, NoR⟩) :
    FnOk P w K mg base (L2.CX P w) (k + 1) f fd ps (concX K A) := by
  refine F.okX S (fun vs H Q E h => ?_) (fun cdv Ar outer s H vs Q E hr h => ?_)
  · obtain ⟨B, M, ss, QA, XA, hS, hv, ha, _⟩ := h
    rw [SlAll.len hv]
    exact hlen ss M QA XA ha
  · obtain ⟨B, M, ss, QA, XA, hS, hv, ha, hq, hxx⟩ := h
    obtain ⟨t, ht, hw⟩ := hb cdv Ar outer s H E hr
    refine ⟨t, ht, ?_⟩
    have hR : Rl0 K B (L2.start N vs) (rho0 N.length ss) := by
      unfold L2.start rho0
      rw [SlAll.len hv]
      exact rl_start _ hv
    exact hw ss M QA XA ha (L2.start N vs) B H ⟨fun _ H' => Q .non H', Q, _, _⟩ ⟨hR, fun C d _ M' _ B' H' q e _ S' => hxx C d M' B' H' q e S'⟩ hS (fun ρ' M' σ' B' H' q e _ S' => hq .non .non M' B' H' q e S' slok_non) (fun s v M' B' H' q e S' o => hq s v M' B' H' q e S' o) (fun _ _ _ _ _ z => z.elim) (fun _ _ _ _ _ z => z.elim)
end Ab

set_option Elab.async false
set_option linter.all false
set_option maxRecDepth 100000
set_option  maxHeartbeats 4000000
/-! Ab10: dicts (keys ints and texts) that change, that are walked, that nobody changes; tuples and lists of anything that nobody changes. -/
namespace Ab
open PySem PySem.Spec PyProof.Rows L2
/-! ### what stands in a dict -/
section
variable {κ β γ : Type} [DecidableEq κ]
def valG (kvs : List (κ × β)) (k : κ) : Option β := (kvs.find? fun kv => decide (kv.1 = k)).map (·.2)
def putG (kvs : List (κ × β)) (k : κ) (v : β) : List (κ × β) := if (kvs.any fun kv => decide (kv.1 = k)) = true then kvs.map (fun kv => if kv.1 = k then (kv.1, v) else kv) else kvs ++ [(k, v)]
def dropG (kvs : List (κ × β)) (k : κ) : List (κ × β) := kvs.filter fun kv => decide (kv.1 ≠ k)
def mergeG (kvs more : List (κ × β)) : List (κ × β) := more.foldl (fun acc kv => putG acc kv.1 kv.2) kvs
theorem valG_cons (k g : κ) (v : β) (r : List (κ × β)) : valG ((g, v) :: r) k = if g = k then some v else valG r k := by
  unfold valG
  rw [List.find?_cons]
  by_cases e : g = k <;> simp [e]
theorem valG_put (kvs : List (κ × β)) (k g : κ) (v : β) : valG (putG kvs k v) g = if k = g then some v else valG kvs g := by
  have key : ∀ l : List (κ × β), valG (l.map fun kv => if kv.1 = k then (kv.1, v) else kv) g = if k = g ∧ (l.any fun kv => decide (kv.1 = k)) = true then some v else valG l g := by
    intro l
    induction l with
    | nil => simp [valG]
    | cons p r ih =>
      obtain ⟨a, x⟩ := p
      rw [List.map_cons]
      by_cases e : a = k
      · subst e
        rw [if_pos rfl, valG_cons, ih, valG_cons]
        by_cases e2 : a = g <;> simp [e2]
      · rw [if_neg e, valG_cons, ih, valG_cons]
        by_cases e2 : a = g
        · subst e2
          have : ¬ k = a := fun q => e q.symm
          simp [this]
        · have ek : decide (a = k) = false := decide_eq_false e
          rw [List.any_cons, ek, Bool.false_or, if_neg e2, if_neg e2]
  have app : ∀ l : List (κ × β), (l.any fun kv => decide (kv.1 = k)) = false → valG (l ++ [(k, v)]) g = if k = g then some v else valG l g := by
    intro l
    induction l with
    | nil => intro _; rw [List.nil_append, valG_cons]
    | cons p r ih =>
      obtain ⟨a, x⟩ := p
      intro h
      rw [List.any_cons, Bool.or_eq_false_iff] at h
      have e : ¬ a = k := of_decide_eq_false h.1
      rw [List.cons_append, valG_cons, ih h.2, valG_cons]
      by_cases e2 : a = g
      · subst e2
        have : ¬ k = a := fun q => e q.symm
        simp [this]
      · simp [e2]
  unfold putG
  cases h : kvs.any fun kv => decide (kv.1 = k) with
  | true => rw [if_pos rfl, key, h]; simp
  | false => rw [if_neg Bool.false_ne_true, app kvs h]
theorem any_mapG (f : β → γ) (k : κ) : ∀ kvs : List (κ × β), ((kvs.map fun p => (p.1, f p.2)).any fun kv => decide (kv.1 = k)) = kvs.any fun kv => decide (kv.1 = k)
  | [] => rfl
  | p :: r => by rw [List.map_cons, List.any_cons, List.any_cons, any_mapG f k r]
theorem valG_map (f : β → γ) (k : κ) : ∀ kvs : List (κ × β), valG (kvs.map fun p => (p.1, f p.2)) k = (valG kvs k).map f
  | [] => rfl
  | (a, x) :: r => by
    rw [List.map_cons, valG_cons, valG_cons, valG_map f k r]
    by_cases e : a = k <;> simp [e]
theorem putG_map (f : β → γ) (k : κ) (v : β) (kvs : List (κ × β)) : putG (kvs.map fun p => (p.1, f p.2)) k (f v) = (putG kvs k v).map fun p => (p.1, f p.2) := by
  unfold putG
  rw [any_mapG]
  cases h : kvs.any fun kv => decide (kv.1 = k) with
  | true =>
    rw [if_pos rfl, if_pos rfl, List.map_map, List.map_map]
    refine List.map_congr_left fun p _ => ?_
    show (if p.1 = k then (p.1, f v) else (p.1, f p.2)) = (((if p.1 = k then (p.1, v) else p) : κ × β).1, f ((if p.1 = k then (p.1, v) else p) : κ × β).2)
    by_cases e : p.1 = k
    · rw [if_pos e, if_pos e]
    · rw [if_neg e, if_neg e]
  | false => rw [if_neg Bool.false_ne_true, if_neg Bool.false_ne_true, List.map_append]; rfl
end
section
variable {F : PySem.W.Frag} {B : Hp}
theorem slks_any {k : Key} : ∀ {vs : List (Key × V)} {kvs : List (Key × Sl)}, SlKs F B vs kvs → (vs.any fun kv => decide (kv.1 = k)) = kvs.any fun kv => decide (kv.1 = k)
  | _, _, .nil => rfl
  | _, _, .cons ⟨h, _⟩ t => by rw [List.any_cons, List.any_cons, slks_any t, h]
theorem slks_val {k : Key} : ∀ {vs : List (Key × V)} {kvs : List (Key × Sl)}, SlKs F B vs kvs → (∀ s, valG kvs k = some s → ∃ v, valV vs k = some v ∧ SlOk F B v s) ∧ (valG kvs k = none → valV vs k = none)
  | _, _, .nil => ⟨fun _ e => (nomatch e), fun _ => rfl⟩
  | (g, v) :: vs, (g', s') :: kvs, .cons ⟨h1, h2⟩ t => by
    cases h1
    obtain ⟨i1, i2⟩ := slks_val (k := k) t
    rw [valG_cons]
    by_cases e : g = k
    · rw [if_pos e, valV_pos e]
      exact ⟨fun s q => (by cases q; exact ⟨v, rfl, h2⟩), fun q => nomatch q⟩
    · rw [if_neg e, valV_neg e]
      exact ⟨i1, i2⟩
theorem slks_app {κ : Type} : ∀ {vs ws : List (κ × V)} {kvs lws : List (κ × Sl)}, SlKs F B vs kvs → SlKs F B ws lws → SlKs F B (vs ++ ws) (kvs ++ lws)
  | _, _, _, _, .nil, h => h
  | _, _, _, _, .cons h t, h' => .cons h (slks_app t h')
theorem slks_in {k : Key} {v : V} {s : Sl} (o : SlOk F B v s) : ∀ {vs : List (Key × V)} {kvs : List (Key × Sl)}, SlKs F B vs kvs → SlKs F B (vs.map fun kv => if kv.1 = k then (kv.1, v) else kv) (kvs.map fun kv => if kv.1 = k then (kv.1, s) else kv)
  | _, _, .nil => .nil
  | (g, x) :: vs, (g', y) :: kvs, .cons ⟨h1, h2⟩ t => by
    cases h1
    rw [List.map_cons, List.map_cons]
    refine .cons ?_ (slks_in o t)
    by_cases e : g = k
    · rw [if_pos e, if_pos e]; exact ⟨rfl, o⟩
    · rw [if_neg e, if_neg e]; exact ⟨rfl, h2⟩
theorem slks_putK {k : Key} {v : V} {s : Sl} (o : SlOk F B v s) {vs : List (Key × V)} {kvs : List (Key × Sl)} (h : SlKs F B vs kvs) : SlKs F B (putK vs k v) (putG kvs k s) := by
  unfold putK putG
  rw [slks_any h]
  split
  · exact slks_in o h
  · exact slks_app h (.cons ⟨rfl, o⟩ .nil)
theorem slks_drop {k : Key} : ∀ {vs : List (Key × V)} {kvs : List (Key × Sl)}, SlKs F B vs kvs → SlKs F B (dropK vs k) (dropG kvs k)
  | _, _, .nil => .nil
  | p :: ps, q :: qs, .cons h t => by
    have ih := slks_drop (k := k) t
    unfold dropK dropG at ih ⊢
    rw [List.filter_cons, List.filter_cons, h.1]
    split
    · exact .cons h ih
    · exact ih
theorem slks_merge : ∀ {ws : List (Key × V)} {lws : List (Key × Sl)}, SlKs F B ws lws → ∀ {vs : List (Key × V)} {kvs : List (Key × Sl)}, SlKs F B vs kvs → SlKs F B (mergeK vs ws) (mergeG kvs lws)
  | _, _, .nil, _, _, h => h
  | p :: ps, q :: qs, .cons h t, vs, kvs, h' => by
    show SlKs F B (mergeK (putK vs p.1 p.2) ps) (mergeG (putG kvs q.1 q.2) qs)
    refine slks_merge t ?_
    rw [h.1]
    exact slks_putK h.2 h'
end
def kS : Key → Sl
  | .inl i => .int i
  | .inr x => .str x
theorem of_kS {F : PySem.W.Frag} {B : Hp} {v : V} : ∀ {k : Key}, SlOk F B v (kS k) → v = kV k
  | .inl _, h => of_int h
  | .inr _, h => of_str h
/-! ### what nobody changes any more -/
def dicS (F : PySem.W.Frag) (kvs : List (Key × Sl)) : Sl := .abs (fun B v => ∃ a vs, v = .ref a ∧ Rd B a (.dK vs) ∧ SlKs F B vs kvs) fun _ _ _ e ⟨a, vs, h1, h2, h3⟩ => ⟨a, vs, h1, same_rd e h2, Paired.mapP h3 fun _ _ q => ⟨q.1, q.2.mono e⟩⟩
/-- a dict: one that changes, one that is walked, one that nobody changes -/
def DcV (F : PySem.W.Frag) (s : Sl) (M : MH) (kvs : List (Key × Sl)) : Prop := (∃ a, s = .raw (.ref a) ∧ (M a = some (.dK kvs) ∨ ∃ ob v, M a = some (.frz ob v (.dK kvs)))) ∨ s = dicS F kvs
theorem dcv_ref {F : PySem.W.Frag} {a : Addr} {M : MH} {kvs : List (Key × Sl)} (h : M a = some (.dK kvs)) : DcV F (.raw (.ref a)) M kvs := .inl ⟨a, rfl, .inl h⟩
theorem dcv_frz {F : PySem.W.Frag} {a : Addr} {ob : Obj} {v : HO} {M : MH} {kvs : List (Key × Sl)} (h : M a = some (.frz ob v (.dK kvs))) : DcV F (.raw (.ref a)) M kvs := .inl ⟨a, rfl, .inr ⟨ob, v, h⟩⟩
theorem DcV.get {F : PySem.W.Frag} {s : Sl} {M : MH} {kvs : List (Key × Sl)} {B H : Hp} {v : V} (h : DcV F s M kvs) (S : Sep F B M H) (o : SlOk F B v s) : ∃ a vs, v = .ref a ∧ Rd H a (.dK vs) ∧ SlKs F B vs kvs := by
  rcases h with ⟨a, rfl, h | ⟨ob, w, h⟩⟩ | rfl
  · obtain ⟨_, u, hu, vs, rfl, hv⟩ := S.has a _ h
    exact ⟨a, vs, o, .inl hu, hv⟩
  · obtain ⟨_, u, hu, rfl, vs, rfl, hv⟩ := S.has a _ h
    exact ⟨a, vs, o, .inr ⟨ob, hu⟩, hv⟩
  · obtain ⟨a, vs, e, h1, h2⟩ := (show ∃ a vs, v = .ref a ∧ Rd B a (.dK vs) ∧ SlKs F B vs kvs from o)
    exact ⟨a, vs, e, same_rd S.sub h1, h2⟩
section
variable {K : KX} {ρ : Rho} {M : MH} {Q Q' : Sl → MH → Prop} {ta tb te tc td ty tx tv : TE} {P : AE} {nx bk ct : Rho → MH → Prop} {rt : Sl → MH → Prop}
theorem isD_of {H : Hp} {a : Addr} {vs : List (Key × V)} (h : Rd H a (.dK vs)) : IsD H a := .inl ⟨vs, h⟩
theorem w_dnew (q : ∀ p, M p = none → Q (.raw (.ref p)) (um M p (.dK []))) : W K tDNewK ρ M Q := fun σ B H hR hS Q0 k p hp => k _ _ _ B _ (q p (hS.freeM hp)) (Same.refl B) (hS.new hp ⟨[], rfl, .nil⟩) slok_ref
/-- d[k] -/
theorem w_dget (h : W K td ρ M fun s M1 => W K ty ρ M1 fun y M2 => ∃ kvs k x, DcV K.K s M2 kvs ∧ y = kS k ∧ valG kvs k = some x ∧ Q x M2) : W K (tDGet td ty) ρ M Q := fun σ B H hR hS Q0 q0 =>
  h σ B H hR hS _ fun s v M1 B1 H1 h1 e1 S1 o1 => h1 σ B1 H1 (hR.mono e1) S1 _ fun y w M2 B2 H2 ⟨kvs, k, x, hd, ey, hv, q⟩ e2 S2 o2 => by
    subst ey
    obtain ⟨a, vs, rfl, hr, hk⟩ := hd.get S2 (o1.mono e2)
    obtain ⟨z, hz, oz⟩ := (slks_val hk).1 _ hv
    exact ⟨a, z, rfl, .inl ⟨vs, k, hr, of_kS o2, hz.symm⟩, q0 x z M2 B2 H2 q (e1.trans e2) S2 oz⟩
/-- k in d -/
theorem w_din (h : W K ty ρ M fun y M1 => W K td ρ M1 fun s M2 => ∃ kvs k, DcV K.K s M2 kvs ∧ y = kS k ∧ Q (.bl (valG kvs k).isSome) M2) : W K (tDIn ty td) ρ M Q := fun σ B H hR hS Q0 q0 =>
  h σ B H hR hS _ fun y w M1 B1 H1 h1 e1 S1 o1 => h1 σ B1 H1 (hR.mono e1) S1 _ fun s v M2 B2 H2 ⟨kvs, k, hd, ey, q⟩ e2 S2 o2 => by
    subst ey
    obtain ⟨a, vs, rfl, hr, hk⟩ := hd.get S2 o2
    obtain ⟨i1, i2⟩ := slks_val (k := k) hk
    have e : (valV vs k).isSome = (valG kvs k).isSome := by
      cases hv : valG kvs k with
      | none => rw [i2 hv]; rfl
      | some s => obtain ⟨z, hz, _⟩ := i1 s hv; rw [hz]; rfl
    exact ⟨a, valV vs k, rfl, .inl ⟨vs, k, hr, of_kS (o1.mono e2), rfl⟩, by rw [e]; exact q0 _ _ M2 B2 H2 q (e1.trans e2) S2 slok_bl⟩
theorem w_dnotIn (h : W K ty ρ M fun y M1 => W K td ρ M1 fun s M2 => ∃ kvs k, DcV K.K s M2 kvs ∧ y = kS k ∧ Q (.bl (!(valG kvs k).isSome)) M2) : W K (tDNotIn ty td) ρ M Q := fun σ B H hR hS Q0 q0 =>
  h σ B H hR hS _ fun y w M1 B1 H1 h1 e1 S1 o1 => h1 σ B1 H1 (hR.mono e1) S1 _ fun s v M2 B2 H2 ⟨kvs, k, hd, ey, q⟩ e2 S2 o2 => by
    subst ey
    obtain ⟨a, vs, rfl, hr, hk⟩ := hd.get S2 o2
    obtain ⟨i1, i2⟩ := slks_val (k := k) hk
    have e : (valV vs k).isSome = (valG kvs k).isSome := by
      cases hv : valG kvs k with
      | none => rw [i2 hv]; rfl
      | some s => obtain ⟨z, hz, _⟩ := i1 s hv; rw [hz]; rfl
    exact ⟨a, valV vs k, rfl, .inl ⟨vs, k, hr, of_kS (o1.mono e2), rfl⟩, by rw [e]; exact q0 _ _ M2 B2 H2 q (e1.trans e2) S2 slok_bl⟩
/-- d.get(k, x) -/
theorem w_dget2 (h : W K td ρ M fun s M1 => (∃ kvs, DcV K.K s M1 kvs) ∧ W K ty ρ M1 fun y M2 => W K tx ρ M2 fun z M3 => ∃ kvs k, DcV K.K s M3 kvs ∧ y = kS k ∧ Q ((valG kvs k).getD z) M3) : W K (tDGet2 td ty tx) ρ M Q := fun σ B H hR hS Q0 q0 =>
  h σ B H hR hS _ fun s v M1 B1 H1 ⟨⟨kvs0, hd0⟩, h1⟩ e1 S1 o1 => by
    obtain ⟨a, vs0, rfl, hr0, _⟩ := hd0.get S1 o1
    refine ⟨a, rfl, isD_of hr0, h1 σ B1 H1 (hR.mono e1) S1 _ fun y w M2 B2 H2 h2 e2 S2 o2 => h2 σ B2 H2 (hR.mono (e1.trans e2)) S2 _ fun z u M3 B3 H3 ⟨kvs, k, hd, ey, q⟩ e3 S3 o3 => ?_⟩
    subst ey
    obtain ⟨a', vs, ea, hr, hk⟩ := hd.get S3 (o1.mono (e2.trans e3))
    cases ea
    refine ⟨valV vs k, .inl ⟨vs, k, hr, of_kS (o2.mono e3), rfl⟩, ?_⟩
    obtain ⟨i1, i2⟩ := slks_val (k := k) hk
    cases hv : valG kvs k with
    | none => rw [hv] at q; rw [i2 hv]; exact q0 z u M3 B3 H3 q ((e1.trans e2).trans e3) S3 o3
    | some s => rw [hv] at q; obtain ⟨t, ht, ot⟩ := i1 s hv; rw [ht]; exact q0 s t M3 B3 H3 q ((e1.trans e2).trans e3) S3 ot
/-- d[k] = v -/
theorem ws_dput (h : W K tv ρ M fun s M1 => W K td ρ M1 fun o M2 => W K ty ρ M2 fun y M3 => ∃ a kvs k, o = .raw (.ref a) ∧ y = kS k ∧ M3 a = some (.dK kvs) ∧ kvs.length < 100000 ∧ nx ρ (um M3 a (.dK (putG kvs k s)))) : WS K (sDPut td ty tv) ρ M ⟨nx, rt, bk, ct⟩ := fun σ B H D hR hS p1 p2 p3 p4 =>
  h σ B H hR hS _ fun s v M1 B1 H1 h1 e1 S1 o1 => h1 σ B1 H1 (hR.mono e1) S1 _ fun o w M2 B2 H2 h2 e2 S2 o2 => h2 σ B2 H2 (hR.mono (e1.trans e2)) S2 _ fun y u M3 B3 H3 ⟨a, kvs, k, eo, ey, hM, hl, q⟩ e3 S3 o3 => by
    subst eo ey
    have ew : w = .ref a := o2
    subst ew
    obtain ⟨_, t, ht, vs, rfl, hv⟩ := S3.has a _ hM
    refine ⟨a, _, rfl, .inl ⟨vs, k, ht, of_kS o3, by rw [Paired.length hv]; exact Nat.lt_of_lt_of_le hl (show 100000 ≤ sizeLine by decide), rfl⟩, ?_⟩
    exact p1 ρ _ σ B3 _ q ((e1.trans e2).trans e3) (hR.mono ((e1.trans e2).trans e3)) (S3.put hM ⟨_, rfl, slks_putK (o1.mono (e2.trans e3)) hv⟩)
/-- d.setdefault(k, x) -/
theorem w_dsetd (h : W K td ρ M fun s M1 => ∃ a, s = .raw (.ref a) ∧ (∃ kvs, M1 a = some (.dK kvs)) ∧ W K ty ρ M1 fun y M2 => W K tx ρ M2 fun z M3 => ∃ kvs k, M3 a = some (.dK kvs) ∧ y = kS k ∧ kvs.length < 100000 ∧
    (∀ x, valG kvs k = some x → Q x M3) ∧ (valG kvs k = none → Q z (um M3 a (.dK (putG kvs k z))))) : W K (tDSetd td ty tx) ρ M Q := fun σ B H hR hS Q0 q0 =>
  h σ B H hR hS _ fun s v M1 B1 H1 ⟨a, es, ⟨kvs0, hM0⟩, h1⟩ e1 S1 o1 => by
    subst es
    have ev : v = .ref a := o1
    subst ev
    obtain ⟨_, t0, ht0, vs0, rfl, _⟩ := S1.has a _ hM0
    refine ⟨a, rfl, isD_of (.inl ht0), h1 σ B1 H1 (hR.mono e1) S1 _ fun y w M2 B2 H2 h2 e2 S2 o2 => h2 σ B2 H2 (hR.mono (e1.trans e2)) S2 _ fun z u M3 B3 H3 ⟨kvs, k, hM, ey, hl, q1, q2⟩ e3 S3 o3 => ?_⟩
    subst ey
    obtain ⟨_, t, ht, vs, rfl, hv⟩ := S3.has a _ hM
    obtain ⟨i1, i2⟩ := slks_val (k := k) hv
    have e13 := (e1.trans e2).trans e3
    refine ⟨vs, k, ht, of_kS (o2.mono e3), by rw [Paired.length hv]; exact Nat.lt_of_lt_of_le hl (show 100000 ≤ sizeLine by decide), fun x hx => ?_, fun hn => ?_⟩
    · cases hg : valG kvs k with
      | none => rw [i2 hg] at hx; cases hx
      | some s =>
        obtain ⟨x', hx', ox⟩ := i1 s hg
        rw [hx] at hx'
        cases hx'
        exact q0 s x M3 B3 H3 (q1 s hg) e13 S3 ox
    · cases hg : valG kvs k with
      | none => exact q0 z u _ B3 _ (q2 hg) e13 (S3.put hM ⟨_, rfl, slks_putK o3 hv⟩) o3
      | some s => obtain ⟨x', hx', _⟩ := i1 s hg; rw [hn] at hx'; cases hx'
/-- d.pop(k, x) -/
theorem w_dpop2 (h : W K td ρ M fun s M1 => ∃ a, s = .raw (.ref a) ∧ (∃ kvs, M1 a = some (.dK kvs)) ∧ W K ty ρ M1 fun y M2 => W K tx ρ M2 fun z M3 => ∃ kvs k, M3 a = some (.dK kvs) ∧ y = kS k ∧
    (∀ x, valG kvs k = some x → Q x (um M3 a (.dK (dropG kvs k)))) ∧ (valG kvs k = none → Q z M3)) : W K (tDPop2 td ty tx) ρ M Q := fun σ B H hR hS Q0 q0 =>
  h σ B H hR hS _ fun s v M1 B1 H1 ⟨a, es, ⟨kvs0, hM0⟩, h1⟩ e1 S1 o1 => by
    subst es
    have ev : v = .ref a := o1
    subst ev
    obtain ⟨_, t0, ht0, vs0, rfl, _⟩ := S1.has a _ hM0
    refine ⟨a, rfl, isD_of (.inl ht0), h1 σ B1 H1 (hR.mono e1) S1 _ fun y w M2 B2 H2 h2 e2 S2 o2 => h2 σ B2 H2 (hR.mono (e1.trans e2)) S2 _ fun z u M3 B3 H3 ⟨kvs, k, hM, ey, q1, q2⟩ e3 S3 o3 => ?_⟩
    subst ey
    obtain ⟨_, t, ht, vs, rfl, hv⟩ := S3.has a _ hM
    obtain ⟨i1, i2⟩ := slks_val (k := k) hv
    have e13 := (e1.trans e2).trans e3
    refine ⟨vs, k, ht, of_kS (o2.mono e3), fun x hx => ?_, fun hn => ?_⟩
    · cases hg : valG kvs k with
      | none => rw [i2 hg] at hx; cases hx
      | some s =>
        obtain ⟨x', hx', ox⟩ := i1 s hg
        rw [hx] at hx'
        cases hx'
        exact q0 s x _ B3 _ (q1 s hg) e13 (S3.put hM ⟨_, rfl, slks_drop hv⟩) ox
    · cases hg : valG kvs k with
      | none => exact q0 z u M3 B3 H3 (q2 hg) e13 S3 o3
      | some s => obtain ⟨x', hx', _⟩ := i1 s hg; rw [hn] at hx'; cases hx'
/-- {k: v, ..} -/
def WPs (K : KX) (trs : List (TE × TE)) (ρ : Rho) (M : MH) (Q : List (Sl × Sl) → MH → Prop) : Prop :=
  ∀ σ B H, Rl K B σ ρ → Sep K B M H → ∀ Q0 : List (V × V) → Hp → Prop, (∀ ss vs M' B' H', Q ss M' → Same B B' → Sep K B' M' H' → Paired (fun p q => SlOk K B' p.1 q.1 ∧ SlOk K B' p.2 q.2) vs ss → Q0 vs H') → tPairs trs σ H Q0
theorem wps_nil {Q : List (Sl × Sl) → MH → Prop} (q : Q [] M) : WPs K [] ρ M Q := fun σ B H hR hS Q0 k => k [] [] M B H q (Same.refl B) hS .nil
theorem wps_cons {trs : List (TE × TE)} {Q : List (Sl × Sl) → MH → Prop} (h : W K ta ρ M fun x M1 => W K tb ρ M1 fun y M2 => WPs K trs ρ M2 fun ps M3 => Q ((x, y) :: ps) M3) : WPs K ((ta, tb) :: trs) ρ M Q := fun σ B H hR hS Q0 k =>
  h σ B H hR hS _ fun x v M1 B1 H1 h1 e1 S1 o1 => h1 σ B1 H1 (hR.mono e1) S1 _ fun y w M2 B2 H2 h2 e2 S2 o2 => h2 σ B2 H2 (hR.mono (e1.trans e2)) S2 _ fun ss vs M3 B3 H3 q e3 S3 o3 =>
    k _ _ M3 B3 H3 q ((e1.trans e2).trans e3) S3 (.cons ⟨o1.mono (e2.trans e3), o2.mono e3⟩ o3)
theorem pairs_keys {F : PySem.W.Frag} {B : Hp} : ∀ {vs : List (V × V)} {ps : List (Key × Sl)}, Paired (fun p q => SlOk F B p.1 q.1 ∧ SlOk F B p.2 q.2) vs (ps.map fun p => (kS p.1, p.2)) → ∃ ws : List (Key × V), vs = ws.map (fun kv => (kV kv.1, kv.2)) ∧ SlKs F B ws ps
  | _, [], .nil => ⟨[], rfl, .nil⟩
  | (a, b) :: vs, (k, s) :: ps, .cons ⟨h1, h2⟩ t => by
    obtain ⟨ws, rfl, hw⟩ := pairs_keys t
    have e : a = kV k := of_kS h1
    subst e
    exact ⟨(k, b) :: ws, rfl, .cons ⟨rfl, h2⟩ hw⟩
theorem w_disp {trs : List (TE × TE)} (h : ∀ p, M p = none → WPs K trs ρ (um M p (.dK [])) fun ss M1 => M1 p = some (.dK []) ∧ ∃ ps : List (Key × Sl), ss = ps.map (fun p => (kS p.1, p.2)) ∧ ps.length ≤ 15 ∧ Q (.raw (.ref p)) (um M1 p (.dK (mergeG [] ps)))) : W K (tDisp trs) ρ M Q := fun σ B H hR hS Q0 k p hp =>
  h p (hS.freeM hp) σ B _ hR (hS.new hp ⟨[], rfl, .nil⟩) _ fun ss vs M1 B1 H1 ⟨hM, ps, es, hl, q⟩ e1 S1 o1 => by
    subst es
    obtain ⟨ws, rfl, hw⟩ := pairs_keys o1
    obtain ⟨_, t, ht, vs, rfl, hv⟩ := S1.has p _ hM
    cases hv
    exact ⟨ht, ws, rfl, by rw [Paired.length hw]; exact hl, k _ _ _ B1 _ q e1 (S1.put hM ⟨_, rfl, slks_merge hw .nil⟩) slok_ref⟩
end
end Ab

set_option Elab.async false
set_option linter.all false
set_option maxRecDepth 100000
set_option  maxHeartbeats 4000000
/-! Ab11: d.update(e), augmented stores in dicts and fields, zip, comprehensions with any target. -/
namespace L2
open PySem PySem.Spec PyProof.Rows
/-- d.update(e), e a dict -/
def rUpdate : V → List V → Hp → VK → Prop := fun x xs H Q => ∃ (d o : Addr) (kvs more : List (Key × V)), x = .ref d ∧ xs = [.ref o] ∧ d ≠ o ∧ H d = some (.dK kvs) ∧ Rd H o (.dK more) ∧ kvs.length + more.length ≤ sizeLine ∧ Q .non (upd H d (.dK (mergeK kvs more)))
theorem len_mergeK : ∀ (more kvs : List (Key × V)), (mergeK kvs more).length ≤ kvs.length + more.length
  | [], _ => Nat.le_refl _
  | p :: more, kvs => by
    have h1 := len_mergeK more (putK kvs p.1 p.2)
    have h2 := length_putK kvs p.1 p.2
    show (mergeK (putK kvs p.1 p.2) more).length ≤ _
    rw [List.length_cons]
    omega
theorem mt_update {X : Cx} : MtR X "dict.update" rUpdate := fun pins s σ H x xs v us Q I rx rv ⟨d, o, kvs, more, e1, e2, hne, hd, ho, hz, q⟩ => by
  subst e1 e2
  cases rx
  obtain ⟨u, rfl, ru⟩ := vals1 rv
  cases ru
  obtain ⟨z1, _, vs, kv, dd⟩ := dk_of I.hok hd
  obtain ⟨z2, n2, ws, kw, dw⟩ := dk_rd I.hok ho
  refine call_meetsIn PySem.F.slot_dict_update dd.typeIs PySem.F.entry_dict_update (PySem.F.args_dict_update_2 _ _) (meets_dict_update (mixKind X.prog X.w) d o hne n2) ⟨vs, ws, dd, dw, by rw [← kv.length, ← kw.length]; exact hz, fun h' dd' _ hs => ?_⟩
  have has : ∃ q, h'.get? d = some q := let ⟨q, _, _, hq, _⟩ := dd'; ⟨q, hq⟩
  exact ⟨.non, _, d_write (t' := s.toks) I (by rw [hd]; exact True.intro) hs has (dk_new (Nat.le_trans (len_mergeK more kvs) hz) (dk_of I.hok hd).2.1 (KV.merge kw kv) dd'), rfl, q⟩
end L2
namespace Ab
open PySem PySem.Spec PyProof.Rows L2
/-- a tuple of anything that nobody changes -/
def tupS (F : PySem.W.Frag) (xs : List Sl) : Sl := .abs (fun B v => ∃ a vs, v = .ref a ∧ SqT F B a vs ∧ SlAll F B vs xs) fun _ _ _ e ⟨a, vs, h1, h2, h3⟩ => ⟨a, vs, h1, same_t e h2, h3.mono e⟩
section
variable {K : KX} {ρ : Rho} {M : MH} {Q Q' : Sl → MH → Prop} {ta tb te tc td ty tx tv : TE} {P : AE} {nx bk ct : Rho → MH → Prop} {rt : Sl → MH → Prop}
theorem wm_update {F : PySem.W.Frag} {M : MH} {a : Addr} {s : Sl} {kvs more : List (Key × Sl)} {Q : Sl → MH → Prop} (h : M a = some (.dK kvs)) (hs : DcV F s M more) (hne : s ≠ .raw (.ref a)) (hd : ∀ B H, Sep F B M H → SlOk F B (.ref a) s → False) (hl : kvs.length + more.length ≤ 100000) (q : Q .non (um M a (.dK (mergeG kvs more)))) : WM F rUpdate (.raw (.ref a)) [s] M Q := fun B H v vs hS o1 o2 Q0 k => by
  have ev : v = .ref a := o1
  subst ev
  cases o2 with
  | cons o o2 =>
    cases o2
    obtain ⟨_, t, ht, us, rfl, hv⟩ := hS.has a _ h
    obtain ⟨b, ws, rfl, hr, hw⟩ := hs.get hS o
    refine ⟨a, b, us, ws, rfl, rfl, fun e => hd B H hS (by rw [e]; exact o), ht, hr, ?_, ?_⟩
    · rw [Paired.length hv, Paired.length hw]
      exact Nat.le_trans hl (show 100000 ≤ sizeLine by decide)
    · exact k _ _ _ B _ q (Same.refl B) (hS.put h ⟨_, rfl, slks_merge hw hv⟩) slok_non
/-- d.update(e), two dicts that change -/
theorem wm_updateM {F : PySem.W.Frag} {M : MH} {a b : Addr} {kvs more : List (Key × Sl)} {Q : Sl → MH → Prop} (h : M a = some (.dK kvs)) (hb : M b = some (.dK more)) (hne : b ≠ a) (hl : kvs.length + more.length ≤ 100000) (q : Q .non (um M a (.dK (mergeG kvs more)))) : WM F rUpdate (.raw (.ref a)) [.raw (.ref b)] M Q :=
  wm_update h (dcv_ref hb) (fun e => hne (by cases e; rfl)) (fun B H _ o => hne (by have e : V.ref a = .ref b := o; cases e; rfl)) hl q
/-- d[k] += e -/
theorem ws_daug {rd : V → V → Hp → VK → Prop} {f : Int → Int → Int} (hrd : ∀ (i j : Int) H (Q : VK), Q (.int (f i j)) H → rd (.int i) (.int j) H Q) (h : W K td ρ M fun o M1 => W K ty ρ M1 fun y M2 => ∃ a kvs k i, o = .raw (.ref a) ∧ y = kS k ∧ M2 a = some (.dK kvs) ∧ valG kvs k = some (.int i) ∧ W K tv ρ M2 fun s M3 => ∃ j, s = .int j ∧ M3 a = some (.dK kvs) ∧ kvs.length < 100000 ∧ nx ρ (um M3 a (.dK (putG kvs k (.int (f i j)))))) :
    WS K (sDAug td ty tv rd) ρ M ⟨nx, rt, bk, ct⟩ := fun σ B H D hR hS p1 p2 p3 p4 =>
  h σ B H hR hS _ fun o v M1 B1 H1 h1 e1 S1 o1 => h1 σ B1 H1 (hR.mono e1) S1 _ fun y w M2 B2 H2 ⟨a, kvs, k, i, eo, ey, hM, hv, h2⟩ e2 S2 o2 => by
    subst eo ey
    have ev : v = .ref a := o1
    subst ev
    obtain ⟨_, t, ht, vs, rfl, hk⟩ := S2.has a _ hM
    obtain ⟨z, hz, oz⟩ := (slks_val hk).1 _ hv
    have ez := of_int oz
    subst ez
    refine ⟨a, _, rfl, .inl ⟨vs, k, .inl ht, of_kS o2, hz.symm⟩, h2 σ B2 H2 (hR.mono (e1.trans e2)) S2 _ fun s u M3 B3 H3 ⟨j, es, hM3, hl, q⟩ e3 S3 o3 => ?_⟩
    subst es
    obtain ⟨_, t3, ht3, vs3, rfl, hk3⟩ := S3.has a _ hM3
    have eu := of_int o3
    subst eu
    refine hrd i j H3 _ ⟨_, .inl ⟨vs3, k, ht3, of_kS o2, by rw [Paired.length hk3]; exact Nat.lt_of_lt_of_le hl (show 100000 ≤ sizeLine by decide), rfl⟩, ?_⟩
    exact p1 ρ _ σ B3 _ q ((e1.trans e2).trans e3) (hR.mono ((e1.trans e2).trans e3)) (S3.put hM3 ⟨_, rfl, slks_putK slok_int hk3⟩)
/-- o.f += e -/
theorem ws_fldaug {rd : V → V → Hp → VK → Prop} {g : Int → Int → Int} {f : Str} (hrd : ∀ (i j : Int) H (Q : VK), Q (.int (g i j)) H → rd (.int i) (.int j) H Q) (h : W K ta ρ M fun o M1 => ∃ a C dx fs i, o = .raw (.ref a) ∧ M1 a = some (.ins C dx fs) ∧ Cls K.K C ∧ NoAttr K.K C f ∧ fs.lookup f = some (.int i) ∧ W K tv ρ M1 fun s M3 => ∃ j, s = .int j ∧ M3 a = some (.ins C dx fs) ∧ fs.length < 1000 ∧ nx ρ (um M3 a (.ins C dx (putS f (.int (g i j)) fs)))) :
    WS K (sFldAug K.K ta tv rd f) ρ M ⟨nx, rt, bk, ct⟩ := fun σ B H D hR hS p1 p2 p3 p4 =>
  h σ B H hR hS _ fun o v M1 B1 H1 ⟨a, C, dx, fs, i, eo, hM, c, n, hl, h1⟩ e1 S1 o1 => by
    subst eo
    have ev : v = .ref a := o1
    subst ev
    obtain ⟨_, t, ht, vs, rfl, hv⟩ := S1.has a _ hM
    obtain ⟨z, hz, oz⟩ := slks_get hv hl
    have ez := of_int oz
    subst ez
    refine ⟨a, C, dx, vs, _, rfl, ht, c, n, hz, h1 σ B1 H1 (hR.mono e1) S1 _ fun s u M3 B3 H3 ⟨j, es, hM3, hl3, q⟩ e3 S3 o3 => ?_⟩
    subst es
    obtain ⟨_, t3, ht3, vs3, rfl, hv3⟩ := S3.has a _ hM3
    have eu := of_int o3
    subst eu
    refine hrd i j H3 _ ⟨dx, vs3, ht3, by rw [Paired.length hv3]; exact hl3, ?_⟩
    exact p1 ρ _ σ B3 _ q (e1.trans e3) (hR.mono (e1.trans e3)) (S3.put hM3 ⟨_, rfl, slks_put slok_int hv3⟩)
theorem rd_add (i j : Int) (H : Hp) (Q : VK) (q : Q (.int (i + j)) H) : rAdd (.int i) (.int j) H Q := ⟨i, j, rfl, rfl, q⟩
theorem rd_sub (i j : Int) (H : Hp) (Q : VK) (q : Q (.int (i - j)) H) : rSub (.int i) (.int j) H Q := ⟨i, j, rfl, rfl, q⟩
/-! ### targets -/
theorem wg_tupS {n : Nat} {g : TGs} {xs : List Sl} {Q : Rho → MH → Prop} (hn : xs.length = n) (h : WGs K g xs ρ M Q) : WG K (gTup K.K n g) (tupS K.K xs) ρ M Q := fun σ B H v hR hS o Q0 k => by
  obtain ⟨a, vs, rfl, hq, ha⟩ := (show ∃ a vs, v = .ref a ∧ SqT K.K B a vs ∧ SlAll K.K B vs xs from o)
  exact ⟨a, vs, rfl, same_t hS.sub hq, by rw [SlAll.len ha]; exact hn, h σ B H vs hR hS ha Q0 k⟩
/-- for x, y in zip(xs, ys) -/
theorem wi_zip {t : TA} {R : Nat → (Nat → Sl) → (MH → Prop) → MH → Prop} (h : WA K t ρ M fun ss M1 => ∃ s1 s2 xs ys, ss = [s1, s2] ∧ LsV K.K s1 M1 xs ∧ LsV K.K s2 M1 ys ∧ R (min xs.length ys.length) (fun i => tupS K.K [xs.getD i .non, ys.getD i .non]) (fun M2 => LsV K.K s1 M2 xs ∧ LsV K.K s2 M2 ys) M1) : WI K (iZip K.K t) ρ M R := fun σ B H hR hS R0 k =>
  h σ B H hR hS _ fun ss vs M1 B1 H1 ⟨s1, s2, xs, ys, es, h1, h2, q⟩ e1 S1 o1 => by
    subst es
    cases o1 with
    | cons oa ob => cases ob with
      | cons ob oc =>
        cases oc
        obtain ⟨a, us, rfl, hq1, ha1⟩ := h1.get S1 oa
        obtain ⟨b, ws, rfl, hq2, ha2⟩ := h2.get S1 ob
        refine ⟨a, b, us, ws, rfl, hq1, hq2, k _ _ _ M1 B1 H1 _ q e1 S1 ⟨fun i B2 M2 H2 hi e2 S2 st => ?_, fun i B2 M2 H2 x H3 hi e2 S2 st y => ?_, fun i B2 M2 H2 hi e2 S2 st => ?_⟩⟩
        · obtain ⟨a', us', ea, q1, r1⟩ := st.1.get S2 (oa.mono e2)
          obtain ⟨b', ws', eb, q2, r2⟩ := st.2.get S2 (ob.mono e2)
          cases ea
          cases eb
          obtain ⟨z1, hz1, _⟩ := SlAll.get r1 (List.getElem?_eq_getElem (show i < xs.length by omega))
          obtain ⟨z2, hz2, _⟩ := SlAll.get r2 (List.getElem?_eq_getElem (show i < ys.length by omega))
          exact ⟨us', ws', z1, z2, q1, q2, hz1, hz2⟩
        · obtain ⟨a', us', ea, q1, r1⟩ := st.1.get S2 (oa.mono e2)
          obtain ⟨b', ws', eb, q2, r2⟩ := st.2.get S2 (ob.mono e2)
          cases ea
          cases eb
          obtain ⟨T, x1, x2, rfl, hT, rfl, f1, f2⟩ := y
          obtain ⟨z1, hz1, oz1⟩ := SlAll.get r1 (List.getElem?_eq_getElem (show i < xs.length by omega))
          obtain ⟨z2, hz2, oz2⟩ := SlAll.get r2 (List.getElem?_eq_getElem (show i < ys.length by omega))
          have g1 : z1 = x1 := Option.some.inj (hz1.symm.trans (f1 us' q1))
          have g2 : z2 = x2 := Option.some.inj (hz2.symm.trans (f2 ws' q2))
          subst g1 g2
          have hB := S2.freeB hT
          refine ⟨upd B2 T (.tup [z1, z2]), same_new hB, S2.alloc hT, ⟨T, [z1, z2], rfl, SqT.of upd_same, ?_⟩⟩
          rw [List.getD_eq_getElem?_getD, List.getElem?_eq_getElem (show i < xs.length by omega), List.getD_eq_getElem?_getD, List.getElem?_eq_getElem (show i < ys.length by omega)]
          exact .cons (oz1.mono (same_new hB)) (.cons (oz2.mono (same_new hB)) .nil)
        · obtain ⟨a', us', ea, q1, r1⟩ := st.1.get S2 (oa.mono e2)
          obtain ⟨b', ws', eb, q2, r2⟩ := st.2.get S2 (ob.mono e2)
          cases ea
          cases eb
          refine ⟨us', ws', q1, q2, ?_⟩
          rw [SlAll.len r1, SlAll.len r2]
          omega
/-! ### comprehensions, any target -/
/-- what the target makes of an item, the comprehension's own slots being vs -/
def LcT (F : PySem.W.Frag) (g : TG) (vs : List Nat) (s : Sl) (f : Rho → Rho) : Prop :=
  ∀ B H v σ ρ M, Sep F B M H → SlOk F B v s → Rl0 F B σ ρ → ∀ Q0 : L2.St → Hp → Prop, (∀ σ2, wipe σ2 vs = wipe σ vs → Rl0 F B σ2 (f ρ) → Q0 σ2 H) → g v σ H Q0
theorem lct_name {F : PySem.W.Frag} {j : Nat} {vs : List Nat} {s : Sl} (hj : j ∈ vs) : LcT F (gName j) vs s (fun ρ => ρ.set j (some s)) := fun B H v σ ρ M S o r Q0 k => k _ (wipe_set _ _ _ _ hj) (r.put o j)
theorem lct_two {F : PySem.W.Frag} {i j : Nat} {vs : List Nat} {x y : PyData} (hi : i ∈ vs) (hj : j ∈ vs) : LcT F (gTup F 2 (gCons (gName i) (gCons (gName j) gNil))) vs (.dat (.tuple [x, y])) (fun ρ => (ρ.set i (some (.dat x))).set j (some (.dat y))) := fun B H v σ ρ M S o r Q0 k => by
  obtain ⟨a, ws, rfl, hq, ha⟩ := (tpv_dat (ds := [x, y])).get S o
  cases ha with
  | cons o1 ha => cases ha with
    | cons o2 ha =>
      cases ha
      refine ⟨a, _, rfl, hq, rfl, _, _, rfl, ?_⟩
      refine ⟨_, _, rfl, rfl, ?_⟩
      exact k _ ((wipe_set _ _ _ _ hj).trans (wipe_set _ _ _ _ hi)) ((r.put o1 i).put o2 j)
theorem w_lcX {wi : TI} {tt : TT} {g : TG} {vs : List Nat} (h : WI K wi ρ M fun n item stay M1 => ∃ J : Nat → List PyData → MH → Prop, J 0 [] M1 ∧ (∀ i acc M', i ≤ n → J i acc M' → ∀ D o, M' D = none → stay (um M' D o)) ∧
    (∀ i acc M' D, i < n → J i acc M' → M' D = none → ∃ f, LcT K.K g vs (item i) f ∧ WT K tt (f (wipeR ρ vs)) (um M' D (.lst (acc.map .dat))) fun b M3 =>
      if b = true then W K te (f (wipeR ρ vs)) M3 fun s M4 => ∃ d M5, s = .dat d ∧ M4 = um M5 D (.lst (acc.map .dat)) ∧ M5 D = none ∧ acc.length < 100000 ∧ J (i + 1) (acc ++ [d]) M5
      else ∃ M5, M3 = um M5 D (.lst (acc.map .dat)) ∧ M5 D = none ∧ J (i + 1) acc M5) ∧
    ∀ acc M' D, J n acc M' → M' D = none → Q (.raw (.ref D)) (um M' D (.lst (acc.map .dat)))) : W K (tLc wi g tt te vs) ρ M Q := fun σ B H hR hS Q0 k =>
  h σ B H hR hS _ fun n item stay M1 B1 H1 It ⟨J, j0, js, jt, je⟩ e1 S1 ok => fun D hD => by
    refine ⟨fun i m H' => m = n - i ∧ i ≤ n ∧ ∃ acc M' B', J i acc M' ∧ M' D = none ∧ Same B1 B' ∧ Sep K.K B' (um M' D (.lst (acc.map .dat))) H', ⟨n, by simp, Nat.zero_le _, [], M1, B1, j0, S1.freeM hD, Same.refl _, S1.new hD ⟨[], rfl, .nil⟩⟩, ?_⟩
    rintro i m H' ⟨rfl, hi, acc, M', B', hj', hMD, e2, S2⟩
    by_cases hlt : i < n
    · refine .inr ⟨ok.go i B' _ H' hlt e2 S2 (js i acc M' hi hj' D _ hMD), fun H2 => ∃ acc M2 B2, J (i + 1) acc M2 ∧ M2 D = none ∧ Same B1 B2 ∧ Sep K.K B2 (um M2 D (.lst (acc.map .dat))) H2, fun H2 ⟨acc, M2, B2, q⟩ => ⟨n - (i + 1), by omega, rfl, hlt, acc, M2, B2, q⟩, fun x H3 y => ?_⟩
      obtain ⟨B3, e3, S3, o3⟩ := ok.yld i B' _ H' x H3 hlt e2 S2 (js i acc M' hi hj' D _ hMD) y
      obtain ⟨f, hf, ht⟩ := jt i acc M' D hlt hj' hMD
      have hR3 := hR.mono ((e1.trans e2).trans e3)
      refine hf B3 H3 x (wipe σ vs) (wipeR ρ vs) _ S3 o3 (hR3.wiped vs).r _ fun σ2 hw hr2 => ⟨hw.trans (wipe_wipe σ vs), ?_⟩
      have R3 : Rl K B3 σ2 (f (wipeR ρ vs)) := ⟨hr2, hR3.x⟩
      refine ht σ2 B3 H3 R3 S3 _ fun b M4 B4 H4 q4 e4 S4 => ?_
      have e14 := (e2.trans e3).trans e4
      cases b with
      | true =>
        refine q4 _ B4 H4 (R3.mono e4) S4 _ fun s v M5 B5 H5 ⟨d, M6, es, em, hn6, hl6, hj6⟩ e5 S5 o5 => ?_
        subst es em
        obtain ⟨_, u, hu, ws, rfl, ha⟩ := S5.has D _ um_same
        have hlen := SlAll.len ha
        rw [List.length_map] at hlen
        refine ⟨ws, hu, Nat.lt_of_lt_of_le (by omega) (show 100000 ≤ sizeLine by decide), acc ++ [d], M6, B5, hj6, hn6, e14.trans e5, ?_⟩
        have S6 := S5.put (u := .lst (ws ++ [v])) (o' := .lst ((acc ++ [d]).map .dat)) um_same ⟨_, rfl, by rw [List.map_append]; exact SlAll.app ha (.cons o5 .nil)⟩
        rw [um_um] at S6
        exact S6
      | false =>
        obtain ⟨M5, em, hn5, hj5⟩ := q4
        subst em
        exact ⟨acc, M5, B4, hj5, hn5, e14, S4⟩
    · have ei : i = n := by omega
      subst ei
      refine .inl ⟨ok.stop i B' _ H' (Nat.le_refl _) e2 S2 (js i acc M' hi hj' D _ hMD), ?_⟩
      exact k _ _ _ B' H' (je acc M' D hj' hMD) (e1.trans e2) S2 slok_ref
/-- a list that was just made will not be changed any more -/
theorem w_frz (h : W K te ρ M fun s M1 => ∃ a ds, s = .raw (.ref a) ∧ M1 a = some (.lst (ds.map .dat)) ∧ Q (.dat (.list ds)) (del M1 a)) : W K te ρ M Q := fun σ B H hR hS Q0 k =>
  h σ B H hR hS _ fun s v M1 B1 H1 ⟨a, ds, es, hM, q⟩ e1 S1 o1 => by
    subst es
    have ev : v = .ref a := o1
    subst ev
    obtain ⟨hB, u, hu, vs, rfl, ha⟩ := S1.has a _ hM
    exact k _ _ _ _ H1 q (e1.trans (same_new hB)) (S1.freeze hM hu) (lst_ok (dpa_of ha) hB)
end
end Ab

set_option Elab.async false
set_option linter.all false
set_option maxRecDepth 100000
set_option  maxHeartbeats 4000000
/-! Ab12: a field of a name, try .. as, isinstance in a suite. -/
namespace L2
open PySem PySem.Spec PyProof.Rows
/-- isinstance(e, C) in a suite: the reading tells what class the caught one has -/
theorem pe_isE {X : Cx} {a : Addr} {oe : Obj} {pn : List (Addr × Obj)} {cls : Value} {dd : Option Addr} {p pos : Pos} {e : Expr} {es : List Expr} {t : TA} (hz : Zc cls dd oe) (hf : ∃ vs, oe.data = .fields vs) (hg : Gl (X.suite a ((a, oe) :: pn)) "isinstance") (hm : (X.suite a ((a, oe) :: pn)).mg "isinstance" = none)
    (ha : PA (X.suite a ((a, oe) :: pn)) (e :: es) t) (h1 : starEach (e :: es) (X.suite a ((a, oe) :: pn)).env = (false, eval e (X.suite a ((a, oe) :: pn)).env) :: starEach es (X.suite a ((a, oe) :: pn)).env := by rfl) (h2 : (backTo pos (starEach es (X.suite a ((a, oe) :: pn)).env)).any (·.1) = false := by rfl) :
    PE (X.suite a ((a, oe) :: pn)) (.Call (.Name "isinstance" p) (e :: es) [] pos) (fun σ H Q => ∃ D, cls = .ref D ∧ dd = none ∧ ExcC X.K D ∧ tCB (rIsE X.K D a) t σ H Q) :=
  ⟨fun pins s σ H Q I ⟨D, e1, e2, hC, h⟩ => by
    subst e1 e2
    exact (pe_callB (call_isE hC hz hf) hg hm (by decide +kernel) ha (he := h1) (hpl := h2)).run pins s σ H Q I h⟩
/-- try .. except, the body's reading kept apart -/
def tTryAs (K : PySem.W.Frag) (c : Value) (i : Nat) (ts : Addr → Value → Option Addr → TS) (Wout : WX) (tb : WX → TS) : TS := fun D σ H => tb (wAs K c i ts Wout D) D σ H
def tTryOnly (K : PySem.W.Frag) (c : Value) (ts : Addr → Value → Option Addr → TS) (Wout : WX) (tb : WX → TS) : TS := fun D σ H => tb (wOnly K c ts Wout D) D σ H
section
variable {X : Cx} {x n : Str} {c : Value} {i : Nat} {body suite : List Stmt} {b₀ : Stmt} {np pos pos' : Pos} {tb : WX → TS} {ts : Addr → Value → Option Addr → TS} {Wout : WX}
theorem ps_tryAs (hs : X.stack = X.env :: X.outer) (hf : X.env.frame = some X.env.locals) (hN : X.N.Nodup) (hi : X.N[i]? = some n) (hln : X.env.kindOf n = some .local) (hc : Names X x c) (tk : Takes X Wout)
    (hb : ∀ (W : WX) (pn : List (Addr × Obj)) (xe : Value → Shared → Prop), Takes (X.tr pn xe) W → PassesOwn (model X.prog X.w) X.A X.env xe → PSs (X.tr pn xe) body (tb W))
    (hu : ∀ (a : Addr) (oe : Obj) (cls : Value) (d : Option Addr) (pn : List (Addr × Obj)), Zc cls d oe → (∃ vs, oe.data = .fields vs) → PSs (X.suite a ((a, oe) :: pn)) (b₀ :: suite) (ts a cls d)) : PS X (.Try body [.ExceptHandler (some (.Name x np)) (some n) (b₀ :: suite) pos'] [] [] pos) (tTryAs X.K c i ts Wout tb) := ps_try_as hs hf hN hi hln hc tk hb hu
theorem ps_tryOnly (hs : X.stack = X.env :: X.outer) (hf : X.env.frame = some X.env.locals) (hc : Names X x c) (tk : Takes X Wout)
    (hb : ∀ (W : WX) (pn : List (Addr × Obj)) (xe : Value → Shared → Prop), Takes (X.tr pn xe) W → PassesOwn (model X.prog X.w) X.A X.env xe → PSs (X.tr pn xe) body (tb W))
    (hu : ∀ (a : Addr) (oe : Obj) (cls : Value) (d : Option Addr) (pn : List (Addr × Obj)), Zc cls d oe → (∃ vs, oe.data = .fields vs) → PSs (X.suite a ((a, oe) :: pn)) (b₀ :: suite) (ts a cls d)) : PS X (.Try body [.ExceptHandler (some (.Name x np)) none (b₀ :: suite) pos'] [] [] pos) (tTryOnly X.K c ts Wout tb) := ps_try_only hs hf hc tk hb hu
end
end L2
namespace Ab
open PySem PySem.Spec PyProof.Rows L2
section
variable {K : KX} {ρ : Rho} {M : MH} {Q Q' : Sl → MH → Prop} {ta tb te tc td ty tx tv : TE} {P : AE} {nx bk ct : Rho → MH → Prop} {rt : Sl → MH → Prop}
/-- x.f, x a name -/
theorem w_fldI {i : Nat} {f : Str} {a C dx : Addr} {fs : List (Str × Sl)} {x : Sl} (hv : ρ[i]? = some (some (.raw (.ref a)))) (hM : M a = some (.ins C dx fs)) (c : Cls K.K C) (n : NoAttr K.K C f) (l : fs.lookup f = some x) (q : Q x M) : W K (tFld K.K (tVar i) f) ρ M Q :=
  w_fld (w_var hv ⟨a, C, dx, fs, x, rfl, hM, c, n, l, q⟩)
/-- x.f = e, x a name -/
theorem ws_fldI {i : Nat} {f : Str} {a C : Addr} (hv : ρ[i]? = some (some (.raw (.ref a)))) (c : Cls K.K C) (n : NoAttr K.K C f) (h : W K te ρ M fun s M1 => ∃ dx fs, M1 a = some (.ins C dx fs) ∧ fs.length < 1000 ∧ nx ρ (um M1 a (.ins C dx (putS f s fs)))) : WS K (sFld K.K (tVar i) te f) ρ M ⟨nx, rt, bk, ct⟩ :=
  ws_fld (h.imp fun s M1 ⟨dx, fs, hM, hl, q⟩ => w_var hv ⟨a, C, dx, fs, rfl, hM, c, n, hl, q⟩)
theorem ws_tryAs {c : Value} {i : Nat} {tb : WX → TS} {ts : Addr → Value → Option Addr → TS} (X : Value → Option Addr → Rho → MH → Prop) (hb : ∀ W, WS ⟨K.K, W, X⟩ (tb W) ρ M ⟨nx, rt, bk, ct⟩)
    (hx : ∀ C d ρ' M', X C d ρ' M' → ∃ b, PySem.W.exmOne K.K C c = some b ∧ (b = true → ∀ a, WS K (ts a C d) (ρ'.set i (some (.raw (.ref a)))) M' ⟨fun ρ2 M2 => nx (ρ2.set i none) M2, rt, fun ρ2 M2 => bk (ρ2.set i none) M2, fun ρ2 M2 => ct (ρ2.set i none) M2⟩) ∧ (b = false → K.X C d ρ' M')) :
    WS K (tTryAs K.K c i ts K.W tb) ρ M ⟨nx, rt, bk, ct⟩ := fun σ B H D hR hS p1 p2 p3 p4 => by
  refine hb _ σ B H D ⟨hR.r, fun C d ρ' M' σ' B' H' x e r S => ?_⟩ hS (fun ρ2 M2 σ2 B2 H2 q e2 R2 S2 => p1 ρ2 M2 σ2 B2 H2 q e2 ⟨R2.r, (hR.mono e2).x⟩ S2) p2 (fun ρ2 M2 σ2 B2 H2 q e2 R2 S2 => p3 ρ2 M2 σ2 B2 H2 q e2 ⟨R2.r, (hR.mono e2).x⟩ S2) (fun ρ2 M2 σ2 B2 H2 q e2 R2 S2 => p4 ρ2 M2 σ2 B2 H2 q e2 ⟨R2.r, (hR.mono e2).x⟩ S2)
  obtain ⟨b, h1, h2, h3⟩ := hx C d ρ' M' x
  refine ⟨b, h1, fun e1 a _ => ?_, fun e1 => hR.x C d ρ' M' σ' B' H' (h3 e1) e r S⟩
  exact h2 e1 a _ B' H' _ (Rl.put slok_ref i ⟨r, (hR.mono e).x⟩) S (fun ρ2 M2 σ2 B2 H2 q e2 R2 S2 => p1 _ M2 _ B2 H2 q (e.trans e2) (R2.non i) S2) (fun s v M2 B2 H2 q e2 => p2 s v M2 B2 H2 q (e.trans e2)) (fun ρ2 M2 σ2 B2 H2 q e2 R2 S2 => p3 _ M2 _ B2 H2 q (e.trans e2) (R2.non i) S2) (fun ρ2 M2 σ2 B2 H2 q e2 R2 S2 => p4 _ M2 _ B2 H2 q (e.trans e2) (R2.non i) S2)
/-- isinstance(e, C) of a caught one -/
theorem w_isE {cls : Value} {dd : Option Addr} {D a : Addr} {t : TA} (e1 : cls = .ref D) (e2 : dd = none) (hC : ExcC K.K D) (h : WA K t ρ M fun ss M1 => ∃ (c : V) (cv : Value) (b : Bool), ss = [.raw (.ref a), .raw c] ∧ (∀ u, RelV c u → u = cv) ∧ PySem.W.kitOne K.K (.ref D) cv = some b ∧ Q (.bl b) M1) :
    W K (fun σ H Q => ∃ D, cls = .ref D ∧ dd = none ∧ ExcC K.K D ∧ tCB (rIsE K.K D a) t σ H Q) ρ M Q := fun σ B H hR hS Q0 k =>
  ⟨D, e1, e2, hC, h σ B H hR hS _ fun ss vs M1 B1 H1 ⟨c, cv, b, es, hc, hk, q⟩ e S o => by
    subst es
    cases o with
    | cons o1 o => cases o with
      | cons o2 o =>
        cases o
        have a1 : _ = V.ref a := o1
        have a2 : _ = c := o2
        subst a1 a2
        exact ⟨_, cv, b, rfl, hc, hk, k _ _ M1 B1 H1 q e S slok_bl⟩⟩
theorem ws_tryO {c : Value} {tb : WX → TS} {ts : Addr → Value → Option Addr → TS} (X : Value → Option Addr → Rho → MH → Prop) (hb : ∀ W, WS ⟨K.K, W, X⟩ (tb W) ρ M ⟨nx, rt, bk, ct⟩)
    (hx : ∀ C d ρ' M', X C d ρ' M' → ∃ b, PySem.W.exmOne K.K C c = some b ∧ (b = true → ∀ a, WS K (ts a C d) ρ' M' ⟨nx, rt, bk, ct⟩) ∧ (b = false → K.X C d ρ' M')) : WS K (tTryOnly K.K c ts K.W tb) ρ M ⟨nx, rt, bk, ct⟩ := ws_tryOnly X hb hx
/-- d["k"], d a name -/
theorem w_dgetI {i : Nat} {z : Str} {g : Addr} {kvs : List (Key × Sl)} {x : Sl} (hv : ρ[i]? = some (some (.raw (.ref g)))) (hM : M g = some (.dK kvs)) (hx : valG kvs (.inr z) = some x) (q : Q x M) : W K (tDGet (tVar i) (tC (.str z))) ρ M Q :=
  w_dget (w_var hv (w_str ⟨kvs, .inr z, x, dcv_ref hM, rfl, hx, q⟩))
theorem ty_dct {F : PySem.W.Frag} {M : MH} {g : Addr} {kvs : List (Key × Sl)} (hM : M g = some (.dK kvs)) : ∀ B H v, Sep F B M H → SlOk F B v (.raw (.ref g)) → tyV F "dict" v H := fun B H v S o => by
  have ev : v = .ref g := o
  subst ev
  obtain ⟨_, u, hu, vs, rfl, _⟩ := S.has g _ hM
  exact .inr (.inr (.inl ⟨rfl, .inl ⟨vs, hu⟩⟩))
end
end Ab

set_option Elab.async false
set_option linter.all false
set_option maxRecDepth 100000
set_option  maxHeartbeats 4000000
/-! Ab13: is, is not of booleans; isinstance of a list that changes. -/
namespace L2
open PySem PySem.Spec PyProof.Rows PyProof
/-- a tuple target, the module's part named -/
theorem pg_tupK {X : Cx} {K : PySem.W.Frag} {es : List Expr} {k : Nat} {t : TGs} {n : Nat} {pos : Pos} (hK : X.K = K) (hc : X.calm = true) (h : PGs X es t)
    (hn : (assignEach es X.env).length = n := by rfl) (hst : (assignEach es X.env).findIdx? (·.1) = none := by rfl) : PG X (.Tuple es k pos) (gTup K n t) := by
  subst hK
  exact pg_tup hc h hn hst
theorem kit_self {K : PySem.W.Frag} {c : Addr} : PySem.W.kitOne K (.ref c) (.ref c) = some true := by
  unfold PySem.W.kitOne
  rw [if_pos (beq_self_eq_true _)]
theorem kit_type {K : PySem.W.Frag} {c : Addr} {T : String} {b : Bool} (h : PySem.W.kitMeta T = true) (e : PySem.W.subIn K (.ref c) (.type T) = some b) : PySem.W.kitOne K (.ref c) (.type T) = some b := by
  unfold PySem.W.kitOne PySem.W.kitCls
  rw [if_neg (by simp)]
  show (if PySem.W.kitMeta T = true then _ else none) = _
  rw [if_pos h]
  exact e
end L2
namespace Ab
open PySem PySem.Spec PyProof.Rows L2
variable {M : MH} {Q : Sl → MH → Prop}
theorem w2_isB {K : PySem.W.Frag} {a b : Bool} (q : Q (.bl (decide (a = b))) M) : W2 K rIsB (.bl a) (.bl b) M Q := fun B H v w hS o1 o2 Q0 k => ⟨a, b, of_bl o1, of_bl o2, k _ _ M B H q (Same.refl B) hS slok_bl⟩
theorem w2_notB {K : PySem.W.Frag} {a b : Bool} (q : Q (.bl (!decide (a = b))) M) : W2 K rNotB (.bl a) (.bl b) M Q := fun B H v w hS o1 o2 Q0 k => ⟨a, b, of_bl o1, of_bl o2, k _ _ M B H q (Same.refl B) hS slok_bl⟩
/-- isinstance of a list that changes -/
theorem wl_isiL {K : PySem.W.Frag} {a : Addr} {xs : List Sl} {n : String} {b : Bool} (h : M a = some (.lst xs)) (hb : kitB "list" n = some b) (q : Q (.bl b) M) : WL K (rIsi K) [.raw (.ref a), .raw (.ty n)] M Q := fun B H vs hS o Q0 k => by
  cases o with
  | cons o1 o2 =>
    cases o2 with
    | cons o2 o3 =>
      cases o3
      obtain rfl : _ = V.ty n := o2
      obtain rfl : _ = V.ref a := o1
      obtain ⟨_, u, hu, ws, rfl, ha⟩ := hS.has a _ h
      exact ⟨_, .ty n, _, _, b, rfl, .ty n, .base (.lst hu), kit_ty hb, k _ _ M B H q (Same.refl B) hS slok_bl⟩
theorem w2_ixRL {K : PySem.W.Frag} {a : Addr} {x : Sl} {xs : List Sl} {i : Int} (h : M a = some (.lst xs)) (hx : atI xs i = some x) (q : Q x M) : W2 K (rIx K) (.raw (.ref a)) (.int i) M Q := fun B H v w hS o1 o2 Q0 k =>
  .inl (w2_ixL (lsv_ref h) hx q B H v w hS o1 o2 Q0 k)
theorem hu1 {n : Nat} (h : n + 64 < cLine) : n + 1 < cLine := by omega
/-- a def that keeps two promises -/
def orA (A1 A2 : ASp) : ASp := fun ss M Q => A1 ss M Q ∨ A2 ss M Q
theorem fn_or {P : Program} {w : World} {K : PySem.W.Frag} {mg : Str → Option Value} {base : Heap} {CX : CXT} {k : Nat} {f : Addr} {fd : FuncData} {ps : List Str} {A1 A2 : ASp} (F1 : FnOk P w K mg base CX k f fd ps (conc K A1)) (F2 : FnOk P w K mg base CX k f fd ps (conc K A2)) : FnOk P w K mg base CX k f fd ps (conc K (orA A1 A2)) :=
  ⟨fun vs H Q E ⟨B, M, ss, QA, S, o, h, q⟩ => h.elim (fun h => F1.len vs H Q E ⟨B, M, ss, QA, S, o, h, q⟩) (fun h => F2.len vs H Q E ⟨B, M, ss, QA, S, o, h, q⟩),
   fun A outer s H args us vs Q E a b c d ⟨B, M, ss, QA, S, o, h, q⟩ => h.elim (fun h => F1.run A outer s H args us vs Q E a b c d ⟨B, M, ss, QA, S, o, h, q⟩) (fun h => F2.run A outer s H args us vs Q E a b c d ⟨B, M, ss, QA, S, o, h, q⟩)⟩
end Ab

set_option Elab.async false
set_option linter.all false
set_option maxRecDepth 100000
set_option  maxHeartbeats 4000000
/-! Ab14: sorted(xs, key=f), f a def of the module whose keys Python can compare as far as they differ. -/
namespace L2
open PySem PySem.Spec PySem.Calls PyProof.Rows
section
variable {prog : Program} {w : World} {A : Around} {E : Value → Shared → Prop} {s : Shared} {a kS : Addr} {vs : List Value} {keys : Array Value} {e e1 : Nat} {P : PySem.Fin → Shared → Prop}
def freed (o : Obj) : Obj := { o with data := .freed }
theorem freed_none {h : Heap} {k : Addr} {o : Obj} (ho : h.get? k = some o) : (h.update k freed).get? k = none := by
  have h1 := ((Heap.get?_eq_some h k _).mp ho).1
  unfold Heap.get?
  rw [Heap.objs_update_self, h1]
  rfl
/-- behind the keys: nothing but the two lists changes -/
theorem srt_end {κ : PyProof.Rows.KeyKind} (nk : s.heap.get? kS = some (seqObj "list" keys e)) (na : s.heap.get? a = some (seqObj "list" #[] e1)) (hka : kS ≠ a) (S : PySem.W.SortsAt prog w A s κ keys.toList) (hsz : keys.size = vs.length) (hZ : vs.length ≤ sizeLine)
    (h : ∀ h' tk c, (∀ b o, b ≠ a → b ≠ kS → s.heap.get? b = some o → h'.get? b = some o) → h'.get? a = some (seqObj "list" (PySem.W.sortVals κ false keys.toList vs).toArray c) → P (.done (.ret .none)) { s with heap := h', toks := tk }) :
    wpAny (model prog w) A (ksk_end a false vs.toArray e1 (.ref kS) keys) P E s := by
  have gk := freed_none nk
  have go : ∀ b, b ≠ kS → (s.heap.update kS freed).get? b = s.heap.get? b := fun b hb => Heap.get?_update_ne _ _ _ _ hb
  have kp : PySem.W.KeepsBut a (s.heap.update kS freed) s.heap := fun b o _ q => by
    have hb : b ≠ kS := fun z => by rw [z, gk] at q; cases q
    rw [← go b hb]
    exact q
  exact PySem.W.keyH_end (κ := κ) kp gk nk na hka S hsz hZ fun h' tk c k' hD => h h' tk c (fun b o n1 n2 q => k' b o n1 (by rw [go b n2]; exact q)) hD
end
end L2
namespace L2
open PySem PySem.Spec PySem.Calls PyProof.Rows
section
variable {prog : Program} {w : World} {A : Around} {E : Value → Shared → Prop} {s : Shared} {a kS : Addr} {vs : List Value} {e1 : Nat} {P : PySem.Fin → Shared → Prop}
/-- the keys, one by one; L: what holds behind so many of them -/
theorem srt_rest {f : Value} (hka : kS ≠ a) (hZ : vs.length ≤ sizeLine) (L : Nat → List Value → Shared → Prop) (h0 : L 0 [] s)
    (hat : ∀ i ks s', L i ks s' → ks.length = i ∧ (∃ e, s'.heap.get? kS = some (seqObj "list" ks.toArray e)) ∧ s'.heap.get? a = some (seqObj "list" #[] e1))
    (turn : ∀ i v ks s', vs[i]? = some v → L i ks s' → wpAny (model prog w) A (call f [v]) (fun k s2 => (∃ e, s2.heap.get? kS = some (seqObj "list" ks.toArray e)) ∧ L (i + 1) (ks ++ [k]) { s2 with heap := s2.heap.update kS (Obj.mapSeq (·.push k)) }) (fun _ _ => False) s')
    (fin : ∀ ks s', L vs.length ks s' → ∃ κ, PySem.W.SortsAt prog w A s' κ ks ∧ ∀ h' tk c, (∀ b o, b ≠ a → b ≠ kS → s'.heap.get? b = some o → h'.get? b = some o) → h'.get? a = some (seqObj "list" (PySem.W.sortVals κ false ks vs).toArray c) → P (.done (.ret .none)) { s' with heap := h', toks := tk }) :
    wpAny (model prog w) A (ksk_rest a f false vs.toArray e1 (.ref kS)) P E s := by
  unfold ksk_rest
  refine wpAny_bind (wpAny_rule ?_)
  rw [List.forIn_toArray]
  refine wpAny_bind (ksk_fold (fun i s' => ∃ ks, L i ks s') vs 0 s ⟨[], h0⟩ (fun j x s' hx ⟨ks, hL⟩ => ?_) fun s' ⟨ks, hL⟩ => ?_)
  · rw [Nat.zero_add] at hL ⊢
    obtain ⟨hl, ⟨e, hk⟩, _⟩ := hat _ _ _ hL
    have hj := (List.getElem?_eq_some_iff.mp hx).1
    refine wpAny_bind (wpAny_attempt (wpAny_mono (turn j x ks s' hx hL) (fun k s2 ⟨⟨e2, q1⟩, q2⟩ => ?_) fun _ _ z => z.elim))
    refine wpAny_bind (listUpdate_at q1 rfl ?_ (by rw [List.size_toArray, hl]; omega) (by rw [Array.size_push, List.size_toArray, hl]; omega))
    exact wpAny_pure ⟨rfl, _, q2⟩
  · rw [Nat.zero_add] at hL
    obtain ⟨hl, ⟨e, hk⟩, ha⟩ := hat _ _ _ hL
    obtain ⟨κ, hS, q⟩ := fin ks s' hL
    refine wpAny_bind (listItems_at hk rfl ?_)
    exact srt_end (κ := κ) hk ha hka hS (by rw [List.size_toArray]; exact hl) hZ q
end
end L2
namespace L2
open PySem PySem.Spec PySem.Calls PyProof.Rows
section
variable {prog : Program} {w : World} {A : Around} {E : Value → Shared → Prop} {s : Shared} {a : Addr} {vs : List Value} {P : PySem.Fin → Shared → Prop}
/-- list.sort with a key: the list is emptied, a list of the keys is laid -/
theorem srt_tree {f : Value} {n : Nat} (ho : s.heap.get? a = some (seqObj "list" vs.toArray n)) (hZ : vs.length ≤ sizeLine)
    (h : ∀ e1 h1 kS, s.heap.objs.size ≤ kS → kS ≠ a → (∀ b o, b ≠ a → s.heap.get? b = some o → h1.get? b = some o) → h1.get? a = some (seqObj "list" #[] e1) → h1.get? kS = some (seqObj "list" #[] 0) →
      wpAny (model prog w) A (ksk_rest a f false vs.toArray e1 (.ref kS)) P E { s with heap := h1 }) : wpAny (model prog w) A (ksk_tree a f false) P E s := by
  have hlt := Heap.lt_size ho
  have hone := get?_update_seq ho fun _ => (#[] : Array Value)
  generalize he : (if ((#[] : Array Value).size == vs.toArray.size) = true then n else n + 1) = e1 at hone
  have hsz : ((s.heap.update a (Obj.mapSeq fun _ => (#[] : Array Value))).push (seqObj "tuple" vs.toArray 0)).objs.size = s.heap.objs.size + 1 := by rw [size_push', Heap.size_update]
  have kp : ∀ b o, b ≠ a → s.heap.get? b = some o → (PySem.W.sortingHeap s.heap a vs).get? b = some o := fun b o hb q => PySem.W.sortingHeap_old hb q
  have fin := h e1 (PySem.W.sortingHeap s.heap a vs) (s.heap.objs.size + 1) (Nat.le_succ _) (Nat.ne_of_gt (Nat.lt_succ_of_lt hlt)) kp (Heap.get?_push_of_some _ (Heap.get?_push_of_some _ hone)) (by rw [← hsz]; exact Heap.get?_push_size _ rfl)
  unfold ksk_tree
  refine wpAny_bind (listItems_at ho rfl (wpAny_bind (listUpdate_at ho rfl ?_ (by rw [List.size_toArray]; exact hZ) (Nat.zero_le _))))
  refine wpAny_bind (seqEpoch_at hone rfl (wpAny_bind (wpAny_newTuple ?_ (show vs.length ≤ _ from hZ))))
  refine wpAny_bind (wpAny_newList (wpAny_holding ?_) (Nat.zero_le _))
  rw [← hsz] at fin
  exact fin
/-- sorted with a key -/
theorem srt_call {l : Addr} {f : Addr} {Q : Value → Shared → Prop} (hl : s.heap.IsList l vs.toArray) (hZ : vs.length ≤ sizeLine)
    (h : ∀ e1 h1 a kS E', s.heap.objs.size ≤ a → s.heap.objs.size ≤ kS → kS ≠ a → (∀ b o, s.heap.get? b = some o → h1.get? b = some o) → h1.get? a = some (seqObj "list" #[] e1) → h1.get? kS = some (seqObj "list" #[] 0) →
      wpAny (model prog w) A.in1.in1 (ksk_rest a (.ref f) false vs.toArray e1 (.ref kS)) (fun r s' => r = .done (.ret .none) ∧ Q (.ref a) s') E' { s with heap := h1 }) :
    wpAny (model prog w) A (call (.builtin "sorted") [.ref l] [(Str.ofString "key", .ref f)]) Q E s := by
  refine PySem.W.sorted_of_sort hl hZ (ksk_s1 _ _) (fun _ => ksk_l1 _ _) fun E' => ?_
  rw [ksk_t1]
  have up : s.heap.objs.size ≤ (PySem.W.copyHeap s.heap vs).objs.size := Nat.le_trans (Nat.le_succ _) (Nat.le_of_lt (Heap.lt_size (PySem.W.copyHeap_at s.heap vs)))
  refine srt_tree (s := { s with heap := PySem.W.copyHeap s.heap vs }) (PySem.W.copyHeap_at s.heap vs) hZ fun e1 h1 kS k1 k2 k3 k4 k5 => ?_
  exact h e1 h1 _ kS E' (Nat.le_succ _) (Nat.le_trans up k1) k2 (fun b o q => k3 b o (Nat.ne_of_lt (Nat.lt_succ_of_lt (Heap.lt_size q))) (PySem.W.copyHeap_old q)) k4 k5
end
end L2
namespace Ab
open PySem PySem.Spec PySem.Calls PyProof.Rows PySem.SeqAt
/-- pair by pair, as list.sort compares keys that are tuples -/
theorem kat_datas {prog : Program} {w : World} {A : Around} {s : Shared} {b z : Bool} {Q : Bool → Shared → Prop} : ∀ (xs ys : List PyData) (i : Nat) (vs ws : List Value) (as bs : List Addr), ReadsAll s.heap vs xs as → ReadsAll s.heap ws ys bs → cmpOks xs ys = true → PyData.canLayAll0 xs = true → PyData.canLayAll0 ys = true →
    A.units + min (PyData.depthAll xs) (PyData.depthAll ys) < cLine → (b = true → i = 0 → ∀ x r, xs = x :: r → ∃ n, x = .int n) → Q (cmpVs .Lt z xs ys) s → PySem.W.KatLex prog w A b z Q (vs.zip ws) i s
  | [], ys, i, vs, ws, _, _, ra, rb, _, _, _, _, _, hq => by
    cases ra
    rw [List.zip_nil_left]
    have hq' : Q z s := by cases ys <;> simpa [cmpVs] using hq
    exact PySem.W.kat_nil hq'
  | x :: xs, [], i, vs, ws, _, _, ra, rb, _, _, _, _, _, hq => by
    cases rb
    rw [List.zip_nil_right]
    exact PySem.W.kat_nil (by simpa [cmpVs] using hq)
  | x :: xs, y :: ys, i, _, _, _, _, ra, rb, hc, ha, hb, hu, hi, hq => by
    cases ra with
    | cons r rs =>
      cases rb with
      | cons r' rs' =>
        rw [PyData.canLayAll0, Bool.and_eq_true] at ha hb
        rw [List.zip_cons_cons]
        have he := eqAt_reads x y A s _ _ _ _ r r' ha.1 hb.1 (room_head hu)
        rw [cmpOks] at hc
        refine PySem.W.kat_cons (he prog w _ _ ?_)
        cases hx : PyData.eqv x y with
        | true =>
          rw [hx, if_pos rfl] at hc
          rw [cmpVs, hx, if_pos rfl] at hq
          exact PySem.W.kat_yes (kat_datas xs ys (i + 1) _ _ _ _ rs rs' hc ha.2 hb.2 (room_tail hu) (fun _ z => nomatch z) hq)
        | false =>
          rw [hx, if_neg Bool.false_ne_true] at hc
          rw [cmpVs, hx, if_neg Bool.false_ne_true] at hq
          refine PySem.W.kat_no ?_
          cases hf : (b && i == 0) with
          | false =>
            rw [oneLt'_eq]
            simp only [Bool.false_eq_true, if_false]
            exact wpAny_bind (rc_data .lt x y A s _ _ _ _ r r' hc ha.1 hb.1 (room_head hu) prog w _ _ (wpAny_truthy_bool hq))
          | true =>
            rw [Bool.and_eq_true] at hf
            obtain ⟨n, rfl⟩ := hi hf.1 (by simpa using hf.2) x xs rfl
            cases y with
            | int m =>
              cases r with
              | int _ t => cases r' with
                | int _ u => exact oneLt_int (by simpa [cmpV, cmpI] using hq)
            | none => simp [cmpOk] at hc
            | bool _ => simp [cmpOk] at hc
            | str _ => simp [cmpOk] at hc
            | list _ => simp [cmpOk] at hc
            | tuple _ => simp [cmpOk] at hc
            | dict _ => simp [cmpOk] at hc
/-- keys that have an order of their own -/
noncomputable def ownKind (O : KeyOrd) (kf : O.α → PyData) (h : Heap) (rs : List O.α) (d : O.α) : PyProof.Rows.KeyKind where
  toKeyOrd := O
  keyOf v := open Classical in if q : ∃ r, r ∈ rs ∧ ∃ as, Reads h v (kf r) as then some q.choose else none
  dflt := d
theorem ownKind_inv {O : KeyOrd} {kf : O.α → PyData} {h : Heap} {rs : List O.α} {d : O.α} {v : Value} {r : O.α} (e : (ownKind O kf h rs d).keyOf v = some r) : r ∈ rs ∧ ∃ as, Reads h v (kf r) as := by
  by_cases q : ∃ r, r ∈ rs ∧ ∃ as, Reads h v (kf r) as
  · have e' : (ownKind O kf h rs d).keyOf v = some q.choose := by
      show (open Classical in if q : ∃ r, r ∈ rs ∧ ∃ as, Reads h v (kf r) as then some q.choose else none) = _
      rw [dif_pos q]
    rw [e'] at e
    cases e
    exact q.choose_spec
  · have e' : (ownKind O kf h rs d).keyOf v = none := by
      show (open Classical in if q : ∃ r, r ∈ rs ∧ ∃ as, Reads h v (kf r) as then some q.choose else none) = _
      rw [dif_neg q]
      rfl
    rw [e'] at e
    cases e
/-- what is asked of the keys -/
structure KeyFit (O : KeyOrd) (kf : O.α → PyData) (T : Value) (rs : List O.α) : Prop where
  cmp : ∀ r ∈ rs, ∀ r' ∈ rs, cmpOk (kf r) (kf r') = true ∧ cmpV .Lt (kf r) (kf r') = O.blt r r' ∧ (kf r = kf r' → r = r')
  tup : ∀ r ∈ rs, SeqAt.shaped (kf r) = true ∧ ∃ x t, kf r = .tuple (x :: t) ∧ PySem.W.dataType x = T
  typ : T = .type "int" ∨ T = .type "tuple"
theorem ownKind_some {O : KeyOrd} {kf : O.α → PyData} {h : Heap} {rs : List O.α} {d : O.α} {T : Value} (F : KeyFit O kf T rs) {v : Value} {r : O.α} {as : List Addr} (hr : r ∈ rs) (q : Reads h v (kf r) as) : (ownKind O kf h rs d).keyOf v = some r := by
  have z : ∃ r, r ∈ rs ∧ ∃ as, Reads h v (kf r) as := ⟨r, hr, as, q⟩
  have e' : (ownKind O kf h rs d).keyOf v = some z.choose := by
    show (open Classical in if q : ∃ r, r ∈ rs ∧ ∃ as, Reads h v (kf r) as then some q.choose else none) = _
    rw [dif_pos z]
  obtain ⟨h1, as', h2⟩ := z.choose_spec
  rw [e', (F.cmp _ h1 _ hr).2.2 (PySem.Reads.unique h2 _ _ q).1]
theorem each_mapR {α β γ : Type} {R : α → γ → Prop} {f : β → γ} : ∀ {as : List α} {bs : List β}, PySem.W.EachIs (fun a b => R a (f b)) as bs → PySem.W.EachIs R as (bs.map f)
  | _, _, .nil => .nil
  | _, _, .cons h t => .cons h (each_mapR t)
theorem own_sorts {prog : Program} {w : World} {A : Around} {s : Shared} {O : KeyOrd} {kf : O.α → PyData} {rs : List O.α} {d : O.α} {T : Value} {ks : List Value} (F : KeyFit O kf T rs) (e : PySem.W.EachIs (fun v r => ∃ as, Reads s.heap v (kf r) as) ks rs) (hu : A.units + 64 < cLine) :
    PySem.W.SortsAt prog w A s (ownKind O kf s.heap rs d) ks := by
  refine ⟨fun v hv => ?_, tuples' (T != .type "tuple"), fun E x y a b Q ha hb hq => ?_, fun h2 E Q hq => ?_⟩
  · obtain ⟨r, hr, as, q⟩ := e.left v hv
    exact ⟨r, ownKind_some F hr q⟩
  · obtain ⟨m1, as, r1⟩ := ownKind_inv ha
    obtain ⟨m2, bs, r2⟩ := ownKind_inv hb
    obtain ⟨c1, c2, _⟩ := F.cmp _ m1 _ m2
    obtain ⟨s1, x1, t1, e1, T1⟩ := F.tup _ m1
    obtain ⟨s2, x2, t2, e2, T2⟩ := F.tup _ m2
    have hq' : Q (cmpV .Lt (kf a) (kf b)) s := by rw [c2]; exact hq
    have l1 := canLay_of_shaped s1
    have l2 := canLay_of_shaped s2
    have hroom := room_of_shaped (db := kf b) s1 hu
    rw [e1] at r1 l1 c1 hq' hroom
    rw [e2] at r2 l2 c1 hq' hroom
    cases r1 with
    | @tuple l o vs n _ _ h1 h2 h3 h4 =>
      cases r2 with
      | @tuple l' o' vs' n' _ _ k1 k2 k3 k4 =>
        have n1 : vs.size = (x1 :: t1).length := by simpa using ReadsAll.length _ _ _ h4
        have n2 : vs'.size = (x2 :: t2).length := by simpa using ReadsAll.length _ _ _ k4
        refine PySem.W.kat_lt h1 h3 k1 k3 ?_
        refine kat_datas (x1 :: t1) (x2 :: t2) 0 _ _ _ _ h4 k4 c1 l1 l2 (by have := room_in hroom; have h5 : A.in1.units = A.units + 1 := rfl; omega) (fun hb _ x r ex => ?_) ?_
        · cases ex
          rcases F.typ with rfl | rfl
          · cases x1 <;> first | exact ⟨_, rfl⟩ | exact absurd T1 (by simp [PySem.W.dataType])
          · exact absurd hb (by decide)
        · rw [n1, n2]
          exact hq'
  · obtain ⟨fs, t1, t2, t3⟩ := PySem.W.each_katTups (each_mapR (R := fun v d => ∃ as, Reads s.heap v d as) e) fun d hd => by
      obtain ⟨r, hr, rfl⟩ := List.mem_map.mp hd
      obtain ⟨_, x, t, e1, _⟩ := F.tup r hr
      exact ⟨x, t, e1⟩
    refine PySem.W.kat_kind (T := T) t1 (by omega) (fun f hf => ?_) (beq_self_eq_true _) hq
    obtain ⟨x, r, as, m1, m2⟩ := t3 f hf
    obtain ⟨r', hr', e'⟩ := List.mem_map.mp m1
    obtain ⟨_, x', t', e1, hT⟩ := F.tup r' hr'
    rw [e1] at e'
    cases e'
    rw [← hT]
    exact PySem.W.looks_reads m2
end Ab
namespace L2
open PySem PySem.Spec PySem.Calls PyProof.Rows Ab
/-- what was untracked and is none of the old ones changes -/
theorem Un.later {fs : List Addr} {H H2 : Hp} {h h2 h3 : Heap} {ch : List Addr} (u : Un fs [] H H2 h h2) (k : ∀ b o, b ∉ ch → h2.get? b = some o → h3.get? b = some o) (hn : ∀ b ∈ ch, h.get? b = none) : Un fs [] H H2 h h3 where
  keep := fun b o q n hb hx => k b o (fun z => by rw [hn b z] at q; cases q) (u.keep b o q n hb hx)
  slot := fun b o q n hb hx => let ⟨sl, e⟩ := u.slot b o q n hb hx; ⟨sl, k b _ (fun z => by rw [hn b z] at q; cases q) e⟩
  free := u.free
  there := fun b o q hx => let ⟨o', e⟩ := u.there b o q hx; ⟨o', k b _ (fun z => by rw [hn b z] at q; cases q) e⟩
  tups := u.tups
  frzs := u.frzs
  tbls := u.tbls
/-- what stands there is tracked from now on -/
theorem Un.track {fs : List Addr} {H H2 : Hp} {h h2 : Heap} {a : Addr} {o : HO} (u : Un fs [] H H2 h h2) (hn : h.get? a = none) (h2n : H2 a = none) : Un fs [] H (upd H2 a o) h h2 where
  keep := u.keep
  slot := u.slot
  free := fun b ob q n hx => by rw [upd_ne fun z => by rw [z, hn] at q; cases q]; exact u.free b ob q n hx
  there := u.there
  tups := fun b xs q => by rw [upd_ne fun z => by have := u.tups b xs q; rw [z, h2n] at this; cases this]; exact u.tups b xs q
  frzs := fun b ob xs q => by rw [upd_ne fun z => by have := u.frzs b ob xs q; rw [z, h2n] at this; cases this]; exact u.frzs b ob xs q
  tbls := fun b ps q => by
    obtain ⟨more, e⟩ := u.tbls b ps q
    exact ⟨more, by rw [upd_ne fun z => by rw [z, h2n] at e; cases e]; exact e⟩
theorem HOk.later {P : Program} {w : World} {H : Hp} {h h' : Heap} {ch : List Addr} (x : HOk P w H h) (k : ∀ b o, b ∉ ch → h.get? b = some o → h'.get? b = some o) (hn : ∀ b ∈ ch, H b = none) : HOk P w H h' := fun b u e =>
  (x b u e).stay (fun c v hc q => k c v (fun z => by
    have hz := hn c z
    rcases hc with rfl | hc
    · rw [hz] at e; cases e
    · rw [hz] at hc; cases hc) q) (fun _ q => q) fun _ _ q => q
theorem HOk.track {P : Program} {w : World} {H : Hp} {h : Heap} {a : Addr} {o : HO} (x : HOk P w H h) (hn : H a = none) (new : ObjOk P w (upd H a o) h a o) : HOk P w (upd H a o) h := fun b u e => by
  by_cases hb : b = a
  · subst hb; rw [upd_same] at e; cases e; exact new
  · rw [upd_ne hb] at e
    exact (x b u e).stay (fun c v _ q => q) (fun c q => by rw [upd_ne (ne_of_none q hn)]; exact q) fun c xs q => by rw [upd_ne (ne_of_none q hn)]; exact q
theorem vals_each : ∀ {xs : List V} {us : List Value} {rs : List α}, Vals xs us → rs.length = xs.length → PySem.W.EachIs (fun (v : Value) (p : α × V) => RelV p.2 v) us (rs.zip xs)
  | [], [], [], .nil, _ => .nil
  | x :: xs, u :: us, r :: rs, .cons h t, e => .cons h (vals_each t (by simpa using e))
theorem each_vals {α : Type} : ∀ {us : List Value} {ps : List (α × V)}, PySem.W.EachIs (fun (v : Value) (p : α × V) => RelV p.2 v) us ps → Vals (ps.map Prod.snd) us
  | _, _, .nil => .nil
  | _, _, .cons h t => .cons h (each_vals t)
theorem keys_each {O : KeyOrd} {kf : O.α → PyData} {h : Heap} {rs0 : List O.α} {d : O.α} {T : Value} (F : KeyFit O kf T rs0) : ∀ {ks : List Value} {rs : List O.α} {xs : List V}, (∀ r ∈ rs, r ∈ rs0) → PySem.W.EachIs (fun v r => ∃ as, Reads h v (kf r) as) ks rs → rs.length = xs.length → PySem.W.EachIs (fun v (p : O.α × V) => (ownKind O kf h rs0 d).keyOf v = some p.1) ks (rs.zip xs)
  | _, [], [], _, .nil, _ => .nil
  | _, r :: rs, x :: xs, hm, .cons ⟨as, q⟩ t, e => .cons (ownKind_some F (hm r (List.mem_cons_self ..)) q) (keys_each F (fun r hr => hm r (List.mem_cons_of_mem _ hr)) t (by simpa using e))
theorem reads_each {X : Cx} {pins : List (Addr × Obj)} {σ : St} {H : Hp} {s : Shared} {α : Type} {kf : α → PyData} (I : Inv X pins σ H s) : ∀ {kVs : List V} {ks : List Value} {rs : List α}, Paired (fun k r => Dp X.K H k (kf r)) kVs rs → Vals kVs ks → PySem.W.EachIs (fun v r => ∃ as, Reads s.heap v (kf r) as) ks rs
  | _, _, _, .nil, .nil => .nil
  | _, _, _, .cons h t, .cons h' t' => .cons (Dp.reads I _ _ _ h h') (reads_each I t t')
def srtV {O : KeyOrd} (rs : List O.α) (xs : List V) : List V := ((rs.zip xs).mergeSort (PySem.W.sortLe O false Prod.fst)).map Prod.snd
def rSortF (K : PySem.W.Frag) (f : Addr) (sp : Sp) : List V → List V → Hp → VK → Prop := fun vs zs H Q => ∃ (l : Addr) (xs : List V), vs = [.ref l] ∧ zs = [.ref f] ∧ SqL K H l xs ∧ ∃ W : Nat → List V → Hp → Prop, W 0 [] H ∧
  (∀ i x ks H1, xs[i]? = some x → W i ks H1 → sp [x] H1 (fun k H2 => W (i + 1) (ks ++ [k]) H2) E0) ∧
  ∀ ks H1, W xs.length ks H1 → ∃ (O : KeyOrd) (kf : O.α → PyData) (T : Value) (rs : List O.α) (_ : O.α), rs.length = xs.length ∧ KeyFit O kf T rs ∧ Paired (fun k r => Dp K H1 k (kf r)) ks rs ∧ ∀ p, H1 p = none → Q (.ref p) (upd H1 p (.lst (srtV rs xs)))
theorem cr_sortF {X : Cx} {k : Nat} {f : Addr} {fd : FuncData} {ps : List Str} {sp : Sp} (F : FnOk X.prog X.w X.K X.mg X.base CX0 k f fd ps sp) (hr : Room (k + 2) X.A) (hb : Binds X.K fd ps []) : CallRK X (.builtin "sorted") [Str.ofString "key"] (rSortF X.K f sp) := by
  intro pins s σ H vs zs us ws Q I r rz h
  obtain ⟨l, xs, rfl, rfl, hs, W, w0, wt, wf⟩ := h
  obtain rfl := Vals.ref1 r
  obtain ⟨w1, rfl, e1⟩ := vals1 rz
  obtain rfl : w1 = Value.ref f := e1
  obtain ⟨its, rv, hl, hz⟩ := I.list hs
  have hlen : xs.length = its.length := rv.length
  have hr2 : Room k X.A.in1.in1 := (Room.in1 (k := k + 1) hr).in1
  have hold : ∀ b ∈ frs X.stack, ∃ o, s.heap.get? b = some o := fun b hb => by
    obtain ⟨_, o, ho, _⟩ := I.stack.mem hb
    exact ⟨o, ho⟩
  show wpAny _ _ (call (.builtin "sorted") [.ref l] [(Str.ofString "key", .ref f)]) _ _ _
  refine srt_call (vs := its) hl.isList (by omega) fun e1 h1 a kS E' ha hk hka hkeep h1a h1k => ?_
  have sa : s.heap.get? a = none := Heap.get?_none_of_le ha
  have sk : s.heap.get? kS = none := Heap.get?_none_of_le hk
  have nk : kS ∉ frs X.stack := fun z => by obtain ⟨o, ho⟩ := hold _ z; rw [sk] at ho; cases ho
  have na : a ∉ frs X.stack := fun z => by obtain ⟨o, ho⟩ := hold _ z; rw [sa] at ho; cases ho
  refine srt_rest hka (by omega) (fun i ks s' => ∃ H' kVs, ks.length = i ∧ (∃ e, s'.heap.get? kS = some (seqObj "list" ks.toArray e)) ∧ s'.heap.get? a = some (seqObj "list" #[] e1) ∧ H' a = none ∧ H' kS = none ∧ s'.os = s.os ∧ AllBare s'.gens ∧ Un (frs X.stack) [] H H' s.heap s'.heap ∧ HOk X.prog X.w H' s'.heap ∧ Vals kVs ks ∧ W i kVs H') ?_ ?_ ?_ ?_
  · exact ⟨H, [], rfl, ⟨0, h1k⟩, h1a, I.hok.fresh ha, I.hok.fresh hk, rfl, I.bare, Un.kept hkeep, I.hok.kept hkeep, .nil, w0⟩
  · rintro i ks s' ⟨H', kVs, q1, q2, q3, _⟩
    exact ⟨q1, q2, q3⟩
  · rintro i v ks s' hv ⟨H', kVs, q1, ⟨e, q2⟩, q3, q4, q5, q6, q7, q8, q9, q10, q11⟩
    have I' : Inv X pins σ H' s' := I.call' q6 q8 q9 q7 fun b z => nomatch z
    have ev := I'.env0
    obtain ⟨x, hx, rx⟩ : ∃ x, xs[i]? = some x ∧ RelV x v := by
      have hi := (List.getElem?_eq_some_iff.mp hv).1
      obtain ⟨u, hu, ru⟩ := rv.get (List.getElem?_eq_getElem (show i < xs.length by omega))
      rw [hv] at hu
      cases hu
      exact ⟨_, List.getElem?_eq_getElem (by omega), ru⟩
    have hw := wt i x kVs H' hx q11
    have hlen1 : ([v] : List Value).length = ps.length := (F.len _ _ _ _ hw)
    have hbd := hb s' [v] I'.kIn (by rw [List.append_nil]; exact hlen1)
    rw [List.append_nil] at hbd
    refine wpAny_call (codeAny_mono (F.run X.A.in1.in1 X.stack s' H' ⟨[v], []⟩ [v] [x] _ E0 hr2 ⟨ev.frames, ev.mod, ev.bs, ev.bsz, ev.funs, ev.frf, ev.hok, ev.bare⟩ hbd (.cons rx .nil) hw) fun out s2 ho => ?_)
    match out, ho with
    | .error _, ho => exact ho.elim
    | .ok (.ret u), ho =>
      obtain ⟨v2, H2, os2, bare2, un2, hok2, ru, w2⟩ := ho
      have k2 := un2.keep kS _ q2 q5 nk (fun z => nomatch z)
      have a2 := un2.keep a _ q3 q4 na (fun z => nomatch z)
      have na2 := un2.free a _ q3 q4 (fun z => nomatch z)
      have nk2 := un2.free kS _ q2 q5 (fun z => nomatch z)
      have kk : ∀ b o, b ∉ [kS] → s2.heap.get? b = some o → (s2.heap.update kS (Obj.mapSeq (·.push u))).get? b = some o := fun b o hb q => by
        rw [Heap.get?_update_ne _ _ _ _ (by simpa using hb)]
        exact q
      refine ⟨⟨e, k2⟩, H2, kVs ++ [v2], by rw [List.length_append, q1]; rfl, ?_, ?_, na2, nk2, os2.trans q6, bare2, ?_, ?_, q10.append (.cons ru .nil), w2⟩
      · have := get?_update_seq k2 (·.push u)
        rw [List.push_toArray] at this
        exact ⟨_, this⟩
      · exact kk a _ (by simpa using Ne.symm hka) a2
      · exact (q8.trans un2).later kk fun b hb => by rw [List.mem_singleton.mp hb]; exact sk
      · exact hok2.later kk fun b hb => by rw [List.mem_singleton.mp hb]; exact nk2
  · rintro ks s' ⟨H', kVs, q1, q2, q3, q4, q5, q6, q7, q8, q9, q10, q11⟩
    have I' : Inv X pins σ H' s' := I.call' q6 q8 q9 q7 fun b z => nomatch z
    rw [← hlen] at q11
    obtain ⟨O, kf, T, rs, d, hrl, fit, hp, q⟩ := wf kVs H' q11
    have he := reads_each I' hp q10
    refine ⟨ownKind O kf s'.heap rs d, own_sorts fit he hr2.units, fun h' tk c kp hc => ⟨rfl, .ref a, upd H' a (.lst (srtV rs xs)), ?_, rfl, q a q4⟩⟩
    have ho : PySem.W.EachIs (fun (v : Value) (p : O.α × V) => RelV p.2 v) (PySem.W.sortVals (ownKind O kf s'.heap rs d) false ks its) ((rs.zip xs).mergeSort (PySem.W.sortLe O false Prod.fst)) :=
      PySem.W.sortVals_each (κ := ownKind O kf s'.heap rs d) Prod.fst (vals_each rv hrl) (keys_each fit (fun _ h => h) he hrl)
    have hv := each_vals ho
    have kk : ∀ b o, b ∉ [a, kS] → s'.heap.get? b = some o → h'.get? b = some o := fun b o hb q => kp b o (fun z => hb (by rw [z]; simp)) (fun z => hb (by rw [z]; simp)) q
    have hsl : (srtV rs xs).length ≤ sizeLine := by
      unfold srtV
      rw [List.length_map, (List.mergeSort_perm _ _).length_eq, List.length_zip, hrl, Nat.min_self]
      omega
    refine I.call' (s' := { s' with heap := h', toks := tk }) q6 ((q8.later kk fun b hb => ?_).track sa q4) ((q9.later kk fun b hb => ?_).track q4 ⟨hsl, _, c, hv, hc⟩) q7 fun b z => nomatch z
    · rcases List.mem_cons.mp hb with rfl | hb
      · exact sa
      · rw [List.mem_singleton.mp hb]; exact sk
    · rcases List.mem_cons.mp hb with rfl | hb
      · exact q4
      · rw [List.mem_singleton.mp hb]; exact q5
end L2

set_option Elab.async false
set_option linter.all false
set_option maxRecDepth 100000
set_option  maxHeartbeats 4000000
/-! Ab15: sorted with a key, list and sorted of dicts, comprehensions over dicts, dict comprehensions, extend. -/
namespace Ab
open PySem PySem.Spec PyProof.Rows L2
section
variable {K : KX} {ρ : Rho} {M : MH} {Q : Sl → MH → Prop}
def leK (O : KeyOrd) (a b : O.α) : Bool := !O.blt b a
theorem paired_map {α : Type} {F : PySem.W.Frag} {B : Hp} {u : α → V} {g : α → Sl} : ∀ l : List α, (∀ p ∈ l, SlOk F B (u p) (g p)) → SlAll F B (l.map u) (l.map g)
  | [], _ => .nil
  | p :: l, h => .cons (h p (List.mem_cons_self ..)) (paired_map l fun q hq => h q (List.mem_cons_of_mem _ hq))
theorem zip_ok {α : Type} {F : PySem.W.Frag} {B : Hp} {g : α → Sl} : ∀ {rs : List α} {vs : List V}, SlAll F B vs (rs.map g) → ∀ p ∈ rs.zip vs, SlOk F B p.2 (g p.1)
  | [], _, _, p, hp => by simp at hp
  | r :: rs, v :: vs, .cons h t, p, hp => by
    rw [List.zip_cons_cons] at hp
    rcases List.mem_cons.mp hp with rfl | hp
    · exact h
    · exact zip_ok t p hp
theorem srt_all {F : PySem.W.Frag} {B : Hp} {O : KeyOrd} {g : O.α → Sl} {rs : List O.α} {vs : List V} (h : SlAll F B vs (rs.map g)) : SlAll F B (srtV rs vs) ((rs.mergeSort (leK O)).map g) := by
  have hl : rs.length ≤ vs.length := by rw [SlAll.len h, List.length_map]; exact Nat.le_refl _
  have e : rs.mergeSort (leK O) = ((rs.zip vs).mergeSort (PySem.W.sortLe O false Prod.fst)).map Prod.fst := by
    have z := List.map_mergeSort (r := PySem.W.sortLe O false Prod.fst) (s := leK O) (f := Prod.fst) (l := rs.zip vs) fun a _ b _ => rfl
    rw [z, List.map_fst_zip hl]
  rw [e, List.map_map]
  exact paired_map _ fun p hp => zip_ok h p ((List.mergeSort_perm _ _).mem_iff.mp hp)
theorem paired_dp {α : Type} {F : PySem.W.Frag} {B H : Hp} {kf : α → PyData} (e : Same B H) : ∀ {ks : List V} {rs : List α}, SlAll F B ks (rs.map fun r => .dat (kf r)) → Paired (fun k r => Dp F H k (kf r)) ks rs
  | _, [], .nil => .nil
  | _, _ :: _, .cons h t => .cons (dq_dp _ _ (dp_same e _ _ h)) (paired_dp e t)
/-- sorted(xs, key=f) -/
theorem w_sortF {A : ASp} {f : Addr} {t tk : TA} {O : KeyOrd} {kf : O.α → PyData} {T : Value} (h : WA K t ρ M fun ss M1 => WA K tk ρ M1 fun zs M2 => ∃ (s : Sl) (rs : List O.α) (g : O.α → Sl) (_ : O.α), ss = [s] ∧ zs = [.raw (.ref f)] ∧ LsV K.K s M2 (rs.map g) ∧ KeyFit O kf T rs ∧
    (∀ r ∈ rs, ∀ QA : Sl → MH → Prop, QA (.dat (kf r)) M2 → A [g r] M2 QA) ∧ ∀ p, M2 p = none → Q (.raw (.ref p)) (um M2 p (.lst ((rs.mergeSort (leK O)).map g)))) : W K (tCKw (rSortF K.K f (conc K.K A)) t tk) ρ M Q := fun σ B H hR hS Q0 k =>
  h σ B H hR hS _ fun ss vs M1 B1 H1 h1 e1 S1 o1 => h1 σ B1 H1 (hR.mono e1) S1 _ fun zs ws M2 B2 H2 ⟨s, rs, g, d, es, ez, hl, fit, ha, q⟩ e2 S2 o2 => by
    subst es ez
    cases o1 with
    | cons oa ob =>
      cases ob
      cases o2 with
      | cons ob oc =>
        cases oc
        obtain ⟨a, xs, rfl, hq, hx⟩ := hl.get S2 (oa.mono e2)
        obtain rfl : _ = V.ref f := ob
        have hlen : xs.length = rs.length := by rw [SlAll.len hx, List.length_map]
        refine ⟨a, xs, rfl, rfl, hq, fun i ks H' => ∃ B', Same B2 B' ∧ Sep K.K B' M2 H' ∧ SlAll K.K B' ks ((rs.take i).map fun r => .dat (kf r)), ⟨B2, Same.refl _, S2, .nil⟩, ?_, ?_⟩
        · rintro i x ks H1' hxi ⟨B', e', S', o'⟩
          have hi : i < rs.length := by rw [← hlen]; exact (List.getElem?_eq_some_iff.mp hxi).1
          obtain ⟨v, hv, ov⟩ := SlAll.get hx (i := i) (s := g rs[i]) (by rw [List.getElem?_map, List.getElem?_eq_getElem hi]; rfl)
          rw [hxi] at hv
          cases hv
          refine ⟨B', M2, [g rs[i]], fun s M' => s = .dat (kf rs[i]) ∧ M' = M2, S', .cons (ov.mono e') .nil, ha _ (List.getElem_mem hi) _ ⟨rfl, rfl⟩, fun s v M' B'' H'' ⟨es, em⟩ e'' S'' o'' => ?_⟩
          subst es em
          refine ⟨B'', e'.trans e'', S'', ?_⟩
          rw [List.take_succ_eq_append_getElem hi, List.map_append]
          exact SlAll.app (SlAll.mono e'' o') (.cons o'' .nil)
        · rintro ks H1' ⟨B', e', S', o'⟩
          rw [hlen, List.take_length] at o'
          refine ⟨O, kf, T, rs, d, hlen.symm, fit, paired_dp S'.sub o', fun p hp => ?_⟩
          exact k _ _ (um M2 p _) B' _ (q p (S'.freeM hp)) ((e1.trans e2).trans e') (S'.new hp ⟨_, rfl, srt_all (SlAll.mono e' hx)⟩) slok_ref
end
end Ab

set_option Elab.async false
set_option linter.all false
set_option maxRecDepth 100000
set_option  maxHeartbeats 4000000
/-! Ab16: dicts walked under a lock, list and sorted of dicts and texts, dict comprehensions, extend, in, len and isinstance of dicts. -/
namespace Ab
open PySem PySem.Spec PyProof.Rows L2
section
variable {K : KX} {ρ : Rho} {M : MH} {Q : Sl → MH → Prop} {te td tk tv : TE} {tb : TS} {nx bk ct : Rho → MH → Prop} {rt : Sl → MH → Prop}
/-- a dict is locked for an expression -/
theorem w_lock {a : Addr} {kvs : List (Key × Sl)} (h : M a = some (.dK kvs)) (hw : ∀ od v, W K te ρ (um M a (.frz od v (.dK kvs))) fun s M' => M' a = some (.frz od v (.dK kvs)) ∧ Q s (um M' a (.dK kvs))) : W K (tLockE te) ρ M Q := fun σ B H hR hS Q0 k => by
  obtain ⟨hB, u, hu, vs, rfl, hv⟩ := hS.has a _ h
  refine ⟨a, .dK vs, hu, trivial, fun od => hw od (.dK vs) σ B _ hR (hS.put h ⟨rfl, vs, rfl, hv⟩) _ fun s v M' B' H' ⟨hM', q⟩ e S o => ?_⟩
  obtain ⟨_, u', hu', rfl, vs', e', hv'⟩ := S.has a _ hM'
  cases e'
  exact ⟨hu', k s v _ B' _ q e (S.put hM' ⟨vs, rfl, hv'⟩) o⟩
/-- .. for a statement -/
theorem ws_lock {a : Addr} {kvs : List (Key × Sl)} (h : M a = some (.dK kvs)) (hw : ∀ od v, WS K tb ρ (um M a (.frz od v (.dK kvs))) ⟨fun ρ' M' => M' a = some (.frz od v (.dK kvs)) ∧ nx ρ' (um M' a (.dK kvs)), fun s M' => M' a = some (.frz od v (.dK kvs)) ∧ rt s (um M' a (.dK kvs)), fun ρ' M' => M' a = some (.frz od v (.dK kvs)) ∧ bk ρ' (um M' a (.dK kvs)), fun ρ' M' => M' a = some (.frz od v (.dK kvs)) ∧ ct ρ' (um M' a (.dK kvs))⟩) :
    WS K (tLock tb) ρ M ⟨nx, rt, bk, ct⟩ := fun σ B H D hR hS p1 p2 p3 p4 => by
  obtain ⟨hB, u, hu, vs, rfl, hv⟩ := hS.has a _ h
  refine ⟨a, .dK vs, hu, trivial, fun od => hw od (.dK vs) σ B _ _ hR (hS.put h ⟨rfl, vs, rfl, hv⟩) (fun ρ' M' σ' B' H' ⟨hM', q⟩ e R S => ?_) (fun s v M' B' H' ⟨hM', q⟩ e S o => ?_) (fun ρ' M' σ' B' H' ⟨hM', q⟩ e R S => ?_) (fun ρ' M' σ' B' H' ⟨hM', q⟩ e R S => ?_)⟩
  · obtain ⟨_, u', hu', rfl, vs', e', hv'⟩ := S.has a _ hM'
    cases e'
    exact ⟨hu', p1 ρ' _ σ' B' _ q e R (S.put hM' ⟨vs, rfl, hv'⟩)⟩
  · obtain ⟨_, u', hu', rfl, vs', e', hv'⟩ := S.has a _ hM'
    cases e'
    exact ⟨hu', p2 s v _ B' _ q e (S.put hM' ⟨vs, rfl, hv'⟩) o⟩
  · obtain ⟨_, u', hu', rfl, vs', e', hv'⟩ := S.has a _ hM'
    cases e'
    exact ⟨hu', p3 ρ' _ σ' B' _ q e R (S.put hM' ⟨vs, rfl, hv'⟩)⟩
  · obtain ⟨_, u', hu', rfl, vs', e', hv'⟩ := S.has a _ hM'
    cases e'
    exact ⟨hu', p4 ρ' _ σ' B' _ q e R (S.put hM' ⟨vs, rfl, hv'⟩)⟩
theorem slok_kS {F : PySem.W.Frag} {B : Hp} : ∀ k : Key, SlOk F B (kV k) (kS k)
  | .inl _ => slok_int
  | .inr _ => slok_str
theorem slks_at {F : PySem.W.Frag} {B : Hp} : ∀ {vs : List (Key × V)} {kvs : List (Key × Sl)} {i : Nat} {k : Key} {v : V}, SlKs F B vs kvs → vs[i]? = some (k, v) → ∃ s, kvs[i]? = some (k, s)
  | (k, v) :: _, (k', s) :: _, 0, _, _, .cons h t, e => by
    cases e
    have h1 : k = k' := h.1
    exact ⟨s, by rw [List.getElem?_cons_zero, h1]⟩
  | _, _, i + 1, k, v, .cons _ t, e => by
    obtain ⟨s, h⟩ := slks_at (i := i) t (by simpa using e)
    exact ⟨s, by simpa using h⟩
/-- the keys of a locked dict -/
theorem wi_keys {R : Nat → (Nat → Sl) → (MH → Prop) → MH → Prop} (h : W K td ρ M fun s M1 => ∃ a od v kvs, s = .raw (.ref a) ∧ M1 a = some (.frz od v (.dK kvs)) ∧ R kvs.length (fun i => (kvs.map fun q => kS q.1).getD i .non) (fun M2 => M2 a = some (.frz od v (.dK kvs))) M1) : WI K (iKeys td) ρ M R := fun σ B H hR hS R0 k =>
  h σ B H hR hS _ fun s v0 M1 B1 H1 ⟨a, od, v, kvs, es, hM, q⟩ e1 S1 o1 => by
    subst es
    obtain rfl : v0 = .ref a := o1
    obtain ⟨_, u, hu, rfl, vs, rfl, hv⟩ := S1.has a _ hM
    have hl : vs.length = kvs.length := Paired.length hv
    refine ⟨a, od, rfl, .inl ⟨vs, hu, k kvs.length _ _ M1 B1 H1 _ q e1 S1 ⟨fun i B2 M2 H2 hi e2 S2 st => ?_, fun i B2 M2 H2 x H3 hi e2 S2 st y => ?_, fun i B2 M2 H2 hi e2 S2 st => ?_⟩⟩⟩
    · obtain ⟨_, u2, hu2, rfl, _⟩ := S2.has a _ st
      exact ⟨hu2, by omega⟩
    · obtain ⟨rfl, kk, vv, hk, rfl⟩ := y
      obtain ⟨s, hs⟩ := slks_at hv hk
      refine ⟨B2, Same.refl _, S2, ?_⟩
      rw [List.getD_eq_getElem?_getD, List.getElem?_map, hs]
      exact slok_kS kk
    · obtain ⟨_, u2, hu2, rfl, _⟩ := S2.has a _ st
      exact ⟨hu2, by omega⟩
/-- {k: v for x in ..} -/
theorem w_dc {wi : TI} {tt : TT} {g : TG} {vs : List Nat} (h : WI K wi ρ M fun n item stay M1 => ∃ J : Nat → List (Key × Sl) → MH → Prop, J 0 [] M1 ∧ (∀ i acc M', i ≤ n → J i acc M' → ∀ D o, M' D = none → stay (um M' D o)) ∧
    (∀ i acc M' D, i < n → J i acc M' → M' D = none → ∃ f, LcT K.K g vs (item i) f ∧ WT K tt (f (wipeR ρ vs)) (um M' D (.dK acc)) fun b M3 =>
      if b = true then W K tk (f (wipeR ρ vs)) M3 fun y M4 => W K tv (f (wipeR ρ vs)) M4 fun z M5 => ∃ k M6, y = kS k ∧ M5 = um M6 D (.dK acc) ∧ M6 D = none ∧ acc.length < 100000 ∧ J (i + 1) (putG acc k z) M6
      else ∃ M6, M3 = um M6 D (.dK acc) ∧ M6 D = none ∧ J (i + 1) acc M6) ∧
    ∀ acc M' D, J n acc M' → M' D = none → Q (.raw (.ref D)) (um M' D (.dK acc))) : W K (tDc wi g tt tk tv vs) ρ M Q := fun σ B H hR hS Q0 k =>
  h σ B H hR hS _ fun n item stay M1 B1 H1 It ⟨J, j0, js, jt, je⟩ e1 S1 ok => fun D hD => by
    refine ⟨fun i m H' => m = n - i ∧ i ≤ n ∧ ∃ acc M' B', J i acc M' ∧ M' D = none ∧ Same B1 B' ∧ Sep K.K B' (um M' D (.dK acc)) H', ⟨n, by simp, Nat.zero_le _, [], M1, B1, j0, S1.freeM hD, Same.refl _, S1.new hD ⟨[], rfl, .nil⟩⟩, ?_⟩
    rintro i m H' ⟨rfl, hi, acc, M', B', hj', hMD, e2, S2⟩
    by_cases hlt : i < n
    · refine .inr ⟨ok.go i B' _ H' hlt e2 S2 (js i acc M' hi hj' D _ hMD), fun H2 => ∃ acc M2 B2, J (i + 1) acc M2 ∧ M2 D = none ∧ Same B1 B2 ∧ Sep K.K B2 (um M2 D (.dK acc)) H2, fun H2 ⟨acc, M2, B2, q⟩ => ⟨n - (i + 1), by omega, rfl, hlt, acc, M2, B2, q⟩, fun x H3 y => ?_⟩
      obtain ⟨B3, e3, S3, o3⟩ := ok.yld i B' _ H' x H3 hlt e2 S2 (js i acc M' hi hj' D _ hMD) y
      obtain ⟨f, hf, ht⟩ := jt i acc M' D hlt hj' hMD
      have hR3 := hR.mono ((e1.trans e2).trans e3)
      refine hf B3 H3 x (wipe σ vs) (wipeR ρ vs) _ S3 o3 (hR3.wiped vs).r _ fun σ2 hw hr2 => ⟨hw.trans (wipe_wipe σ vs), ?_⟩
      have R3 : Rl K B3 σ2 (f (wipeR ρ vs)) := ⟨hr2, hR3.x⟩
      refine ht σ2 B3 H3 R3 S3 _ fun b M4 B4 H4 q4 e4 S4 => ?_
      have e14 := (e2.trans e3).trans e4
      cases b with
      | true =>
        refine q4 σ2 B4 H4 (R3.mono e4) S4 _ fun y vy M5 B5 H5 q5 e5 S5 oy => ?_
        refine q5 σ2 B5 H5 (R3.mono (e4.trans e5)) S5 _ fun z vz M6 B6 H6 ⟨kk, M7, ey, em, hn7, hl7, hj7⟩ e6 S6 oz => ?_
        subst ey em
        obtain ⟨_, u, hu, ws, rfl, ha⟩ := S6.has D _ um_same
        have hlen : ws.length = acc.length := Paired.length ha
        refine ⟨ws, kk, of_kS (oy.mono e6), hu, Nat.lt_of_lt_of_le (by omega) (show 100000 ≤ sizeLine by decide), putG acc kk z, M7, B6, hj7, hn7, (e14.trans e5).trans e6, ?_⟩
        have S7 := S6.put (u := .dK (putK ws kk vz)) (o' := .dK (putG acc kk z)) um_same ⟨_, rfl, slks_putK oz ha⟩
        rw [um_um] at S7
        exact S7
      | false =>
        obtain ⟨M5, em, hn5, hj5⟩ := q4
        subst em
        exact ⟨acc, M5, B4, hj5, hn5, e14, S4⟩
    · have ei : i = n := by omega
      subst ei
      refine .inl ⟨ok.stop i B' _ H' (Nat.le_refl _) e2 S2 (js i acc M' hi hj' D _ hMD), ?_⟩
      exact k _ _ _ B' H' (je acc M' D hj' hMD) (e1.trans e2) S2 slok_ref
end
section
variable {K : PySem.W.Frag} {M : MH} {Q : Sl → MH → Prop}
/-- list(d) -/
abbrev rListDk : List V → Hp → VK → Prop := fun xs H Q => ∃ (a : Addr) (kvs : List (Key × V)), xs = [.ref a] ∧ Rd H a (.dK kvs) ∧ ∀ p, H p = none → Q (.ref p) (upd H p (.lst (kvs.map fun kv => kV kv.1)))
theorem slks_keys {B : Hp} : ∀ {vs : List (Key × V)} {kvs : List (Key × Sl)}, SlKs K B vs kvs → SlAll K B (vs.map fun kv => kV kv.1) (kvs.map fun q => kS q.1)
  | _, _, .nil => .nil
  | (k, v) :: _, (k', s) :: _, .cons h t => .cons (by have h1 : k = k' := h.1; subst h1; exact slok_kS k) (slks_keys t)
theorem wl_listD {s : Sl} {kvs : List (Key × Sl)} (h : DcV K s M kvs) (q : ∀ p, M p = none → Q (.raw (.ref p)) (um M p (.lst (kvs.map fun q => kS q.1)))) : WL K rListDk [s] M Q := fun B H vs hS o Q0 k => by
  cases o with
  | cons o1 o2 =>
    cases o2
    obtain ⟨a, us, rfl, hr, hk⟩ := h.get hS o1
    exact ⟨a, us, rfl, hr, fun p hp => k _ _ (um M p _) B _ (q p (hS.freeM hp)) (Same.refl B) (hS.new hp ⟨_, rfl, slks_keys hk⟩) slok_ref⟩
/-! sorted of texts -/
def leT (x y : Str) : Bool := !decide (y.cps.toList < x.cps.toList)
def sortT (ks : List Str) : List Str := ks.mergeSort leT
theorem leT_iff {x y : Str} : leT x y = true ↔ x = y ∨ x.cps.toList < y.cps.toList := by
  unfold leT
  rw [Bool.not_eq_true', decide_eq_false_iff_not]
  constructor
  · intro h
    rcases Std.lt_trichotomy x.cps.toList y.cps.toList with h' | h' | h'
    · exact .inr h'
    · left
      have hc : x.cps = y.cps := Array.toList_inj.mp h'
      cases x
      cases y
      simp only [Str.mk.injEq]
      exact hc
    · exact absurd h' h
  · rintro (rfl | h) h2
    · exact List.lt_irrefl _ h2
    · exact List.lt_asymm h h2
theorem leT_trans (a b c : Str) (h1 : leT a b = true) (h2 : leT b c = true) : leT a c = true := by
  rw [leT_iff] at *
  rcases h1 with rfl | h1
  · exact h2
  · rcases h2 with rfl | h2
    · exact .inr h1
    · exact .inr (List.lt_trans h1 h2)
theorem leT_total (a b : Str) : (leT a b || leT b a) = true := by
  rw [Bool.or_eq_true, leT_iff, leT_iff]
  rcases Std.lt_trichotomy a.cps.toList b.cps.toList with h | h | h
  · exact .inl (.inr h)
  · left; left
    have hc : a.cps = b.cps := Array.toList_inj.mp h
    cases a
    cases b
    simp only [Str.mk.injEq]
    exact hc
  · exact .inr (.inr h)
theorem leT_anti {a b : Str} (h1 : leT a b = true) (h2 : leT b a = true) : a = b := by
  rw [leT_iff] at h1 h2
  rcases h1 with h1 | h1
  · exact h1
  · rcases h2 with h2 | h2
    · exact h2.symm
    · exact absurd h2 (List.lt_asymm h1)
theorem sortT_pw (ks : List Str) : (sortT ks).Pairwise fun a b => leT a b = true := List.pairwise_mergeSort leT_trans leT_total ks
theorem rising_pw : ∀ {p : Str} {ys : List Str}, risingS p ys = true → (p :: ys).Pairwise fun a b => leT a b = true
  | p, [], _ => List.pairwise_singleton ..
  | p, x :: r, h => by
    rw [risingS, Bool.and_eq_true, ltCps_eq] at h
    have ih := rising_pw h.2
    have hpx : leT p x = true := h.1
    refine List.pairwise_cons.mpr ⟨fun y hy => ?_, ih⟩
    rcases List.mem_cons.mp hy with rfl | hy
    · exact hpx
    · exact leT_trans _ _ _ hpx ((List.pairwise_cons.mp ih).1 y hy)
theorem sorted_is {ys ks : List Str} (hp : ys.Perm ks) (hs : sortedS ys = true) : ys = sortT ks := by
  refine List.Perm.eq_of_pairwise (le := fun a b => leT a b = true) (fun a b _ _ => leT_anti) ?_ (sortT_pw ks) (hp.trans (List.mergeSort_perm ks leT).symm)
  cases ys with
  | nil => exact .nil
  | cons x r => exact rising_pw hs
theorem sla_strs {B : Hp} : ∀ ys : List Str, SlAll K B (ys.map V.str) (ys.map fun y => .str y)
  | [] => .nil
  | _ :: ys => .cons slok_str (sla_strs ys)
theorem sla_str {B : Hp} : ∀ {vs : List V} {ys : List Str}, SlAll K B vs (ys.map fun y => .str y) → vs = ys.map V.str
  | _, [], .nil => rfl
  | _, _ :: _, .cons h t => by rw [List.map_cons, ← sla_str t, of_str h]
theorem wl_sortedS {s : Sl} {ys : List Str} (h : LsV K s M (ys.map fun y => .str y)) (hl : ys.length < 64) (q : ∀ p, M p = none → Q (.raw (.ref p)) (um M p (.lst ((sortT ys).map fun y => .str y)))) : WL K (rSortedS K) [s] M Q := fun B H vs hS o Q0 k => by
  cases o with
  | cons o1 o2 =>
    cases o2
    obtain ⟨a, us, rfl, hr, hk⟩ := h.get hS o1
    have e := sla_str hk
    subst e
    refine ⟨a, ys, rfl, hr, hl, fun zs p hp hs hn => ?_⟩
    have e2 := sorted_is hp hs
    subst e2
    exact k _ _ (um M p _) B _ (q p (hS.freeM hn)) (Same.refl B) (hS.new hn ⟨_, rfl, sla_strs _⟩) slok_ref
/-- sorted(d), the keys texts -/
abbrev rSortedDk : List V → Hp → VK → Prop := fun xs H Q => ∃ (a : Addr) (kvs : List (Key × V)) (ks : List Str), xs = [.ref a] ∧ Rd H a (.dK kvs) ∧ kvs.map (·.1) = ks.map Sum.inr ∧ ks.length < 64 ∧
  ∀ ys p, ys.Perm ks → sortedS ys = true → H p = none → Q (.ref p) (upd H p (.lst (ys.map V.str)))
theorem slks_fst {B : Hp} : ∀ {vs : List (Key × V)} {kvs : List (Key × Sl)}, SlKs K B vs kvs → vs.map (·.1) = kvs.map (·.1)
  | _, _, .nil => rfl
  | _, _, .cons ⟨h1, _⟩ t => by rw [List.map_cons, List.map_cons, slks_fst t, h1]
theorem wl_sortedD {s : Sl} {kvs : List (Key × Sl)} {ks : List Str} (h : DcV K s M kvs) (hk : kvs.map (·.1) = ks.map Sum.inr) (hl : ks.length < 64) (q : ∀ p, M p = none → Q (.raw (.ref p)) (um M p (.lst ((sortT ks).map fun y => .str y)))) : WL K rSortedDk [s] M Q := fun B H vs hS o Q0 k => by
  cases o with
  | cons o1 o2 =>
    cases o2
    obtain ⟨a, us, rfl, hr, hk2⟩ := h.get hS o1
    refine ⟨a, us, ks, rfl, hr, by rw [slks_fst hk2]; exact hk, hl, fun zs p hp hs hn => ?_⟩
    have e2 := sorted_is hp hs
    subst e2
    exact k _ _ (um M p _) B _ (q p (hS.freeM hn)) (Same.refl B) (hS.new hn ⟨_, rfl, sla_strs _⟩) slok_ref
/-- xs.extend(ys) -/
theorem wm_extend {a b : Addr} {xs zs : List Sl} (ha : M a = some (.lst xs)) (hb : M b = some (.lst zs)) (hl : xs.length + zs.length ≤ 100000) (q : Q .non (um M a (.lst (xs ++ zs)))) : WM K rExtend (.raw (.ref a)) [.raw (.ref b)] M Q := fun B H v vs hS o1 o2 Q0 k => by
  cases o2 with
  | cons o2 o3 =>
    cases o3
    obtain rfl : v = V.ref a := o1
    obtain rfl : _ = V.ref b := o2
    obtain ⟨_, u, hu, us, rfl, h1⟩ := hS.has a _ ha
    obtain ⟨_, u2, hu2, ws, rfl, h2⟩ := hS.has b _ hb
    refine ⟨a, b, us, ws, rfl, rfl, hu, hu2, Nat.le_trans (by rw [SlAll.len h1, SlAll.len h2]; exact hl) (show 100000 ≤ sizeLine by decide), ?_⟩
    exact k _ _ (um M a _) B _ q (Same.refl B) (hS.put ha ⟨_, rfl, SlAll.app h1 h2⟩) slok_non
/-- x in xs, xs a list of data that may change -/
theorem w2_inL {s : Sl} {d : PyData} {ds : List PyData} (hl : LsV K s M (ds.map .dat)) (h1 : SeqAt.shaped d = true) (h2 : SeqAt.shaped (.list ds) = true) (q : Q (.bl (ds.any fun z => PyData.eqv z d)) M) : W2 K (rInD K) (.dat d) s M Q := fun B H v w hS o1 o2 Q0 k => by
  obtain ⟨a, vs, rfl, hq, ha⟩ := hl.get hS o2
  exact ⟨d, ds, dq_dp _ _ (dp_same hS.sub _ _ o1), .lst hq (dqa_dp _ _ (dpa_same hS.sub _ _ (dpa_of ha))), h1, h2, k _ _ M B H q (Same.refl B) hS slok_bl⟩
/-- len(d), isinstance(d, ..) of a dict that changes -/
abbrev rLenDk : List V → Hp → VK → Prop := fun xs H Q => ∃ a kvs, xs = [V.ref a] ∧ H a = some (.dK kvs) ∧ Q (.int kvs.length) H
theorem wl_lenDk {a : Addr} {kvs : List (Key × Sl)} (h : M a = some (.dK kvs)) (q : Q (.int (kvs.length : Int)) M) : WL K rLenDk [.raw (.ref a)] M Q := fun B H vs hS o Q0 k => by
  cases o with
  | cons o1 o2 =>
    cases o2
    obtain rfl : _ = V.ref a := o1
    obtain ⟨_, u, hu, us, rfl, h1⟩ := hS.has a _ h
    have e : us.length = kvs.length := Paired.length h1
    exact ⟨a, us, rfl, hu, by rw [e]; exact k _ _ M B H q (Same.refl B) hS slok_int⟩
theorem wl_isiD {a : Addr} {kvs : List (Key × Sl)} {n : String} {b : Bool} (h : M a = some (.dK kvs)) (hb : kitB "dict" n = some b) (q : Q (.bl b) M) : WL K (rIsi K) [.raw (.ref a), .raw (.ty n)] M Q := fun B H vs hS o Q0 k => by
  cases o with
  | cons o1 o2 =>
    cases o2 with
    | cons o2 o3 =>
      cases o3
      obtain rfl : _ = V.ty n := o2
      obtain rfl : _ = V.ref a := o1
      obtain ⟨_, u, hu, ws, rfl, ha⟩ := hS.has a _ h
      exact ⟨_, .ty n, _, _, b, rfl, .ty n, .base (.dK hu), kit_ty hb, k _ _ M B H q (Same.refl B) hS slok_bl⟩
end
end Ab

set_option Elab.async false
set_option linter.all false
set_option maxRecDepth 100000
set_option  maxHeartbeats 4000000
/-! Ab17: defs whose last parameter has the empty tuple for a default. -/
namespace L2
open PySem PySem.Spec PyProof.Rows
section
variable {P : Program} {w : World} {K : PySem.W.Frag} {mg : Str → Option Value} {base : Heap} {x qual : Str} {st : Stmt} {dvs : List V} {f : Addr} {fd : FuncData}
theorem FunD.okN {N ps : List Str} {k : Nat} {sp : Sp} (F : FunD K x qual (defArgs st) (defBody st) (defScope st) dvs [] f fd) (S : FnScope N ps (defScope st)) (len : ∀ vs H Q E, sp vs H Q E → vs.length = ps.length)
    (hbody : ∀ (cdv : Value) (A : Around) (outer : List Env) (s : Shared) (H : Hp) (vs : List V) (Q : VK) (E : XK), Room k (A.deeper (envOfC qual (defScope st) s.heap.objs.size f cdv)) → sp vs H Q E →
      ∃ t, PSs (cxOf CX0 P w K mg base N qual (defScope st) f cdv A outer s H E).nox (defBody st) t ∧ t { nx := fun _ H' => Q .non H', rt := Q } (start N vs) H) : FnOk P w K mg base CX0 (k + 1) f fd ps sp :=
  F.ok S len fun cdv A outer s H vs Q E hr hsp => let ⟨t, h, q⟩ := hbody cdv A outer s H vs Q E hr hsp; ⟨t, h.nox, q⟩
theorem fund_mk {oc : Value} {od an : Option Addr} {osl : Array (Option Value)} {T e0 : Addr} {oT : Obj} {n : Nat} {kV doc pm cdv ct : Value} (l : K.lookup f = some ⟨oc, od, .func (PySem.W.fnOf x qual (defArgs st) (defBody st) (defScope st) (.ref T) kV doc pm an cdv ct), osl⟩)
    (c : PySem.W.codeIn K cdv qual = true) (k : PySem.W.keepIn K (.ref f) = true) (lT : K.lookup T = some oT) (oTd : oT.data = .seq #[.ref e0] n) : FunD K x qual (defArgs st) (defBody st) (defScope st) [.ref e0] [] f (PySem.W.fnOf x qual (defArgs st) (defBody st) (defScope st) (.ref T) kV doc pm an cdv ct) :=
  ⟨⟨oc, od, .ref T, kV, doc, pm, an, cdv, ct, osl, rfl, l, c, .inr ⟨by simp, T, oT, [.ref e0], n, rfl, lT, oTd, .cons rfl .nil⟩, .inl rfl⟩, k⟩
/-- rules that name the module's part (within a comprehension) -/
theorem pe_fldK {X : Cx} {K : PySem.W.Frag} {e : Expr} {f : Str} {pos : Pos} {ta : TE} (hK : X.K = K) (he : PE X e ta) (hb : attributeBase e f X.env (eval e X.env) = eval e X.env) : PE X (.Attribute e f pos) (tFld K ta f) := by
  subst hK
  exact pe_fld he hb
theorem cr_sortFK {X : Cx} {K : PySem.W.Frag} {k : Nat} {f : Addr} {fd : FuncData} {ps : List Str} {sp : Sp} (hK : X.K = K) (F : FnOk X.prog X.w X.K X.mg X.base CX0 k f fd ps sp) (hr : Room (k + 2) X.A) (hb : Binds X.K fd ps []) : CallRK X (.builtin "sorted") [Str.ofString "key"] (rSortF K f sp) := by
  subst hK
  exact cr_sortF F hr hb
theorem vals_nil {ds : List Value} (h : Vals [] ds) : ds = [] := by cases h; rfl
theorem vals_ref1 {e0 : Addr} {ds : List Value} (h : Vals [V.ref e0] ds) : ds = [.ref e0] := by
  cases h with
  | cons a b =>
    cases b
    rw [show _ = Value.ref e0 from a]
end
end L2
namespace Ab
open PySem PySem.Spec PyProof.Rows L2
theorem ab_okD {K : PySem.W.Frag} {P : Program} {w : World} {mg : Str → Option Value} {base : Heap} {x qual : Str} {st : Stmt} {dvs : List V} {f : Addr} {fd : FuncData} {N ps : List Str} {k : Nat} {A : ASp} (F : FunD K x qual (defArgs st) (defBody st) (defScope st) dvs [] f fd) (S : FnScope N ps (defScope st))
    (hlen : ∀ ss M Q, A ss M Q → ss.length = ps.length)
    (hb : ∀ (cdv : Value) (Ar : Around) (outer : List Env) (s : Shared) (H : Hp) (E : XK), Room k (Ar.deeper (envOfC qual (defScope st) s.heap.objs.size f cdv)) →
      ∃ t, PSs (cxOf CX0 P w K mg base N qual (defScope st) f cdv Ar outer s H E).nox (defBody st) t ∧ ∀ ss M Q, A ss M Q → WS (KX.pure K) t (rho0 N.length ss) M ⟨fun _ M' => Q .non M', Q, NoR, NoR⟩) :
    FnOk P w K mg base CX0 (k + 1) f fd ps (conc K A) := by
  refine F.okN S (fun vs H Q E h => ?_) (fun cdv Ar outer s H vs Q E hr h => ?_)
  · obtain ⟨B, M, ss, QA, hS, hv, ha, _⟩ := h
    rw [SlAll.len hv]
    exact hlen ss M QA ha
  · obtain ⟨B, M, ss, QA, hS, hv, ha, hq⟩ := h
    obtain ⟨t, ht, hw⟩ := hb cdv Ar outer s H E hr
    refine ⟨t, ht, ?_⟩
    have hR : Rl (KX.pure K) B (L2.start N vs) (rho0 N.length ss) := by
      unfold L2.start rho0
      rw [SlAll.len hv]
      exact ⟨rl_start _ hv, fun _ _ _ _ _ _ _ q => q.elim⟩
    exact hw ss M QA ha (L2.start N vs) B H ⟨fun _ H' => Q .non H', Q, _, _⟩ hR hS (fun ρ' M' σ' B' H' q e _ S' => hq .non .non M' B' H' q e S' slok_non) (fun s v M' B' H' q e S' o => hq s v M' B' H' q e S' o) (fun _ _ _ _ _ z => z.elim) (fun _ _ _ _ _ z => z.elim)
section
variable {K : KX} {ρ : Rho} {M : MH} {Q : Sl → MH → Prop}
/-- C(): the default filled in -/
theorem w_make0D {C e0 : Addr} {A : ASp} {E : XK} (h : ∀ x dx, M x = none → A [.raw (.ref x), .raw (.ref e0)] (um M x (.ins C dx [])) fun s M2 => s = .non ∧ Q (.raw (.ref x)) M2) : W K (tMake C (conc K.K A) [.ref e0] E tNil) ρ M Q := fun σ B H hR hS Q0 k => by
  intro x dx hx hdx hne
  have e2 : Same B (upd B dx (.own x)) := same_new (hS.freeB hdx)
  refine ⟨_, _, [.raw (.ref x), .raw (.ref e0)], _, sep_make hS hx hdx hne, .cons rfl (.cons rfl .nil), h x dx (hS.freeM hx), fun s v M2 B2 H2 ⟨es, q2⟩ e3 S2 o2 => ?_⟩
  subst es
  exact ⟨of_non o2, k _ _ M2 B2 H2 q2 (e2.trans e3) S2 slok_ref⟩
/-- the empty tuple that a def has for a default -/
def Tup0 (F : PySem.W.Frag) (e0 : Addr) : Prop := ∃ o n, F.lookup e0 = some o ∧ o.cls = .type "tuple" ∧ o.dict = none ∧ o.data = .seq #[] n
theorem tup0_sq {F : PySem.W.Frag} {e0 : Addr} (h : Tup0 F e0) (H : Hp) : SqT F H e0 [] := by
  obtain ⟨o, n, h1, h2, h3, h4⟩ := h
  exact .inr ⟨o, #[], n, h1, h2, h4, Nat.zero_le _, .nil⟩
/-- nothing of it -/
theorem wi_tup0 {tl : TE} {R : Nat → (Nat → Sl) → (MH → Prop) → MH → Prop} {e0 : Addr} (h0 : Tup0 K.K e0) (h : W K tl ρ M fun s M1 => s = .raw (.ref e0) ∧ R 0 (fun _ => .non) (fun _ => True) M1) : WI K (iTup K.K tl) ρ M R := fun σ B H hR hS R0 k =>
  h σ B H hR hS _ fun s v M1 B1 H1 ⟨es, q⟩ e1 S1 o1 => by
    subst es
    obtain rfl : v = .ref e0 := o1
    refine ⟨e0, rfl, ⟨[], tup0_sq h0 _⟩, k 0 _ _ M1 B1 H1 _ q e1 S1 ⟨fun i _ _ _ hi => absurd hi (Nat.not_lt_zero _), fun i _ _ _ _ _ hi => absurd hi (Nat.not_lt_zero _), fun i B2 M2 H2 hi e2 S2 st => ?_⟩⟩
    exact ⟨[], tup0_sq h0 _, Nat.zero_le _⟩
end
end Ab

set_option Elab.async false
set_option linter.all false
set_option maxRecDepth 100000
set_option  maxHeartbeats 4000000
/-! Ab18: dicts whose keys are nested tuples; remove of data. -/
namespace Ab
open PySem PySem.Spec PyProof.Rows L2
theorem hu9 {n : Nat} (h : n + 64 < cLine) : n + 9 < cLine := by omega
theorem hu65of {n : Nat} (h : n + 65 < cLine) : n + 65 < cLine := h
section
variable {X : Cx} {P : Program} {w : World} {K : PySem.W.Frag} {o i e value : Expr} {pos pos' tpos apos cpos : Pos} {td ty tv : TE}
theorem pe_ngetK (eP : X.prog = P) (ew : X.w = w) (eK : X.K = K) (hu : X.A.units + 9 < cLine) (ho : PE X o td) (hi : PE X i ty) (hs : NoSl i) : PE X (.Subscript o i pos) (tNGet P w K td ty) := by
  subst eP ew eK
  exact pe_nget hu ho hi hs
theorem pc_nnotinK (eP : X.prog = P) (ew : X.w = w) (eK : X.K = K) (hu : X.A.units + 9 < cLine) (hi : PE X i ty) (ho : PE X o td) : PC X .NotIn i o (tNNotIn P w K ty td) := by
  subst eP ew eK
  exact pc_nnotin hu hi ho
theorem pe_nget1K (eP : X.prog = P) (ew : X.w = w) (eK : X.K = K) (hu : X.A.units + 9 < cLine) (ho : PE X o td) (he : PE X e ty) (m : M1 X o "get" apos e cpos) : PE X (.Call (.Attribute o "get" apos) [e] [] cpos) (tNGet1 P w K td ty) := by
  subst eP ew eK
  exact pe_nget1 hu ho he m
theorem pi_nkeysK {tg : Expr} (eP : X.prog = P) (ew : X.w = w) (he : PE X e td) : PI X tg e (iNKeys P w td) := by
  subst eP ew
  exact pi_nkeys he
abbrev tNDc (P : Program) (w : World) (K : PySem.W.Frag) (wi : TI) (g : TG) (tt : TT) (tk tv : TE) (vs : List Nat) : TE := tGDc (fun D => HN P w D []) (PutN P w K) wi g tt tk tv vs
theorem pe_ndcK {kx vx tg iter : Expr} {ifs : List Expr} {scope : Scope} {own : List (Str × Nat)} {wi : TI} {g : TG} {tt : TT} {tk tv : TE} (eP : X.prog = P) (ew : X.w = w) (eK : X.K = K) (hu : X.A.units + 9 < cLine) (hc : X.calm = true) (hN : X.N.Nodup)
    (hi : PI X tg iter wi) (ok : BlkOk X.N X.env.scope scope own)
    (hg : ∀ (s : Shared) (H : Hp) (C : Addr) (cl : List (Str × Addr)) (fp : List Addr), PG (X.blk s H scope (compEnvC scope cl C X.env) fp) tg g)
    (ht : ∀ (s : Shared) (H : Hp) (C : Addr) (cl : List (Str × Addr)) (fp : List Addr), PTs (X.blk s H scope (compEnvC scope cl C X.env) fp) ifs tt)
    (hk : ∀ (s : Shared) (H : Hp) (C : Addr) (cl : List (Str × Addr)) (fp : List Addr), PE (X.blk s H scope (compEnvC scope cl C X.env) fp) kx tk)
    (hv : ∀ (s : Shared) (H : Hp) (C : Addr) (cl : List (Str × Addr)) (fp : List Addr), PE (X.blk s H scope (compEnvC scope cl C X.env) fp) vx tv) (hs : ∀ x, foldedSetIterable iter X.env x = pure x := by intro _; rfl) :
    PE X (.DictComp kx vx [⟨tg, iter, ifs, 0⟩] scope pos) (tNDc P w K wi g tt tk tv (own.map (·.2))) := by
  subst eP ew eK
  exact pe_gdc hc hN emp_n (put_n hu) hi ok hg ht hk hv hs
end
/-! what stands -/
def NcV (s : Sl) (M : MH) (P : Program) (w : World) (kvs : List (NK × Sl)) : Prop := ∃ a, s = .raw (.ref a) ∧ (M a = some (.dN P w a kvs) ∨ ∃ od v, M a = some (.frz od v (.dN P w a kvs)))
section
variable {F : PySem.W.Frag} {B H : Hp} {M : MH} {P : Program} {w : World} {kvs : List (NK × Sl)} {vs : List (NK × Addr × V)}
theorem NcV.get {s : Sl} {v : V} (h : NcV s M P w kvs) (S : Sep F B M H) (o : SlOk F B v s) : ∃ a vs, v = .ref a ∧ Rd H a (HN P w a vs) ∧ SlNs F B vs kvs := by
  obtain ⟨a, rfl, h⟩ := h
  rcases h with h | ⟨od, u, h⟩
  · obtain ⟨_, z, hz, vs, rfl, hv⟩ := S.has a _ h
    exact ⟨a, vs, o, .inl hz, hv⟩
  · obtain ⟨_, z, hz, rfl, vs, rfl, hv⟩ := S.has a _ h
    exact ⟨a, vs, o, .inr ⟨od, hz⟩, hv⟩
theorem slns_keys (h : SlNs F B vs kvs) (e : Same B H) : KeysD F H vs := by
  induction h with
  | nil => intro p hp; exact nomatch hp
  | @cons p q ps qs h t ih =>
    intro x hx
    rcases List.mem_cons.mp hx with rfl | hx
    · exact ⟨dq_dp _ _ (dp_same e _ _ h.2.1.1), h.2.1.2⟩
    · exact ih x hx
theorem slns_val (h : SlNs F B vs kvs) (k : NK) : (∀ s, valG kvs k = some s → ∃ z, vN vs k = some z ∧ SlOk F B z s) ∧ (valG kvs k = none → vN vs k = none) := by
  induction h with
  | nil => exact ⟨fun s e => (nomatch e), fun _ => rfl⟩
  | @cons p q ps qs h t ih =>
    obtain ⟨a, b, c⟩ := p
    obtain ⟨a', s'⟩ := q
    obtain ⟨h1, _, h2⟩ := h
    simp only at h1 h2
    subst h1
    rw [vN_cons, valG_cons]
    by_cases e : a = k
    · rw [if_pos e, if_pos e]
      exact ⟨fun s z => (by cases z; exact ⟨c, rfl, h2⟩), fun z => (nomatch z)⟩
    · rw [if_neg e, if_neg e]
      exact ih
theorem slns_any (h : SlNs F B vs kvs) (k : NK) : (vN vs k).isSome = kvs.any fun kv => decide (kv.1 = k) := by
  induction h with
  | nil => rfl
  | @cons p q ps qs h t ih =>
    rw [vN_cons, List.any_cons, ← ih, ← h.1]
    by_cases e : p.1 = k
    · rw [if_pos e, decide_eq_true e]; rfl
    · rw [if_neg e, decide_eq_false e]; rfl
theorem slns_put (h : SlNs F B vs kvs) {k : NK} {b : Addr} {z : V} {s : Sl} (hk : Dq F B (.ref b) k.data) (hd : k.depth ≤ 8) (hz : SlOk F B z s) : SlNs F B (putN vs k b z) (putG kvs k s) := by
  unfold putN putG
  rw [slns_any h]
  by_cases e : (kvs.any fun kv => decide (kv.1 = k)) = true
  · rw [if_pos e, if_pos e]
    clear e
    induction h with
    | nil => exact .nil
    | @cons p q ps qs h t ih =>
      rw [List.map_cons, List.map_cons]
      refine .cons ?_ ih
      by_cases e : p.1 = k
      · rw [if_pos e, if_pos (h.1.symm.trans e)]
        exact ⟨h.1, h.2.1, hz⟩
      · rw [if_neg e, if_neg (fun z => e (h.1.trans z))]
        exact h
  · rw [if_neg e, if_neg e]
    exact Paired.snoc h ⟨rfl, ⟨hk, hd⟩, hz⟩
theorem slns_at : ∀ {vs : List (NK × Addr × V)} {kvs : List (NK × Sl)} {i : Nat} {k : NK} {b : Addr} {v : V}, SlNs F B vs kvs → vs[i]? = some (k, b, v) → ∃ s, kvs[i]? = some (k, s) ∧ Dq F B (.ref b) k.data
  | (k, b, v) :: _, (k', s) :: _, 0, _, _, _, .cons h t, e => by
    cases e
    have h1 : k = k' := h.1
    exact ⟨s, by rw [List.getElem?_cons_zero, h1], h.2.1.1⟩
  | _, _, i + 1, k, b, v, .cons _ t, e => by
    obtain ⟨s, h, h2⟩ := slns_at (i := i) t (by simpa using e)
    exact ⟨s, by simpa using h, h2⟩
end
section
variable {K : KX} {ρ : Rho} {M : MH} {Q : Sl → MH → Prop} {te td ty tk tv : TE} {tb : TS} {nx bk ct : Rho → MH → Prop} {rt : Sl → MH → Prop} {P : Program} {w : World}
theorem tup_ref {F : PySem.W.Frag} {B : Hp} {v : V} {ks : List NK} (h : SlOk F B v (.dat (NestedKey.tup ks).data)) : ∃ b, v = .ref b := by
  have h : Dq F B v (NestedKey.tup ks).data := h
  rw [NestedKey.data] at h
  cases h with
  | tup hs ha => exact ⟨_, rfl⟩
theorem w_nget (h : W K td ρ M fun s M1 => W K ty ρ M1 fun y M2 => ∃ kvs ks x, NcV s M2 P w kvs ∧ y = .dat (NestedKey.tup ks).data ∧ (NestedKey.tup ks).depth ≤ 8 ∧ valG kvs (.tup ks) = some x ∧ Q x M2) : W K (tNGet P w K.K td ty) ρ M Q := fun σ B H hR hS Q0 q0 =>
  h σ B H hR hS _ fun s v M1 B1 H1 h1 e1 S1 o1 => h1 σ B1 H1 (hR.mono e1) S1 _ fun y u M2 B2 H2 ⟨kvs, ks, x, hd, ey, dp, hv, q⟩ e2 S2 o2 => by
    subst ey
    obtain ⟨a, vs, rfl, hr, hk⟩ := hd.get S2 (o1.mono e2)
    obtain ⟨b, rfl⟩ := tup_ref o2
    obtain ⟨z, hz, oz⟩ := (slns_val hk (.tup ks)).1 x hv
    exact ⟨a, z, rfl, ⟨vs, _, b, hr, slns_keys hk S2.sub, rfl, ⟨dq_dp _ _ (dp_same S2.sub _ _ o2), dp⟩, hz.symm⟩, q0 x z M2 B2 H2 q (e1.trans e2) S2 oz⟩
theorem w_nnotIn (h : W K ty ρ M fun y M1 => W K td ρ M1 fun s M2 => ∃ kvs ks, NcV s M2 P w kvs ∧ y = .dat (NestedKey.tup ks).data ∧ (NestedKey.tup ks).depth ≤ 8 ∧ Q (.bl (!(valG kvs (.tup ks)).isSome)) M2) : W K (tNNotIn P w K.K ty td) ρ M Q := fun σ B H hR hS Q0 q0 =>
  h σ B H hR hS _ fun y u M1 B1 H1 h1 e1 S1 o1 => h1 σ B1 H1 (hR.mono e1) S1 _ fun s v M2 B2 H2 ⟨kvs, ks, hd, ey, dp, q⟩ e2 S2 o2 => by
    subst ey
    obtain ⟨a, vs, rfl, hr, hk⟩ := hd.get S2 o2
    obtain ⟨b, rfl⟩ := tup_ref o1
    have e : (vN vs (.tup ks)).isSome = (valG kvs (.tup ks)).isSome := by
      cases hv : valG kvs (.tup ks) with
      | none => rw [(slns_val hk _).2 hv]; rfl
      | some s => obtain ⟨z, hz, _⟩ := (slns_val hk _).1 s hv; rw [hz]; rfl
    exact ⟨a, vN vs (.tup ks), rfl, ⟨vs, _, b, hr, slns_keys hk S2.sub, rfl, ⟨dq_dp _ _ (dp_same S2.sub _ _ (o1.mono e2)), dp⟩, rfl⟩, by rw [e]; exact q0 _ _ M2 B2 H2 q (e1.trans e2) S2 slok_bl⟩
theorem w_nget1 (h : W K td ρ M fun s M1 => (∃ kvs, NcV s M1 P w kvs) ∧ W K ty ρ M1 fun y M2 => ∃ kvs ks, NcV s M2 P w kvs ∧ y = .dat (NestedKey.tup ks).data ∧ (NestedKey.tup ks).depth ≤ 8 ∧ Q ((valG kvs (.tup ks)).getD .non) M2) : W K (tNGet1 P w K.K td ty) ρ M Q := fun σ B H hR hS Q0 q0 =>
  h σ B H hR hS _ fun s v M1 B1 H1 ⟨⟨kvs0, hd0⟩, h1⟩ e1 S1 o1 => by
    obtain ⟨a, vs0, rfl, hr0, _⟩ := hd0.get S1 o1
    refine ⟨a, rfl, ⟨vs0, hr0⟩, h1 σ B1 H1 (hR.mono e1) S1 _ fun y u M2 B2 H2 ⟨kvs, ks, hd, ey, dp, q⟩ e2 S2 o2 => ?_⟩
    subst ey
    obtain ⟨a', vs, ea, hr, hk⟩ := hd.get S2 (o1.mono e2)
    cases ea
    obtain ⟨b, rfl⟩ := tup_ref o2
    refine ⟨vN vs (.tup ks), ⟨vs, _, b, hr, slns_keys hk S2.sub, rfl, ⟨dq_dp _ _ (dp_same S2.sub _ _ o2), dp⟩, rfl⟩, ?_⟩
    cases hv : valG kvs (.tup ks) with
    | none => rw [hv] at q; rw [(slns_val hk _).2 hv]; exact q0 _ _ M2 B2 H2 q (e1.trans e2) S2 slok_non
    | some s => rw [hv] at q; obtain ⟨z, hz, oz⟩ := (slns_val hk _).1 s hv; rw [hz]; exact q0 s z M2 B2 H2 q (e1.trans e2) S2 oz
theorem w_lockN {a : Addr} {kvs : List (NK × Sl)} (h : M a = some (.dN P w a kvs)) (hw : ∀ od v, W K te ρ (um M a (.frz od v (.dN P w a kvs))) fun s M' => M' a = some (.frz od v (.dN P w a kvs)) ∧ Q s (um M' a (.dN P w a kvs))) : W K (tLockE te) ρ M Q := fun σ B H hR hS Q0 k => by
  obtain ⟨hB, u, hu, vs, rfl, hv⟩ := hS.has a _ h
  refine ⟨a, HN P w a vs, hu, trivial, fun od => hw od (HN P w a vs) σ B _ hR (hS.put h ⟨rfl, vs, rfl, hv⟩) _ fun s v M' B' H' ⟨hM', q⟩ e S o => ?_⟩
  obtain ⟨_, u', hu', rfl, hv'⟩ := S.has a _ hM'
  exact ⟨hu', k s v _ B' _ q e (S.put hM' hv') o⟩
theorem wi_nkeys {R : Nat → (Nat → Sl) → (MH → Prop) → MH → Prop} (h : W K td ρ M fun s M1 => ∃ a od v kvs, s = .raw (.ref a) ∧ M1 a = some (.frz od v (.dN P w a kvs)) ∧ R kvs.length (fun i => (kvs.map fun q => Sl.dat q.1.data).getD i .non) (fun M2 => M2 a = some (.frz od v (.dN P w a kvs))) M1) : WI K (iNKeys P w td) ρ M R := fun σ B H hR hS R0 k =>
  h σ B H hR hS _ fun s v0 M1 B1 H1 ⟨a, od, v, kvs, es, hM, q⟩ e1 S1 o1 => by
    subst es
    obtain rfl : v0 = .ref a := o1
    obtain ⟨_, u, hu, rfl, vs, rfl, hv⟩ := S1.has a _ hM
    have hl : vs.length = kvs.length := Paired.length hv
    refine ⟨a, od, vs, rfl, hu, k kvs.length _ _ M1 B1 H1 _ q e1 S1 ⟨fun i B2 M2 H2 hi e2 S2 st => ?_, fun i B2 M2 H2 x H3 hi e2 S2 st y => ?_, fun i B2 M2 H2 hi e2 S2 st => ?_⟩⟩
    · obtain ⟨_, u2, hu2, rfl, _⟩ := S2.has a _ st
      exact ⟨hu2, by omega⟩
    · obtain ⟨rfl, kk, b, vv, hk, rfl⟩ := y
      obtain ⟨s, hs, hd⟩ := slns_at hv hk
      refine ⟨B2, Same.refl _, S2, ?_⟩
      rw [List.getD_eq_getElem?_getD, List.getElem?_map, hs]
      exact dp_same e2 _ _ hd
    · obtain ⟨_, u2, hu2, rfl, _⟩ := S2.has a _ st
      exact ⟨hu2, by omega⟩
/-- {k: v for x in ..} -/
theorem w_ndc {wi : TI} {tt : TT} {g : TG} {vs : List Nat} (h : WI K wi ρ M fun n item stay M1 => ∃ J : Nat → List (NK × Sl) → MH → Prop, J 0 [] M1 ∧ (∀ i acc M', i ≤ n → J i acc M' → ∀ D o, M' D = none → stay (um M' D o)) ∧
    (∀ i acc M' D, i < n → J i acc M' → M' D = none → ∃ f, LcT K.K g vs (item i) f ∧ WT K tt (f (wipeR ρ vs)) (um M' D (.dN P w D acc)) fun b M3 =>
      if b = true then W K tk (f (wipeR ρ vs)) M3 fun y M4 => W K tv (f (wipeR ρ vs)) M4 fun z M5 => ∃ ks M6, y = .dat (NestedKey.tup ks).data ∧ (NestedKey.tup ks).depth ≤ 8 ∧ M5 = um M6 D (.dN P w D acc) ∧ M6 D = none ∧ acc.length < 100000 ∧ J (i + 1) (putG acc (.tup ks) z) M6
      else ∃ M6, M3 = um M6 D (.dN P w D acc) ∧ M6 D = none ∧ J (i + 1) acc M6) ∧
    ∀ acc M' D, J n acc M' → M' D = none → Q (.raw (.ref D)) (um M' D (.dN P w D acc))) : W K (tNDc P w K.K wi g tt tk tv vs) ρ M Q := fun σ B H hR hS Q0 k =>
  h σ B H hR hS _ fun n item stay M1 B1 H1 It ⟨J, j0, js, jt, je⟩ e1 S1 ok => fun D hD => by
    refine ⟨fun i m H' => m = n - i ∧ i ≤ n ∧ ∃ acc M' B', J i acc M' ∧ M' D = none ∧ Same B1 B' ∧ Sep K.K B' (um M' D (.dN P w D acc)) H', ⟨n, by simp, Nat.zero_le _, [], M1, B1, j0, S1.freeM hD, Same.refl _, S1.new hD ⟨[], rfl, .nil⟩⟩, ?_⟩
    rintro i m H' ⟨rfl, hi, acc, M', B', hj', hMD, e2, S2⟩
    by_cases hlt : i < n
    · refine .inr ⟨ok.go i B' _ H' hlt e2 S2 (js i acc M' hi hj' D _ hMD), fun x H3 y => ?_⟩
      obtain ⟨B3, e3, S3, o3⟩ := ok.yld i B' _ H' x H3 hlt e2 S2 (js i acc M' hi hj' D _ hMD) y
      obtain ⟨f, hf, ht⟩ := jt i acc M' D hlt hj' hMD
      have hR3 := hR.mono ((e1.trans e2).trans e3)
      refine hf B3 H3 x (wipe σ vs) (wipeR ρ vs) _ S3 o3 (hR3.wiped vs).r _ fun σ2 hw hr2 => ⟨hw.trans (wipe_wipe σ vs), ?_⟩
      have R3 : Rl K B3 σ2 (f (wipeR ρ vs)) := ⟨hr2, hR3.x⟩
      refine ht σ2 B3 H3 R3 S3 _ fun b M4 B4 H4 q4 e4 S4 => ?_
      have e14 := (e2.trans e3).trans e4
      cases b with
      | true =>
        refine q4 σ2 B4 H4 (R3.mono e4) S4 _ fun y vy M5 B5 H5 q5 e5 S5 oy => ?_
        refine q5 σ2 B5 H5 (R3.mono (e4.trans e5)) S5 _ fun z vz M6 B6 H6 ⟨ks, M7, ey, dp, em, hn7, hl7, hj7⟩ e6 S6 oz => ?_
        subst ey em
        obtain ⟨_, u, hu, ws, rfl, ha⟩ := S6.has D _ um_same
        have hlen : ws.length = acc.length := Paired.length ha
        obtain ⟨kb, rfl⟩ := tup_ref oy
        have ok6 := oy.mono e6
        refine ⟨upd H6 D (HN P w D (putN ws (.tup ks) kb vz)), ⟨ws, .tup ks, kb, rfl, hu, slns_keys ha S6.sub, ⟨dq_dp _ _ (dp_same S6.sub _ _ ok6), dp⟩, Nat.lt_of_lt_of_le (by omega) (show 100000 ≤ sizeLine by decide), rfl⟩, n - (i + 1), by omega, rfl, hlt, putG acc (.tup ks) z, M7, B6, hj7, hn7, (e14.trans e5).trans e6, ?_⟩
        have S7 := S6.put (u := HN P w D (putN ws (.tup ks) kb vz)) (o' := .dN P w D (putG acc (.tup ks) z)) um_same ⟨_, rfl, slns_put ha ok6 dp oz⟩
        rw [um_um] at S7
        exact S7
      | false =>
        obtain ⟨M5, em, hn5, hj5⟩ := q4
        subst em
        exact ⟨n - (i + 1), by omega, rfl, hlt, acc, M5, B4, hj5, hn5, e14, S4⟩
    · have ei : i = n := by omega
      subst ei
      refine .inl ⟨ok.stop i B' _ H' (Nat.le_refl _) e2 S2 (js i acc M' hi hj' D _ hMD), ?_⟩
      exact k _ _ _ B' H' (je acc M' D hj' hMD) (e1.trans e2) S2 slok_ref
end
/-- xs.remove(x) of data, x there -/
theorem eraseMap {α β : Type} (f : α → β) : ∀ (xs : List α) (j : Nat), (xs.eraseIdx j).map f = (xs.map f).eraseIdx j
  | [], _ => rfl
  | _ :: _, 0 => rfl
  | x :: xs, j + 1 => by rw [List.eraseIdx_cons_succ, List.map_cons, List.map_cons, List.eraseIdx_cons_succ, eraseMap f xs j]
theorem slall_erase {K : PySem.W.Frag} {B : Hp} : ∀ {vs : List V} {xs : List Sl} (j : Nat), SlAll K B vs xs → SlAll K B (vs.eraseIdx j) (xs.eraseIdx j)
  | _, _, _, .nil => .nil
  | _, _, 0, .cons _ t => t
  | _, _, j + 1, .cons h t => .cons h (slall_erase j t)
theorem wm_remD {K : PySem.W.Frag} {M : MH} {Q : Sl → MH → Prop} {a : Addr} {d : PyData} {ds : List PyData} {j : Nat} (h : M a = some (.lst (ds.map .dat))) (h1 : SeqAt.shaped (.list ds) = true) (h2 : SeqAt.shaped d = true) (hit : ∃ z, ds[j]? = some z ∧ PyData.eqv z d = true)
    (hno : ∀ m z, m < j → ds[m]? = some z → PyData.eqv z d = false) (q : Q .non (um M a (.lst ((ds.eraseIdx j).map .dat)))) : WM K (rRemD K) (.raw (.ref a)) [.dat d] M Q := fun B H v vs hS o1 o2 Q0 k => by
  cases o2 with
  | cons o2 o3 =>
    cases o3
    obtain ⟨_, u, hu, ws, rfl, ha⟩ := hS.has a _ h
    obtain rfl : v = .ref a := o1
    refine ⟨a, ws, _, d, ds, j, rfl, rfl, hu, dqa_dp _ _ (dpa_same hS.sub _ _ (dpa_of ha)), dq_dp _ _ (dp_same hS.sub _ _ o2), h1, h2, hit, hno, ?_⟩
    refine k _ _ _ B _ q (Same.refl B) (hS.put h ⟨_, rfl, ?_⟩) slok_non
    rw [eraseMap]
    exact slall_erase j ha
end Ab

set_option Elab.async false
set_option linter.all false
set_option maxRecDepth 100000
set_option  maxHeartbeats 4000000
/-! Rb: what a rule base is made of (values, rows, terms, literals, items), as data. -/
namespace Ab
open PySem L2
def goodS (z : Str) : Bool := decide (z.length ≤ 40) && z.cps.toList.all fun c => decide (32 ≤ c) && decide (c < 127) && decide (c ≠ 37)
theorem goodS_ok {z : Str} (h : goodS z = true) : PyData.strOk z = true := by
  unfold goodS at h
  rw [Bool.and_eq_true, List.all_eq_true] at h
  unfold PyData.strOk
  rw [← Array.all_toList, List.all_eq_true]
  intro c hc
  have := h.2 c hc
  simp only [Bool.and_eq_true, decide_eq_true_eq] at this
  exact decide_eq_true (by omega)
inductive Val where
  | int (n : Int)
  | str (z : Str)
  deriving DecidableEq
def Val.enc : Val → PyData
  | .int n => .int n
  | .str z => .str z
def Val.ok : Val → Prop
  | .int n => n.natAbs < 10 ^ 30
  | .str z => goodS z = true
theorem Val.enc_inj {v w : Val} (h : v.enc = w.enc) : v = w := by
  cases v <;> cases w <;> simp_all [Val.enc]
inductive Term where
  | any
  | value (v : Val)
  | variable (z : Str)
  deriving DecidableEq
def Term.enc : Term → PyData
  | .any => .tuple [.str "any"]
  | .value v => .tuple [.str "value", v.enc]
  | .variable z => .tuple [.str "variable", .str z]
def Term.ok : Term → Prop
  | .any => True
  | .value v => v.ok
  | .variable z => goodS z = true
inductive Lit where
  | fact (rel : Str) (ts : List Term)
  | neg (rel : Str) (ts : List Term)
  | compare (op : Str) (s t : Term)
  | is (x op : Str) (s t : Term)
  | count (x rel : Str) (ts : List Term)
  deriving DecidableEq
abbrev encT (ts : List Term) : PyData := .tuple (ts.map Term.enc)
abbrev encR (row : List Val) : PyData := .tuple (row.map Val.enc)
def Lit.enc : Lit → PyData
  | .fact r ts => .tuple [.str "fact", .str r, encT ts]
  | .neg r ts => .tuple [.str "not", .str r, encT ts]
  | .compare op s t => .tuple [.str "compare", .str op, s.enc, t.enc]
  | .is x op s t => .tuple [.str "is", .str x, .str op, s.enc, t.enc]
  | .count x r ts => .tuple [.str "count", .str x, .str r, encT ts]
def okTs (ts : List Term) : Prop := ts.length ≤ 1000 ∧ ∀ t ∈ ts, t.ok
def okR (row : List Val) : Prop := row.length ≤ 1000 ∧ ∀ v ∈ row, v.ok
def opsC : List Str := ["=", "<>", "<", "<=", ">", ">="]
def opsI : List Str := ["+", "-", "*"]
def Lit.ok : Lit → Prop
  | .fact r ts => goodS r = true ∧ okTs ts
  | .neg r ts => goodS r = true ∧ okTs ts
  | .compare op s t => op ∈ opsC ∧ s.ok ∧ t.ok
  | .is x op s t => goodS x = true ∧ op ∈ opsI ∧ s.ok ∧ t.ok
  | .count x r ts => goodS x = true ∧ goodS r = true ∧ okTs ts
abbrev encB (b : List Lit) : PyData := .tuple (b.map Lit.enc)
def okB (b : List Lit) : Prop := b.length ≤ 1000 ∧ ∀ l ∈ b, l.ok
inductive Item where
  | relation (n : Str) (w : Int)
  | fact (n : Str) (row : List Val)
  | rule (n rel : Str) (hd : List Term) (b : List Lit)
  | denial (n : Str) (b : List Lit)
  deriving DecidableEq
def Item.enc : Item → PyData
  | .relation n w => .tuple [.str "relation", .str n, .int w]
  | .fact n row => .tuple [.str "fact", .str n, encR row]
  | .rule n rel hd b => .tuple [.str "rule", .str n, .str rel, encT hd, encB b]
  | .denial n b => .tuple [.str "denial", .str n, encB b]
def Item.ok : Item → Prop
  | .relation n w => goodS n = true ∧ 0 ≤ w ∧ w ≤ 1000
  | .fact n row => goodS n = true ∧ okR row ∧ row ≠ []
  | .rule n rel hd b => goodS n = true ∧ goodS rel = true ∧ okTs hd ∧ okB b
  | .denial n b => goodS n = true ∧ okB b
/-! ### depth -/
theorem okD_str {n : Nat} {z : Str} (h : PyData.strOk z = true) : okD n (.str z) = true := by cases n <;> simpa [okD] using h
theorem okD_good {n : Nat} {z : Str} (h : goodS z = true) : okD n (.str z) = true := okD_str (goodS_ok h)
theorem okD_int {n : Nat} {i : Int} : okD n (.int i) = true := by cases n <;> rfl
theorem okD_bool {n : Nat} {i : Bool} : okD n (.bool i) = true := by cases n <;> rfl
theorem Val.okD {n : Nat} : ∀ {v : Val}, v.ok → okD n v.enc = true
  | .int _, _ => okD_int
  | .str _, h => okD_good h
theorem okAll_cons {n : Nat} {x : PyData} {xs : List PyData} (h : Ab.okD n x = true) (t : okAll n xs = true) : okAll n (x :: xs) = true := by
  show (Ab.okD n x && okAll n xs) = true
  rw [h, t]
  rfl
theorem okD_upTo {n m : Nat} {d : PyData} (h : okD n d = true) (hm : n ≤ m) : okD m d = true := by
  induction hm with
  | refl => exact h
  | step _ ih => exact okD_up ih
theorem Term.okD {n : Nat} : ∀ {t : Term}, t.ok → okD (n + 1) t.enc = true
  | .any, _ => okD_mkT (by simp) (okAll_cons (okD_str (by decide +kernel)) rfl)
  | .value v, h => okD_mkT (by simp) (okAll_cons (okD_str (by decide +kernel)) (okAll_cons (Val.okD h) rfl))
  | .variable z, h => okD_mkT (by simp) (okAll_cons (okD_str (by decide +kernel)) (okAll_cons (okD_good h) rfl))
theorem okTs_okD {n : Nat} {ts : List Term} (h : okTs ts) : okD (n + 2) (encT ts) = true := okD_mkT (by rw [List.length_map]; have := h.1; omega) (okAll_of fun d hd => by
  obtain ⟨t, ht, rfl⟩ := List.mem_map.mp hd
  exact Term.okD (h.2 t ht))
theorem okR_okD {n : Nat} {row : List Val} (h : okR row) : okD (n + 1) (encR row) = true := okD_mkT (by rw [List.length_map]; have := h.1; omega) (okAll_of fun d hd => by
  obtain ⟨t, ht, rfl⟩ := List.mem_map.mp hd
  exact Val.okD (h.2 t ht))
theorem ops_ok {op : Str} (h : op ∈ opsC) : PyData.strOk op = true := by
  have : ∀ op ∈ opsC, PyData.strOk op = true := by decide +kernel
  exact this op h
theorem opsI_ok {op : Str} (h : op ∈ opsI) : PyData.strOk op = true := by
  have : ∀ op ∈ opsI, PyData.strOk op = true := by decide +kernel
  exact this op h
theorem Lit.okD {n : Nat} : ∀ {t : Lit}, t.ok → okD (n + 3) t.enc = true
  | .fact _ _, h => okD_mkT (by simp) (okAll_cons (okD_str (by decide +kernel)) (okAll_cons (okD_good h.1) (okAll_cons (okTs_okD h.2) rfl)))
  | .neg _ _, h => okD_mkT (by simp) (okAll_cons (okD_str (by decide +kernel)) (okAll_cons (okD_good h.1) (okAll_cons (okTs_okD h.2) rfl)))
  | .compare _ _ _, h => okD_mkT (by simp) (okAll_cons (okD_str (by decide +kernel)) (okAll_cons (okD_str (ops_ok h.1)) (okAll_cons (Term.okD h.2.1) (okAll_cons (Term.okD h.2.2) rfl))))
  | .is _ _ _ _, h => okD_mkT (by simp) (okAll_cons (okD_str (by decide +kernel)) (okAll_cons (okD_good h.1) (okAll_cons (okD_str (opsI_ok h.2.1)) (okAll_cons (Term.okD h.2.2.1) (okAll_cons (Term.okD h.2.2.2) rfl)))))
  | .count _ _ _, h => okD_mkT (by simp) (okAll_cons (okD_str (by decide +kernel)) (okAll_cons (okD_good h.1) (okAll_cons (okD_good h.2.1) (okAll_cons (okTs_okD h.2.2) rfl))))
theorem okB_okD {n : Nat} {b : List Lit} (h : okB b) : okD (n + 4) (encB b) = true := okD_mkT (by rw [List.length_map]; have := h.1; omega) (okAll_of fun d hd => by
  obtain ⟨t, ht, rfl⟩ := List.mem_map.mp hd
  exact Lit.okD (h.2 t ht))
theorem Item.okD {n : Nat} : ∀ {t : Item}, t.ok → okD (n + 5) t.enc = true
  | .relation _ _, h => okD_mkT (by simp) (okAll_cons (okD_str (by decide +kernel)) (okAll_cons (okD_good h.1) (okAll_cons okD_int rfl)))
  | .fact _ _, h => okD_mkT (by simp) (okAll_cons (okD_str (by decide +kernel)) (okAll_cons (okD_good h.1) (okAll_cons (okR_okD h.2.1) rfl)))
  | .rule _ _ _ _, h => okD_mkT (by simp) (okAll_cons (okD_str (by decide +kernel)) (okAll_cons (okD_good h.1) (okAll_cons (okD_good h.2.1) (okAll_cons (okTs_okD h.2.2.1) (okAll_cons (okB_okD h.2.2.2) rfl)))))
  | .denial _ _, h => okD_mkT (by simp) (okAll_cons (okD_str (by decide +kernel)) (okAll_cons (okD_good h.1) (okAll_cons (okB_okD h.2) rfl)))
/-! ### == of texts -/
theorem eqv_str (x y : Str) : PyData.eqv (.str x) (.str y) = decide (x = y) := by
  simp only [PyData.eqv]
  by_cases e : x = y
  · subst e; simp
  · rw [decide_eq_false e]; exact beq_eq_false_iff_ne.mpr e
theorem eqv_val : ∀ v w : Val, PyData.eqv v.enc w.enc = decide (v = w)
  | .int a, .int b => by
    show PyData.eqv (.int a) (.int b) = _
    rw [eqv_int]
    exact decide_eq_decide.mpr ⟨fun h => by rw [h], fun h => Val.int.inj h⟩
  | .str a, .str b => by
    show PyData.eqv (.str a) (.str b) = _
    rw [eqv_str]
    exact decide_eq_decide.mpr ⟨fun h => by rw [h], fun h => Val.str.inj h⟩
  | .int a, .str b => by
    rw [decide_eq_false (by simp)]
    simp [Val.enc, PyData.eqv]
  | .str a, .int b => by
    rw [decide_eq_false (by simp)]
    simp [Val.enc, PyData.eqv]
theorem eqvAll_map {α : Type} [DecidableEq α] {f : α → PyData} (hf : ∀ x y, PyData.eqv (f x) (f y) = decide (x = y)) : ∀ xs ys : List α, PyData.eqvAll (xs.map f) (ys.map f) = decide (xs = ys)
  | [], [] => by simp [PyData.eqvAll]
  | [], _ :: _ => by simp [PyData.eqvAll]
  | _ :: _, [] => by simp [PyData.eqvAll]
  | x :: xs, y :: ys => by
    rw [List.map_cons, List.map_cons, PyData.eqvAll, hf, eqvAll_map hf xs ys]
    by_cases h1 : x = y <;> by_cases h2 : xs = ys <;> simp [h1, h2]
theorem eqv_row (a b : List Val) : PyData.eqv (encR a) (encR b) = decide (a = b) := by
  show PyData.eqv (.tuple _) (.tuple _) = _
  rw [PyData.eqv, eqvAll_map eqv_val]
section
variable {K : KX} {M : MH} {Q : Sl → MH → Prop}
theorem shaped_str {z : Str} (h : PyData.strOk z = true) : SeqAt.shaped (.str z) = true := okD_shaped (n := 0) (okD_str h) (by decide)
theorem w2_eqS {K : PySem.W.Frag} {x y : Str} (h1 : PyData.strOk x = true) (h2 : PyData.strOk y = true) (q : Q (.bl (decide (x = y))) M) : W2 K (rEqD K) (.dat (.str x)) (.dat (.str y)) M Q := w2_eq (shaped_str h1) (shaped_str h2) (by rw [eqv_str]; exact q)
theorem w2_neS {K : PySem.W.Frag} {x y : Str} (h1 : PyData.strOk x = true) (h2 : PyData.strOk y = true) (q : Q (.bl (!decide (x = y))) M) : W2 K (rNeD K) (.dat (.str x)) (.dat (.str y)) M Q := w2_ne (shaped_str h1) (shaped_str h2) (by rw [eqv_str]; exact q)
theorem w2_eqI {K : PySem.W.Frag} {i j : Int} (q : Q (.bl (decide (i = j))) M) : W2 K (rEqD K) (.dat (.int i)) (.dat (.int j)) M Q := w2_eq (shaped_int i) (shaped_int j) (by rw [eqv_int]; exact q)
theorem w2_neI {K : PySem.W.Frag} {i j : Int} (q : Q (.bl (!decide (i = j))) M) : W2 K (rNeD K) (.dat (.int i)) (.dat (.int j)) M Q := w2_ne (shaped_int i) (shaped_int j) (by rw [eqv_int]; exact q)
theorem ite_d {p : Prop} [Decidable p] {A B : Prop} (h1 : p → A) (h2 : ¬p → B) : if decide p = true then A else B := ite_b (fun h => h1 (of_decide_eq_true h)) (fun h => h2 (of_decide_eq_false h))
theorem ite_n {p : Prop} [Decidable p] {A B : Prop} (h1 : ¬p → A) (h2 : p → B) : if (!decide p) = true then A else B := by
  by_cases h : p
  · rw [decide_eq_true h]; exact h2 h
  · rw [decide_eq_false h]; exact h1 h
theorem w2_ixSAny {K : PySem.W.Frag} {z : Str} {i : Int} (hz : z.length ≤ 100000) (h0 : 0 ≤ i) (h1 : i < z.length) (q : ∀ c ∈ z.cps.toList, Q (.str ⟨#[c]⟩) M) : W2 K rIxS (.str z) (.int i) M Q := by
  have hi : i.toNat < z.cps.toList.length := by
    have : z.cps.toList.length = z.length := by simp [Str.length]
    omega
  exact w2_ixS (c := z.cps.toList[i.toNat]) hz (atI_ok h0 (List.getElem?_eq_getElem hi)) (q _ (List.getElem_mem hi))
end
/-! ### what the draws give -/
def isVal : PyData → Bool
  | .int n => decide (n.natAbs < 10 ^ 30)
  | .str z => goodS z
  | _ => false
theorem isVal_of : ∀ {d : PyData}, isVal d = true → ∃ v : Val, d = v.enc ∧ v.ok
  | .int n, h => ⟨.int n, rfl, show n.natAbs < 10 ^ 30 from of_decide_eq_true h⟩
  | .str z, h => ⟨.str z, rfl, h⟩
def isName : PyData → Bool
  | .str z => goodS z
  | _ => false
theorem isName_of : ∀ {d : PyData}, isName d = true → ∃ z : Str, d = .str z ∧ goodS z = true
  | .str z, h => ⟨z, rfl, h⟩
theorem list_enc {α : Type} {f : α → PyData} {R : α → Prop} : ∀ {ds : List PyData}, (∀ d ∈ ds, ∃ x, d = f x ∧ R x) → ∃ xs : List α, ds = xs.map f ∧ ∀ x ∈ xs, R x
  | [], _ => ⟨[], rfl, fun _ h => nomatch h⟩
  | d :: ds, h => by
    obtain ⟨x, rfl, hx⟩ := h d List.mem_cons_self
    obtain ⟨xs, rfl, hxs⟩ := list_enc (f := f) (R := R) fun e he => h e (List.mem_cons_of_mem _ he)
    refine ⟨x :: xs, rfl, fun y hy => ?_⟩
    rcases List.mem_cons.mp hy with e | hy
    · rw [e]; exact hx
    · exact hxs y hy
theorem join_cps {sep : Str} (hs : sep.cps = #[]) : ∀ ys : List Str, (Str.join sep ys).cps.toList = (ys.map fun z => z.cps.toList).flatten
  | [] => rfl
  | [x] => by simp [Str.join]
  | x :: y :: r => by
    have ih := join_cps hs (y :: r)
    show ((x.cps ++ sep.cps) ++ (Str.join sep (y :: r)).cps).toList = _
    rw [Array.toList_append, Array.toList_append, ih, hs]
    simp
theorem sum_ones {sep : Str} (hs : sep.cps = #[]) : ∀ {ys : List Str}, (∀ z ∈ ys, z.cps.size = 1 ∧ goodS z = true) → (ys.map (·.length)).sum + ys.length * sep.length = ys.length
  | [], _ => by simp
  | z :: r, h => by
    have ih := sum_ones hs (ys := r) fun w hw => h w (List.mem_cons_of_mem _ hw)
    have h0 : sep.length = 0 := by unfold Str.length; rw [hs]; rfl
    have h1 : z.length = 1 := (h z List.mem_cons_self).1
    rw [h0] at ih ⊢
    rw [List.map_cons, List.sum_cons, h1, List.length_cons]
    omega
theorem good_join {sep : Str} {ys : List Str} (hs : sep.cps = #[]) (hl : ys.length ≤ 40) (h : ∀ z ∈ ys, z.cps.size = 1 ∧ goodS z = true) : goodS (Txt.join sep ys) = true := by
  have e : Txt.join sep ys = Str.join sep ys := TL.join_eq sep ys
  rw [e]
  have hc := join_cps hs ys
  have hlen : ∀ ys : List Str, (∀ z ∈ ys, z.cps.size = 1 ∧ goodS z = true) → ((ys.map fun z => z.cps.toList).flatten).length = ys.length := by
    intro ys
    induction ys with
    | nil => intro _; rfl
    | cons z r ih =>
      intro h
      have hz := (h z List.mem_cons_self).1
      rw [List.map_cons, List.flatten_cons, List.length_append, ih fun w hw => h w (List.mem_cons_of_mem _ hw), Array.length_toList, hz, List.length_cons]
      omega
  unfold goodS
  rw [Bool.and_eq_true, List.all_eq_true]
  refine ⟨decide_eq_true ?_, fun c hc' => ?_⟩
  · show (Str.join sep ys).cps.size ≤ 40
    rw [← Array.length_toList, hc, hlen ys h]
    exact hl
  · rw [hc] at hc'
    obtain ⟨l, hl', hcl⟩ := List.mem_flatten.mp hc'
    obtain ⟨z, hz, rfl⟩ := List.mem_map.mp hl'
    have hg := (h z hz).2
    unfold goodS at hg
    rw [Bool.and_eq_true, List.all_eq_true] at hg
    exact hg.2 c hcl
end Ab

set_option Elab.async false
set_option linter.all false
set_option maxRecDepth 100000
set_option  maxHeartbeats 4000000
/-! RbOrd: the order of values, rows and keys. -/
namespace Ab
open PySem L2
def vLt : Val → Val → Bool
  | .int a, .int b => decide (a < b)
  | .int _, .str _ => true
  | .str _, .int _ => false
  | .str x, .str y => decide (x.cps.toList < y.cps.toList)
def rLt : List Val → List Val → Bool
  | x :: xs, y :: ys => if x = y then rLt xs ys else vLt x y
  | [], _ :: _ => true
  | _, [] => false
theorem str_eq {x y : Str} (h : x.cps.toList = y.cps.toList) : x = y := by
  have hc : x.cps = y.cps := Array.toList_inj.mp h
  cases x
  cases y
  simp only [Str.mk.injEq]
  exact hc
theorem vLt_irr (v : Val) : vLt v v = false := by
  cases v with
  | int a => exact decide_eq_false (by omega)
  | str x => exact decide_eq_false (List.lt_irrefl _)
/-- of two that differ just one is the less -/
theorem vLt_tri : ∀ {v w : Val}, v ≠ w → vLt w v = !vLt v w
  | .int a, .int b, h => by
    have : a ≠ b := fun e => h (by rw [e])
    show decide (b < a) = !decide (a < b)
    rw [← decide_not]
    exact decide_eq_decide.mpr (by omega)
  | .int _, .str _, _ => rfl
  | .str _, .int _, _ => rfl
  | .str x, .str y, h => by
    have hne : x.cps.toList ≠ y.cps.toList := fun e => h (by rw [str_eq e])
    show decide (y.cps.toList < x.cps.toList) = !decide (x.cps.toList < y.cps.toList)
    rw [← decide_not]
    refine decide_eq_decide.mpr ⟨fun h1 h2 => List.lt_asymm h1 h2, fun h1 => ?_⟩
    rcases Std.lt_trichotomy x.cps.toList y.cps.toList with h' | h' | h'
    · exact absurd h' h1
    · exact absurd h' hne
    · exact h'
theorem rLt_irr : ∀ r : List Val, rLt r r = false
  | [] => rfl
  | x :: xs => by
    show (if x = x then rLt xs xs else vLt x x) = false
    rw [if_pos rfl, rLt_irr xs]
theorem rLt_tri : ∀ {a b : List Val}, a ≠ b → rLt b a = !rLt a b
  | [], [], h => absurd rfl h
  | [], _ :: _, _ => rfl
  | _ :: _, [], _ => rfl
  | x :: xs, y :: ys, h => by
    show (if y = x then rLt ys xs else vLt y x) = !(if x = y then rLt xs ys else vLt x y)
    by_cases e : x = y
    · subst e
      rw [if_pos rfl, if_pos rfl]
      exact rLt_tri fun e => h (by rw [e])
    · rw [if_neg e, if_neg (Ne.symm e)]
      exact vLt_tri e
theorem rLt_pre : ∀ (p a b : List Val), rLt (p ++ a) (p ++ b) = rLt a b
  | [], _, _ => rfl
  | x :: p, a, b => by
    show (if x = x then rLt (p ++ a) (p ++ b) else vLt x x) = _
    rw [if_pos rfl, rLt_pre p a b]
/-- -1, 0, 1 -/
def ordR (a b : List Val) : Int := if a = b then 0 else if rLt a b then -1 else 1
theorem ordR_lt (a b : List Val) : rLt a b = decide (ordR a b < 0) := by
  unfold ordR
  by_cases e : a = b
  · subst e; rw [rLt_irr]; simp
  · rw [if_neg e]
    cases rLt a b <;> rfl
theorem ordR_eq (a b : List Val) : decide (a = b) = decide (ordR a b = 0) := by
  unfold ordR
  by_cases e : a = b
  · simp [e]
  · rw [if_neg e]
    cases rLt a b <;> simp [e]
theorem ordR_gt (a b : List Val) : rLt b a = decide (0 < ordR a b) := by
  unfold ordR
  by_cases e : a = b
  · subst e; rw [rLt_irr]; simp
  · rw [if_neg e, rLt_tri e]
    cases rLt a b <;> rfl
/-- the first place that differs -/
theorem ordR_at {p xs ys : List Val} {v w : Val} (h : vLt v w = true) : ordR (p ++ v :: xs) (p ++ w :: ys) = -1 ∧ ordR (p ++ w :: ys) (p ++ v :: xs) = 1 := by
  have hne : v ≠ w := fun e => by rw [e, vLt_irr] at h; cases h
  have h1 : rLt (p ++ v :: xs) (p ++ w :: ys) = true := by
    rw [rLt_pre]
    show (if v = w then rLt xs ys else vLt v w) = true
    rw [if_neg hne]
    exact h
  have h2 : p ++ v :: xs ≠ p ++ w :: ys := fun e => hne (List.cons.inj (List.append_cancel_left e)).1
  unfold ordR
  rw [if_neg h2, if_neg (Ne.symm h2), rLt_tri h2, h1]
  exact ⟨rfl, rfl⟩
theorem ordR_pre {a b : List Val} (h : ∀ j, j < a.length → j < b.length → a[j]? = b[j]?) : ordR a b = (if decide (b.length < a.length) then 1 else 0) - (if decide (a.length < b.length) then 1 else 0) := by
  rcases Nat.lt_trichotomy a.length b.length with hl | hl | hl
  · have e : b = a ++ b.drop a.length := by
      apply List.ext_getElem?
      intro j
      by_cases hj : j < a.length
      · rw [List.getElem?_append_left hj]
        exact (h j hj (by omega)).symm
      · rw [List.getElem?_append_right (by omega), List.getElem?_drop]
        congr 1
        omega
    obtain ⟨y, ys, ey⟩ : ∃ y ys, b.drop a.length = y :: ys := by
      cases hd : b.drop a.length with
      | nil => rw [List.drop_eq_nil_iff] at hd; omega
      | cons y ys => exact ⟨y, ys, rfl⟩
    have h1 : rLt a b = true := by
      rw [e, ey]
      have := rLt_pre a [] (y :: ys)
      rw [List.append_nil] at this
      rw [this]
      rfl
    have h2 : a ≠ b := fun e => by rw [e] at hl; omega
    unfold ordR
    rw [if_neg h2, h1, decide_eq_true hl, decide_eq_false (by omega)]
    rfl
  · have e : a = b := List.ext_getElem? fun j => by
      by_cases hj : j < a.length
      · exact h j hj (by omega)
      · rw [List.getElem?_eq_none (by omega), List.getElem?_eq_none (by omega)]
    subst e
    simp [ordR]
  · have e : a = b ++ a.drop b.length := by
      apply List.ext_getElem?
      intro j
      by_cases hj : j < b.length
      · rw [List.getElem?_append_left hj]
        exact h j (by omega) hj
      · rw [List.getElem?_append_right (by omega), List.getElem?_drop]
        congr 1
        omega
    obtain ⟨y, ys, ey⟩ : ∃ y ys, a.drop b.length = y :: ys := by
      cases hd : a.drop b.length with
      | nil => rw [List.drop_eq_nil_iff] at hd; omega
      | cons y ys => exact ⟨y, ys, rfl⟩
    have h1 : rLt b a = true := by
      rw [e, ey]
      have := rLt_pre b [] (y :: ys)
      rw [List.append_nil] at this
      rw [this]
      rfl
    have h2 : b ≠ a := fun e => by rw [e] at hl; omega
    have h3 := rLt_tri h2
    rw [h1] at h3
    unfold ordR
    have d2 : decide (a.length < b.length) = false := decide_eq_false (by omega)
    rw [if_neg (Ne.symm h2), h3, d2, decide_eq_true hl]
    rfl
theorem cmpOks_map {α β : Type} {f : α → PyData} {g : β → PyData} (hf : ∀ x y, cmpOk (f x) (g y) = true) : ∀ (xs : List α) (ys : List β), cmpOks (xs.map f) (ys.map g) = true
  | [], _ => by simp [cmpOks]
  | _ :: _, [] => by simp [cmpOks]
  | x :: xs, y :: ys => by
    rw [List.map_cons, List.map_cons, cmpOks, hf, cmpOks_map hf xs ys]
    split <;> rfl
theorem cmpVs_lt {f : Val → PyData} (he : ∀ x y, PyData.eqv (f x) (f y) = decide (x = y)) (hl : ∀ x y, cmpV .Lt (f x) (f y) = vLt x y) : ∀ xs ys : List Val, cmpVs .Lt (decide (xs.length < ys.length)) (xs.map f) (ys.map f) = rLt xs ys
  | [], [] => by simp [cmpVs, rLt]
  | [], _ :: _ => by simp [cmpVs, rLt]
  | _ :: _, [] => by simp [cmpVs, rLt]
  | x :: xs, y :: ys => by
    have ih := cmpVs_lt he hl xs ys
    have e : decide ((x :: xs).length < (y :: ys).length) = decide (xs.length < ys.length) := decide_eq_decide.mpr (by simp)
    rw [e, List.map_cons, List.map_cons, cmpVs, he, ih, hl]
    show _ = if x = y then rLt xs ys else vLt x y
    by_cases h : x = y
    · rw [if_pos h, decide_eq_true h, if_pos rfl]
    · rw [if_neg h, decide_eq_false h, if_neg Bool.false_ne_true]
theorem cmpVs_gt {f : Val → PyData} (he : ∀ x y, PyData.eqv (f x) (f y) = decide (x = y)) (hl : ∀ x y, cmpV .Gt (f x) (f y) = vLt y x) : ∀ xs ys : List Val, cmpVs .Gt (decide (xs.length > ys.length)) (xs.map f) (ys.map f) = rLt ys xs
  | [], [] => by simp [cmpVs, rLt]
  | [], _ :: _ => by simp [cmpVs, rLt]
  | _ :: _, [] => by simp [cmpVs, rLt]
  | x :: xs, y :: ys => by
    have ih := cmpVs_gt he hl xs ys
    have e : decide ((x :: xs).length > (y :: ys).length) = decide (xs.length > ys.length) := decide_eq_decide.mpr (by simp)
    rw [e, List.map_cons, List.map_cons, cmpVs, he, ih, hl]
    show _ = if y = x then rLt ys xs else vLt y x
    by_cases h : x = y
    · rw [if_pos h.symm, decide_eq_true h, if_pos rfl]
    · rw [if_neg (Ne.symm h), decide_eq_false h, if_neg Bool.false_ne_true]
end Ab

set_option Elab.async false
set_option linter.all false
set_option maxRecDepth 100000
set_option  maxHeartbeats 4000000
/-! RbKey: keys of values, rows, items, and how Python compares them. -/
namespace Ab
open PySem L2
def tagV : Val → Int
  | .int _ => 0
  | .str _ => 1
def vkey (v : Val) : PyData := .tuple [.int (tagV v), v.enc]
def rkey (row : List Val) : PyData := .tuple (row.map vkey)
structure IKey where
  s : Int
  n : Str
  row : List Val
def IKey.enc (k : IKey) : PyData := .tuple [.int k.s, .str k.n, encR k.row]
def IKey.ord (k : IKey) : PyData := .tuple [.int k.s, .str k.n, rkey k.row]
def keyOf : Item → IKey
  | .relation n _ => ⟨0, n, []⟩
  | .fact n row => ⟨1, n, row⟩
  | .rule n _ _ _ => ⟨2, n, []⟩
  | .denial n _ => ⟨3, n, []⟩
def IKey.ok (k : IKey) : Prop := goodS k.n = true ∧ okR k.row
theorem key_ok : ∀ {it : Item}, it.ok → (keyOf it).ok
  | .relation _ _, h => ⟨h.1, Nat.zero_le _, fun _ h => nomatch h⟩
  | .fact _ _, h => ⟨h.1, h.2.1⟩
  | .rule _ _ _ _, h => ⟨h.1, Nat.zero_le _, fun _ h => nomatch h⟩
  | .denial _ _, h => ⟨h.1, Nat.zero_le _, fun _ h => nomatch h⟩
theorem rkey_ok {row : List Val} (h : okR row) : okD 2 (rkey row) = true := okD_mkT (by rw [List.length_map]; have := h.1; omega) (okAll_of fun d hd => by
  obtain ⟨t, ht, rfl⟩ := List.mem_map.mp hd
  exact okD_mkT (by simp) (okAll_cons okD_int (okAll_cons (Val.okD (h.2 t ht)) rfl)))
theorem tagV_eq {v w : Val} (h : v = w) : tagV v = tagV w := by rw [h]
theorem eqv_vkey (v w : Val) : PyData.eqv (vkey v) (vkey w) = decide (v = w) := by
  unfold vkey
  simp only [PyData.eqv, PyData.eqvAll, eqv_val, Bool.and_true]
  by_cases h : v = w
  · subst h; simp
  · simp [h]
theorem eqv_rkey (a b : List Val) : PyData.eqv (rkey a) (rkey b) = decide (a = b) := by
  unfold rkey
  rw [PyData.eqv, eqvAll_map eqv_vkey]
/-! the orders, as Python compares the keys -/
theorem ok_vkey : ∀ v w : Val, cmpOk (vkey v) (vkey w) = true
  | .int _, .int _ => by simp [vkey, cmpOk, cmpOks, tagV, eqv_int, Val.enc]
  | .int _, .str _ => by simp [vkey, cmpOk, cmpOks, tagV, eqv_int, Val.enc]
  | .str _, .int _ => by simp [vkey, cmpOk, cmpOks, tagV, eqv_int, Val.enc]
  | .str _, .str _ => by simp [vkey, cmpOk, cmpOks, tagV, eqv_int, Val.enc]
theorem lt_vkey : ∀ v w : Val, cmpV .Lt (vkey v) (vkey w) = vLt v w
  | .int a, .int b => by
    simp only [vkey, cmpV, cmpVs, tagV, eqv_int, Val.enc, cmpI, cmpN, vLt, List.length_cons, List.length_nil]
    by_cases h : a = b <;> simp [h]
  | .int _, .str _ => by simp [vkey, cmpV, cmpVs, tagV, eqv_int, Val.enc, cmpI, vLt]
  | .str _, .int _ => by simp [vkey, cmpV, cmpVs, tagV, eqv_int, Val.enc, cmpI, vLt]
  | .str x, .str y => by
    simp only [vkey, cmpV, cmpVs, tagV, eqv_int, eqv_str, Val.enc, cmpI, cmpS, cmpN, vLt, List.length_cons, List.length_nil]
    by_cases h : x = y
    · subst h; simp
    · simp [h]
theorem gt_vkey : ∀ v w : Val, cmpV .Gt (vkey v) (vkey w) = vLt w v
  | .int a, .int b => by
    simp only [vkey, cmpV, cmpVs, tagV, eqv_int, Val.enc, cmpI, cmpN, vLt, List.length_cons, List.length_nil]
    by_cases h : a = b <;> simp [h]
  | .int _, .str _ => by simp [vkey, cmpV, cmpVs, tagV, eqv_int, Val.enc, cmpI, vLt]
  | .str _, .int _ => by simp [vkey, cmpV, cmpVs, tagV, eqv_int, Val.enc, cmpI, vLt]
  | .str x, .str y => by
    simp only [vkey, cmpV, cmpVs, tagV, eqv_int, eqv_str, Val.enc, cmpI, cmpS, cmpN, vLt, List.length_cons, List.length_nil]
    by_cases h : x = y
    · subst h; simp
    · simp [h]
theorem ok_rkey (a b : List Val) : cmpOk (rkey a) (rkey b) = true := by
  show cmpOks _ _ = true
  exact cmpOks_map ok_vkey a b
theorem lt_rkey (a b : List Val) : cmpV .Lt (rkey a) (rkey b) = rLt a b := by
  have := cmpVs_lt eqv_vkey lt_vkey a b
  unfold rkey
  rw [cmpV]
  simpa [cmpN] using this
theorem gt_rkey (a b : List Val) : cmpV .Gt (rkey a) (rkey b) = rLt b a := by
  have := cmpVs_gt eqv_vkey gt_vkey a b
  unfold rkey
  rw [cmpV]
  simpa [cmpN] using this
/-- the order of keys -/
def hdLt (k l : IKey) : Bool := if k.s = l.s then decide (k.n.cps.toList < l.n.cps.toList) else decide (k.s < l.s)
def ordK (k l : IKey) : Int := if k.s = l.s ∧ k.n = l.n then ordR k.row l.row else if hdLt k l then -1 else 1
theorem ok_kord (k l : IKey) : cmpOk k.ord l.ord = true := by
  show cmpOks _ _ = true
  simp only [cmpOks, eqv_int, eqv_str, eqv_rkey, ok_rkey]
  simp [cmpOk]
theorem strLt_tri {x y : Str} (h : x ≠ y) : decide (y.cps.toList < x.cps.toList) = !decide (x.cps.toList < y.cps.toList) := vLt_tri (v := .str x) (w := .str y) fun e => h (Val.str.inj e)
theorem lt_kord (k l : IKey) : cmpV .Lt k.ord l.ord = decide (ordK k l < 0) := by
  unfold IKey.ord ordK hdLt
  simp only [cmpV, cmpVs, eqv_int, eqv_str, eqv_rkey, lt_rkey, cmpI, cmpS, cmpN, List.length_cons, List.length_nil]
  by_cases h1 : k.s = l.s
  · by_cases h2 : k.n = l.n
    · by_cases h3 : k.row = l.row
      · simp [h1, h2, h3, ordR]
      · simp only [h1, h2, h3, decide_true, decide_false, if_true, and_self, Bool.false_eq_true, if_false]
        exact ordR_lt _ _
    · simp only [h1, h2, decide_true, decide_false, if_true, and_false, if_false, Bool.false_eq_true]
      cases decide (k.n.cps.toList < l.n.cps.toList) <;> rfl
  · simp only [h1, decide_false, false_and, if_false, Bool.false_eq_true]
    cases decide (k.s < l.s) <;> rfl
theorem gt_kord (k l : IKey) : cmpV .Gt k.ord l.ord = decide (0 < ordK k l) := by
  unfold IKey.ord ordK hdLt
  simp only [cmpV, cmpVs, eqv_int, eqv_str, eqv_rkey, gt_rkey, cmpI, cmpS, cmpN, List.length_cons, List.length_nil]
  by_cases h1 : k.s = l.s
  · by_cases h2 : k.n = l.n
    · by_cases h3 : k.row = l.row
      · simp [h1, h2, h3, ordR]
      · simp only [h1, h2, h3, decide_true, decide_false, if_true, and_self, Bool.false_eq_true, if_false]
        exact ordR_gt _ _
    · simp only [h1, h2, decide_true, decide_false, if_true, and_false, if_false, Bool.false_eq_true]
      rw [strLt_tri h2]
      cases decide (k.n.cps.toList < l.n.cps.toList) <;> rfl
  · simp only [h1, decide_false, false_and, if_false, Bool.false_eq_true]
    have : decide (l.s < k.s) = !decide (k.s < l.s) := by
      rw [← decide_not]
      exact decide_eq_decide.mpr (by omega)
    rw [this]
    cases decide (k.s < l.s) <;> rfl
theorem eq_kord (k l : IKey) : PyData.eqv k.ord l.ord = decide (ordK k l = 0) := by
  unfold IKey.ord ordK
  simp only [PyData.eqv, PyData.eqvAll]
  have e1 := eqv_int k.s l.s
  have e2 := eqv_str k.n l.n
  simp only [PyData.eqv] at e1 e2
  rw [e1, e2, eqv_rkey, Bool.and_true]
  by_cases h1 : k.s = l.s
  · by_cases h2 : k.n = l.n
    · simp only [h1, h2, decide_true, and_self, if_true, Bool.true_and]
      exact ordR_eq _ _
    · simp only [h1, h2, decide_true, decide_false, and_false, if_false, Bool.true_and, Bool.false_and]
      cases hdLt k l <;> rfl
  · simp only [h1, decide_false, false_and, if_false, Bool.false_and]
    cases hdLt k l <;> rfl
theorem kord_ok {k : IKey} (h : k.ok) : okD 3 k.ord = true := okD_mkT (by simp) (okAll_cons okD_int (okAll_cons (okD_good h.1) (okAll_cons (rkey_ok h.2) rfl)))
theorem kenc_ok {k : IKey} (h : k.ok) : okD 3 k.enc = true := okD_mkT (by simp) (okAll_cons okD_int (okAll_cons (okD_good h.1) (okAll_cons (okR_okD h.2) rfl)))
end Ab

set_option Elab.async false
set_option linter.all false
set_option maxRecDepth 100000
set_option  maxHeartbeats 4000000
/-! RbSt: the content of a state, plain. -/
namespace Ab
open PySem PyProof.Rows L2
theorem vLt_trans : ∀ (a b c : Val), vLt a b = true → vLt b c = true → vLt a c = true
  | .int a, .int b, .int c, h1, h2 => by
    have h1 := of_decide_eq_true h1
    have h2 := of_decide_eq_true h2
    exact decide_eq_true (by omega)
  | .int _, .int _, .str _, _, _ => rfl
  | .int _, .str _, .str _, _, _ => rfl
  | .int _, .str _, .int _, _, h => nomatch h
  | .str _, .int _, _, h, _ => nomatch h
  | .str _, .str _, .int _, _, h => nomatch h
  | .str a, .str b, .str c, h1, h2 => decide_eq_true (List.lt_trans (of_decide_eq_true h1) (of_decide_eq_true h2))
theorem rLt_trans : ∀ (a b c : List Val), rLt a b = true → rLt b c = true → rLt a c = true
  | [], [], _, h, _ => nomatch h
  | _ :: _, [], _, h, _ => nomatch h
  | _, _ :: _, [], _, h => nomatch h
  | [], _ :: _, _ :: _, _, _ => rfl
  | x :: xs, y :: ys, z :: zs, h1, h2 => by
    have h1' : (if x = y then rLt xs ys else vLt x y) = true := h1
    have h2' : (if y = z then rLt ys zs else vLt y z) = true := h2
    show (if x = z then rLt xs zs else vLt x z) = true
    by_cases e1 : x = y
    · subst e1
      rw [if_pos rfl] at h1'
      by_cases e2 : x = z
      · rw [if_pos e2] at h2' ⊢
        exact rLt_trans xs ys zs h1' h2'
      · rw [if_neg e2] at h2' ⊢
        exact h2'
    · rw [if_neg e1] at h1'
      by_cases e2 : y = z
      · subst e2
        rw [if_neg e1]
        exact h1'
      · rw [if_neg e2] at h2'
        have h3 := vLt_trans _ _ _ h1' h2'
        have e3 : x ≠ z := fun e => by rw [e, vLt_irr] at h3; cases h3
        rw [if_neg e3]
        exact h3
/-- the order of rows -/
def rowO : KeyOrd where
  α := List Val
  blt := rLt
  irrefl := rLt_irr
  trans := rLt_trans
  negTrans := fun a b c h => by
    by_cases e : a = b
    · subst e; exact .inr h
    · cases h1 : rLt a b with
      | true => exact .inl rfl
      | false =>
        have h2 := rLt_tri e
        rw [h1] at h2
        exact .inr (rLt_trans b a c h2 h)
  total := fun a b h1 h2 => Classical.byContradiction fun e => by
    have := rLt_tri e
    rw [h1, h2] at this
    cases this
theorem vkey_inj {v w : Val} (h : vkey v = vkey w) : v = w := by
  unfold vkey at h
  injection h with h
  injection h with _ h
  injection h with h _
  exact Val.enc_inj h
theorem rkey_inj {a b : List Val} (h : rkey a = rkey b) : a = b := by
  unfold rkey at h
  injection h with h
  induction a generalizing b with
  | nil =>
    cases b with
    | nil => rfl
    | cons _ _ => cases h
  | cons x xs ih =>
    cases b with
    | nil => cases h
    | cons y ys =>
      rw [List.map_cons, List.map_cons] at h
      injection h with h1 h2
      rw [vkey_inj h1, ih h2]
theorem fit_rows {rs : List (List Val)} (h : ∀ r ∈ rs, okR r ∧ r ≠ []) : KeyFit rowO rkey (.type "tuple") rs where
  cmp := fun r hr r' hr' => ⟨ok_rkey r r', lt_rkey r r', rkey_inj⟩
  tup := fun r hr => by
    obtain ⟨h1, h2⟩ := h r hr
    refine ⟨okD_shaped (rkey_ok h1) (by decide), ?_⟩
    cases r with
    | nil => exact absurd rfl h2
    | cons v vs => exact ⟨vkey v, vs.map vkey, rfl, rfl⟩
  typ := .inr rfl
def sortR (rs : List (List Val)) : List (List Val) := rs.mergeSort (leK rowO)
theorem sortR_mem {rs : List (List Val)} {r : List Val} : r ∈ sortR rs ↔ r ∈ rs := (List.mergeSort_perm _ _).mem_iff
theorem sortR_len (rs : List (List Val)) : (sortR rs).length = rs.length := (List.mergeSort_perm _ _).length_eq
structure Rul where
  rel : Str
  hd : List Term
  b : List Lit
  deriving DecidableEq
def Rul.enc (r : Rul) : PyData := .tuple [.str r.rel, encT r.hd, encB r.b]
/-- the content of a state: relations, facts, rules, denials, as the dicts hold them -/
structure Ct where
  rel : List (Str × Int)
  fac : List (Str × List (List Val))
  rul : List (Str × Rul)
  den : List (Str × List Lit)
def rowsOf (c : Ct) (n : Str) : List (List Val) := (valG c.fac n).getD []
def Ct.sRel (c : Ct) (x : List (Str × Int)) : Ct := { c with rel := x }
def Ct.sFac (c : Ct) (x : List (Str × List (List Val))) : Ct := { c with fac := x }
def Ct.sRul (c : Ct) (x : List (Str × Rul)) : Ct := { c with rul := x }
def Ct.sDen (c : Ct) (x : List (Str × List Lit)) : Ct := { c with den := x }
def Ct.put (c : Ct) : Item → Ct
  | .relation n w => c.sRel (putG c.rel n w)
  | .rule n rel hd b => c.sRul (putG c.rul n ⟨rel, hd, b⟩)
  | .denial n b => c.sDen (putG c.den n b)
  | .fact n row => if row ∈ rowsOf c n then c else c.sFac (putG c.fac n (rowsOf c n ++ [row]))
def Ct.names (c : Ct) : List Str := sortT (c.rel.map (·.1) ++ (c.fac.map (·.1)).filter fun n => decide (0 < (rowsOf c n).length))
def Ct.tidy (c : Ct) : Ct := c.sFac (mergeG [] (c.names.map fun n => (n, sortR (rowsOf c n))))
def Ct.items (c : Ct) : List Item :=
  (sortT (c.rel.map (·.1))).map (fun n => .relation n ((valG c.rel n).getD 0)) ++ (sortT (c.fac.map (·.1))).flatMap (fun n => (rowsOf c n).map (.fact n)) ++
  (sortT (c.rul.map (·.1))).map (fun n => match valG c.rul n with | some r => .rule n r.rel r.hd r.b | none => .denial n []) ++ (sortT (c.den.map (·.1))).map (fun n => .denial n ((valG c.den n).getD []))
def ct0 : Ct := ⟨[], [], [], []⟩
/-- dicts with keys that are texts -/
theorem valG_inr {β γ : Type} (f : β → γ) (z : Str) : ∀ kvs : List (Str × β), valG (kvs.map fun p => ((.inr p.1 : Key), f p.2)) (.inr z) = (valG kvs z).map f
  | [] => rfl
  | (a, x) :: r => by
    rw [List.map_cons, valG_cons, valG_cons, valG_inr f z r]
    by_cases e : a = z
    · subst e; simp
    · rw [if_neg e, if_neg fun h => e (Sum.inr.inj h)]
theorem any_inr {β γ : Type} (f : β → γ) (z : Str) : ∀ kvs : List (Str × β), ((kvs.map fun p => ((.inr p.1 : Key), f p.2)).any fun kv => decide (kv.1 = .inr z)) = kvs.any fun kv => decide (kv.1 = z)
  | [] => rfl
  | (a, x) :: r => by
    rw [List.map_cons, List.any_cons, List.any_cons, any_inr f z r]
    by_cases e : a = z
    · subst e; simp
    · rw [decide_eq_false e, decide_eq_false fun h => e (Sum.inr.inj h)]
theorem putG_inr {β γ : Type} (f : β → γ) (z : Str) (x : β) (kvs : List (Str × β)) : putG (kvs.map fun p => ((.inr p.1 : Key), f p.2)) (.inr z) (f x) = (putG kvs z x).map fun p => ((.inr p.1 : Key), f p.2) := by
  unfold putG
  rw [any_inr]
  cases h : kvs.any fun kv => decide (kv.1 = z) with
  | true =>
    rw [if_pos rfl, if_pos rfl, List.map_map, List.map_map]
    refine List.map_congr_left fun p _ => ?_
    show (if (Sum.inr p.1 : Key) = .inr z then ((.inr p.1 : Key), f x) else ((.inr p.1 : Key), f p.2)) = ((.inr ((if p.1 = z then (p.1, x) else p) : Str × β).1 : Key), f ((if p.1 = z then (p.1, x) else p) : Str × β).2)
    by_cases e : p.1 = z
    · rw [if_pos e, if_pos (by rw [e])]
    · rw [if_neg e, if_neg fun h => e (Sum.inr.inj h)]
  | false => rw [if_neg Bool.false_ne_true, if_neg Bool.false_ne_true, List.map_append]; rfl
theorem putG_keys {κ β : Type} [DecidableEq κ] (kvs : List (κ × β)) (k : κ) (v : β) : (putG kvs k v).map (·.1) = if k ∈ kvs.map (·.1) then kvs.map (·.1) else kvs.map (·.1) ++ [k] := by
  unfold putG
  cases h : kvs.any fun kv => decide (kv.1 = k) with
  | true =>
    obtain ⟨p, hp, e⟩ := List.any_eq_true.mp h
    rw [if_pos rfl, if_pos (List.mem_map.mpr ⟨p, hp, of_decide_eq_true e⟩), List.map_map]
    refine List.map_congr_left fun q _ => ?_
    show (if q.1 = k then (q.1, v) else q).1 = q.1
    split <;> rfl
  | false =>
    rw [if_neg Bool.false_ne_true, if_neg, List.map_append]
    · rfl
    · rintro hk
      obtain ⟨p, hp, e⟩ := List.mem_map.mp hk
      have : (kvs.any fun kv => decide (kv.1 = k)) = true := List.any_eq_true.mpr ⟨p, hp, decide_eq_true e⟩
      rw [h] at this
      cases this
theorem putG_len {κ β : Type} [DecidableEq κ] (l : List (κ × β)) (k : κ) (v : β) : (putG l k v).length ≤ l.length + 1 := by
  unfold putG
  split
  · rw [List.length_map]; omega
  · rw [List.length_append]; exact Nat.le_refl _
theorem mergeG_len {κ β : Type} [DecidableEq κ] : ∀ (ws l : List (κ × β)), (mergeG l ws).length ≤ l.length + ws.length
  | [], l => Nat.le_refl _
  | p :: ws, l => by
    have h1 := mergeG_len ws (putG l p.1 p.2)
    have h2 := putG_len l p.1 p.2
    show (mergeG (putG l p.1 p.2) ws).length ≤ l.length + (ws.length + 1)
    omega
theorem valG_isSome {κ β : Type} [DecidableEq κ] (k : κ) : ∀ kvs : List (κ × β), (valG kvs k).isSome = decide (k ∈ kvs.map (·.1))
  | [] => by simp [valG]
  | (a, x) :: r => by
    rw [valG_cons, List.map_cons]
    by_cases e : a = k
    · subst e; simp
    · rw [if_neg e, valG_isSome k r]
      have : ¬ k = a := fun h => e h.symm
      simp [this]
theorem putG_nodup {κ β : Type} [DecidableEq κ] {kvs : List (κ × β)} (h : (kvs.map (·.1)).Nodup) (k : κ) (v : β) : ((putG kvs k v).map (·.1)).Nodup := by
  rw [putG_keys]
  split
  · exact h
  · rename_i hk
    exact List.nodup_append.mpr ⟨h, List.pairwise_singleton .., fun a ha b hb e => hk (by rw [← List.mem_singleton.mp hb, ← e]; exact ha)⟩
section
variable {K : KX} {ρ : Rho} {M : MH} {Q : Sl → MH → Prop} {tl te : TE}
theorem lsv_um {F : PySem.W.Frag} {s : Sl} {xs : List Sl} {D : Addr} {o : MO} (h : LsV F s M xs) (hD : M D = none) : LsV F s (um M D o) xs := by
  rcases h with h | ⟨a, e, h⟩ | h
  · exact .inl h
  · exact .inr (.inl ⟨a, e, by rw [um_ne fun z => by rw [z, hD] at h; cases h]; exact h⟩)
  · exact .inr (.inr h)
/-- [f(x) for x in xs] that touches nothing, as a list that will change -/
theorem w_lcP {j : Nat} {vs : List Nat} (hj : j ∈ vs) (h : W K tl ρ M fun s M2 => ∃ (xs : List Sl) (f : Nat → PyData), LsV K.K s M2 xs ∧ xs.length ≤ 100000 ∧
    (∀ i D o, i < xs.length → M2 D = none → W K te ((wipeR ρ vs).set j (some (xs.getD i .non))) (um M2 D o) fun s' M' => s' = .dat (f i) ∧ M' = um M2 D o) ∧
    ∀ D, M2 D = none → Q (.raw (.ref D)) (um M2 D (.lst ((List.range xs.length).map fun i => .dat (f i))))) : W K (tLc (iList K.K tl) (gName j) tYes te vs) ρ M Q :=
  w_lcM hj (wi_list (h.imp fun s M2 ⟨xs, f, hl, hz, he, q⟩ => ⟨xs, hl, fun i acc M' => M' = M2 ∧ acc = (List.range i).map f, ⟨rfl, rfl⟩, fun i acc M' _ ⟨e, _⟩ D o hD => by subst e; exact lsv_um hl hD, fun i acc M' D hi ⟨eM, ea⟩ hD => by
    subst eM ea
    refine wt_yes ?_
    rw [if_pos rfl]
    refine (he i D _ hi hD).imp fun s' M3 ⟨e1, e2⟩ => ⟨f i, M', e1, e2, hD, ?_, rfl, ?_⟩
    · rw [List.length_map, List.length_range]; omega
    · rw [List.range_succ, List.map_append]; rfl, fun acc M' D ⟨eM, ea⟩ hD => by
    subst eM ea
    rw [List.map_map]
    exact q D hD⟩))
theorem range_map {α β : Type} (f : α → β) (d : α) (xs : List α) : (List.range xs.length).map (fun i => f (xs.getD i d)) = xs.map f := by
  apply List.ext_getElem?
  intro i
  rw [List.getElem?_map, List.getElem?_map]
  by_cases h : i < xs.length
  · rw [List.getElem?_range h, List.getElem?_eq_getElem h]
    show some (f (xs.getD i d)) = _
    rw [List.getD_eq_getElem?_getD, List.getElem?_eq_getElem h]
    rfl
  · rw [List.getElem?_eq_none (by rw [List.length_range]; omega), List.getElem?_eq_none (by omega)]
    rfl
end
end Ab
namespace Ab
open PySem PyProof.Rows L2
theorem valG_mem {κ β : Type} [DecidableEq κ] {k : κ} {x : β} : ∀ {kvs : List (κ × β)}, valG kvs k = some x → (k, x) ∈ kvs
  | [], h => nomatch h
  | (a, y) :: r, h => by
    rw [valG_cons] at h
    by_cases e : a = k
    · rw [if_pos e] at h
      cases h
      subst e
      exact List.mem_cons_self ..
    · rw [if_neg e] at h
      exact List.mem_cons_of_mem _ (valG_mem h)
/-- what may stand in a state -/
structure CtOk (c : Ct) : Prop where
  rel : ∀ p ∈ c.rel, goodS p.1 = true ∧ 0 ≤ p.2 ∧ p.2 ≤ 1000
  fac : ∀ p ∈ c.fac, goodS p.1 = true ∧ (∀ r ∈ p.2, okR r ∧ r ≠ []) ∧ p.2.length ≤ 1000
  rul : ∀ p ∈ c.rul, (Item.rule p.1 p.2.rel p.2.hd p.2.b).ok
  den : ∀ p ∈ c.den, (Item.denial p.1 p.2).ok
  sz : c.rel.length ≤ 1000 ∧ c.fac.length ≤ 1000 ∧ c.rul.length ≤ 1000 ∧ c.den.length ≤ 1000
theorem CtOk.row {c : Ct} (h : CtOk c) {n : Str} : (∀ r ∈ rowsOf c n, okR r ∧ r ≠ []) ∧ (rowsOf c n).length ≤ 1000 := by
  unfold rowsOf
  cases hv : valG c.fac n with
  | none => exact ⟨fun _ h => (nomatch h), Nat.zero_le _⟩
  | some x => exact (h.fac _ (valG_mem hv)).2
def Ct.small (c : Ct) : Prop := c.rel.length + c.fac.length < 64 ∧ c.rul.length < 64 ∧ c.den.length < 64
theorem mergeG_snoc {κ β : Type} [DecidableEq κ] (l ws : List (κ × β)) (p : κ × β) : mergeG l (ws ++ [p]) = putG (mergeG l ws) p.1 p.2 := by
  unfold mergeG
  rw [List.foldl_append]
  rfl
theorem sortT_len (ks : List Str) : (sortT ks).length = ks.length := (List.mergeSort_perm _ _).length_eq
theorem sortT_mem {ks : List Str} {k : Str} : k ∈ sortT ks ↔ k ∈ ks := (List.mergeSort_perm _ _).mem_iff
theorem valG_of {β : Type} {n : Str} {kvs : List (Str × β)} (h : n ∈ kvs.map (·.1)) : ∃ x, valG kvs n = some x := by
  have z := valG_isSome n kvs
  rw [decide_eq_true h] at z
  cases hv : valG kvs n with
  | none => rw [hv] at z; cases z
  | some x => exact ⟨x, rfl⟩
def facI (c : Ct) (n : Str) : List Item := (rowsOf c n).map (.fact n)
def rulI (c : Ct) (n : Str) : Item := match valG c.rul n with | some r => .rule n r.rel r.hd r.b | none => .denial n []
theorem flat_len {c : Ct} (hc : CtOk c) : ∀ ns : List Str, (ns.flatMap (facI c)).length ≤ 1000 * ns.length
  | [] => Nat.le_refl _
  | n :: ns => by
    have h1 := flat_len hc ns
    have h2 := (hc.row (n := n)).2
    rw [List.flatMap_cons, List.length_append, List.length_cons]
    unfold facI at *
    rw [List.length_map]
    omega
def puts (its : List Item) : Ct := its.foldl Ct.put ct0
def InitOk (its : List Item) : Prop := (∀ it ∈ its, it.ok) ∧ ∀ i, i ≤ its.length → CtOk (puts (its.take i)) ∧ Ct.small (puts (its.take i))
theorem puts_snoc (its : List Item) (it : Item) : puts (its ++ [it]) = (puts its).put it := by
  unfold puts
  rw [List.foldl_append]
  rfl
theorem ok0 : CtOk ct0 ∧ Ct.small ct0 := ⟨⟨fun _ h => (nomatch h), fun _ h => (nomatch h), fun _ h => (nomatch h), fun _ h => (nomatch h), by decide⟩, by decide, by decide, by decide⟩
end Ab

set_option Elab.async false
set_option linter.all false
set_option maxRecDepth 100000
set_option  maxHeartbeats 4000000
/-! RbOrd2: items in the order of keys. -/
namespace Ab
open PySem PyProof.Rows L2
def placedI (os : List Item) (it : Item) : List Item := os.filter (fun x => decide (ordK (keyOf x) (keyOf it) < 0)) ++ [it] ++ os.filter (fun x => decide (0 < ordK (keyOf x) (keyOf it)))
def orderd (its : List Item) : List Item := its.foldl placedI []
theorem orderd_snoc (its : List Item) (it : Item) : orderd (its ++ [it]) = placedI (orderd its) it := by
  unfold orderd
  rw [List.foldl_append]
  rfl
theorem placed_ok {os : List Item} {it : Item} (h : ∀ x ∈ os, x.ok) (hi : it.ok) : ∀ x ∈ placedI os it, x.ok := fun x hx => by
  rcases List.mem_append.mp hx with hx | hx
  · rcases List.mem_append.mp hx with hx | hx
    · exact h x (List.mem_filter.mp hx).1
    · rw [List.mem_singleton.mp hx]; exact hi
  · exact h x (List.mem_filter.mp hx).1
theorem filter_two {α : Type} (f g : α → Bool) (h : ∀ x, f x = true → g x = true → False) : ∀ l : List α, (l.filter f).length + (l.filter g).length ≤ l.length
  | [] => Nat.le_refl _
  | x :: l => by
    have ih := filter_two f g h l
    rw [List.filter_cons, List.filter_cons, List.length_cons]
    cases e1 : f x with
    | true =>
      cases e2 : g x with
      | true => exact (h x e1 e2).elim
      | false => rw [if_pos rfl, if_neg Bool.false_ne_true, List.length_cons]; omega
    | false =>
      cases e2 : g x with
      | true => rw [if_neg Bool.false_ne_true, if_pos rfl, List.length_cons]; omega
      | false => rw [if_neg Bool.false_ne_true, if_neg Bool.false_ne_true]; omega
theorem placed_len (os : List Item) (it : Item) : (placedI os it).length ≤ os.length + 1 := by
  have := filter_two (fun x => decide (ordK (keyOf x) (keyOf it) < 0)) (fun x => decide (0 < ordK (keyOf x) (keyOf it))) (fun x h1 h2 => by
    have h1 := of_decide_eq_true h1
    have h2 := of_decide_eq_true h2
    omega) os
  unfold placedI
  rw [List.length_append, List.length_append, List.length_singleton]
  omega
theorem orderd_len : ∀ its : List Item, (orderd its).length ≤ its.length := by
  have key : ∀ (its os : List Item), (its.foldl placedI os).length ≤ os.length + its.length := by
    intro its
    induction its with
    | nil => intro os; exact Nat.le_refl _
    | cons x xs ih =>
      intro os
      have h1 := ih (placedI os x)
      have h2 := placed_len os x
      rw [List.foldl_cons, List.length_cons]
      omega
  intro its
  have := key its []
  rw [List.length_nil, Nat.zero_add] at this
  exact this
theorem orderd_ok {its : List Item} (h : ∀ x ∈ its, x.ok) : ∀ x ∈ orderd its, x.ok := by
  have key : ∀ (its os : List Item), (∀ x ∈ its, x.ok) → (∀ x ∈ os, x.ok) → ∀ x ∈ its.foldl placedI os, x.ok := by
    intro its
    induction its with
    | nil => intro os _ h; exact h
    | cons y ys ih =>
      intro os h1 h2
      exact ih (placedI os y) (fun x hx => h1 x (List.mem_cons_of_mem _ hx)) (placed_ok h2 (h1 y (List.mem_cons_self ..)))
  exact key its [] h fun _ h => nomatch h
section
variable {K : KX} {ρ : Rho} {M : MH} {Q : Sl → MH → Prop} {tl te : TE} {tt : TT}
theorem WT.imp {Q Q' : Bool → MH → Prop} (h : WT K tt ρ M Q) (i : ∀ b M', Q b M' → Q' b M') : WT K tt ρ M Q' := fun σ B H hR hS Q0 k => h σ B H hR hS Q0 fun b M' B' H' q => k b M' B' H' (i b M' q)
/-- [g(x) for x in xs if f(x)], nothing else is touched -/
theorem w_lcF {α : Type} {enc : α → PyData} {xs : List α} {j : Nat} {vs : List Nat} {M1 : MH} (hj : j ∈ vs) (hl : W K tl ρ M fun s M2 => s = .dat (.list (xs.map enc)) ∧ M2 = M1) (hz : xs.length ≤ 100000) (f : α → Bool) (g : α → PyData)
    (ht : ∀ x D o, x ∈ xs → M1 D = none → WT K tt ((wipeR ρ vs).set j (some (.dat (enc x)))) (um M1 D o) fun b M' => b = f x ∧ M' = um M1 D o)
    (he : ∀ x D o, x ∈ xs → f x = true → M1 D = none → W K te ((wipeR ρ vs).set j (some (.dat (enc x)))) (um M1 D o) fun s M' => s = .dat (g x) ∧ M' = um M1 D o) (q : Q (.dat (.list ((xs.filter f).map g))) M1) : W K (tLc (iList K.K tl) (gName j) tt te vs) ρ M Q :=
  w_lc hj (wi_list (hl.imp fun s M2 ⟨e1, e2⟩ => by
    subst e1 e2
    refine ⟨_, lsv_dat, fun i acc M' => M' = M2 ∧ acc = ((xs.take i).filter f).map g, ⟨rfl, by simp⟩, fun _ _ _ _ _ _ _ _ => lsv_dat, fun i acc M' D hi ⟨eM, ea⟩ hD => ?_, fun acc M' ⟨eM, ea⟩ => ?_⟩
    · subst eM ea
      have hi' : i < xs.length := by simpa using hi
      show WT K tt ((wipeR ρ vs).set j (some (((xs.map enc).map Sl.dat).getD i .non))) _ _
      rw [getD_map hi']
      refine WT.imp (ht xs[i] D _ (List.getElem_mem hi') hD) fun b M3 ⟨e1, e2⟩ => ?_
      subst e1 e2
      have hn : xs.take (i + 1) = xs.take i ++ [xs[i]] := List.take_succ_eq_append_getElem hi'
      cases hf : f xs[i] with
      | true =>
        rw [if_pos rfl]
        show W K te ((wipeR ρ vs).set j (some (((xs.map enc).map Sl.dat).getD i .non))) _ _
        rw [getD_map hi']
        refine (he xs[i] D _ (List.getElem_mem hi') hf hD).imp fun s M4 ⟨e1, e2⟩ => ⟨g xs[i], _, e1, e2, hD, ?_, rfl, ?_⟩
        · have := List.length_filter_le f (xs.take i)
          rw [List.length_map]
          rw [List.length_take] at this
          omega
        · rw [hn, List.filter_append, List.map_append, List.filter_cons, if_pos hf]
          rfl
      | false =>
        rw [if_neg Bool.false_ne_true]
        refine ⟨_, rfl, hD, rfl, ?_⟩
        rw [hn, List.filter_append, List.map_append, List.filter_cons, if_neg (by rw [hf]; exact Bool.false_ne_true)]
        simp
    · subst eM ea
      rw [List.length_map, List.length_map, List.take_length]
      exact q))
end
end Ab
namespace Ab
open PySem PyProof.Rows L2
/-! the law's own dicts of ordered items -/
def stR (d : List (Str × Int)) : Item → List (Str × Int)
  | .relation n w => putG d n w
  | _ => d
def stF1 (d : List (Str × List (List Val))) : Item → List (Str × List (List Val))
  | .relation n _ => putG d n []
  | _ => d
def stF2 (d : List (Str × List (List Val))) : Item → List (Str × List (List Val))
  | .fact n row => putG d n ((valG d n).getD [] ++ [row])
  | _ => d
def stU (d : List (Str × Rul)) : Item → List (Str × Rul)
  | .rule n rel hd b => putG d n ⟨rel, hd, b⟩
  | _ => d
def stD (d : List (Str × List Lit)) : Item → List (Str × List Lit)
  | .denial n b => putG d n b
  | _ => d
def lR (os : List Item) := os.foldl stR []
def lF1 (os : List Item) := os.foldl stF1 []
def lF2 (f : List (Str × List (List Val))) (os : List Item) := os.foldl stF2 f
def lU (os : List Item) := os.foldl stU []
def lD (os : List Item) := os.foldl stD []
structure Like (c : Ct) (os : List Item) : Prop where
  items : c.items = os
  r : c.rel.length = (lR os).length ∧ ∀ n v, valG (lR os) n = some v → valG c.rel n = some v
  f : c.fac.length = (lF2 (lF1 os) os).length ∧ ∀ n v, valG (lF2 (lF1 os) os) n = some v → valG c.fac n = some v
  u : c.rul.length = (lU os).length ∧ ∀ n v, valG (lU os) n = some v → valG c.rul n = some v
  d : c.den.length = (lD os).length ∧ ∀ n v, valG (lD os) n = some v → valG c.den n = some v
theorem fold_snoc {α β : Type} (f : β → α → β) (b : β) (xs : List α) (x : α) : (xs ++ [x]).foldl f b = f (xs.foldl f b) x := by rw [List.foldl_append]; rfl
end Ab
namespace Ab
open PySem PyProof.Rows L2
/-- a tuple of anything -/
theorem w_tupS {K : KX} {ρ : Rho} {M : MH} {Q : Sl → MH → Prop} {t : TA} (h : WA K t ρ M fun xs M1 => xs.length ≤ 100000 ∧ Q (tupS K.K xs) M1) : W K (tTup t) ρ M Q := fun σ B H hR hS Q0 k =>
  h σ B H hR hS _ fun xs vs M1 B1 H1 ⟨hl, q⟩ e1 S1 o1 => by
    have hlen := SlAll.len o1
    exact ⟨Nat.le_trans (by omega) (show 100000 ≤ sizeLine by decide), fun p hp => k _ _ M1 (upd B1 p (.tup vs)) _ q (e1.trans (same_new (S1.freeB hp))) (S1.alloc hp) ⟨p, vs, rfl, SqT.of upd_same, SlAll.mono (same_new (S1.freeB hp)) o1⟩⟩
end Ab

set_option Elab.async false
set_option linter.all false
set_option maxRecDepth 100000
set_option  maxHeartbeats 4000000
/-! RbPure: a state of items has what the law's own order of them has. -/
namespace Ab
open PySem PyProof.Rows L2
/-! the order of keys -/
theorem ordR_neg (a b : List Val) : ordR a b < 0 ↔ rLt a b = true := by
  rw [ordR_lt, decide_eq_true_eq]
theorem ordK_neg (k l : IKey) : ordK k l < 0 ↔ k.s < l.s ∨ (k.s = l.s ∧ k.n.cps.toList < l.n.cps.toList) ∨ (k.s = l.s ∧ k.n = l.n ∧ rLt k.row l.row = true) := by
  unfold ordK
  by_cases h1 : k.s = l.s
  · by_cases h2 : k.n = l.n
    · rw [if_pos ⟨h1, h2⟩, ordR_neg]
      have e1 : ¬ k.s < l.s := by omega
      have e2 : ¬ k.n.cps.toList < l.n.cps.toList := by rw [h2]; exact List.lt_irrefl _
      simp [h1, h2, e1, e2, List.lt_irrefl]
    · rw [if_neg fun z => h2 z.2]
      unfold hdLt
      rw [if_pos h1]
      have e1 : ¬ k.s < l.s := by omega
      by_cases h3 : k.n.cps.toList < l.n.cps.toList
      · rw [decide_eq_true h3, if_pos rfl]
        simp [h1, h3]
      · rw [decide_eq_false h3, if_neg Bool.false_ne_true]
        simp [h1, h2, h3]
  · rw [if_neg fun z => h1 z.1]
    unfold hdLt
    rw [if_neg h1]
    by_cases h3 : k.s < l.s
    · rw [decide_eq_true h3, if_pos rfl]
      simp [h3]
    · rw [decide_eq_false h3, if_neg Bool.false_ne_true]
      simp [h1, h3]
theorem ikey_eq {k l : IKey} (h1 : k.s = l.s) (h2 : k.n = l.n) (h3 : k.row = l.row) : k = l := by
  cases k
  cases l
  simp only at h1 h2 h3
  subst h1 h2 h3
  rfl
theorem ordK_zero (k l : IKey) : ordK k l = 0 ↔ k = l := by
  unfold ordK
  constructor
  · intro h
    by_cases h1 : k.s = l.s ∧ k.n = l.n
    · rw [if_pos h1] at h
      have := ordR_eq k.row l.row
      rw [decide_eq_true h, decide_eq_true_eq] at this
      exact ikey_eq h1.1 h1.2 this
    · rw [if_neg h1] at h
      split at h <;> omega
  · rintro rfl
    rw [if_pos ⟨rfl, rfl⟩]
    have := ordR_eq k.row k.row
    rw [decide_eq_true rfl] at this
    exact of_decide_eq_true this.symm
theorem str_tri (x y : Str) : x.cps.toList < y.cps.toList ∨ x = y ∨ y.cps.toList < x.cps.toList := by
  rcases Std.lt_trichotomy x.cps.toList y.cps.toList with h | h | h
  · exact .inl h
  · exact .inr (.inl (str_eq h))
  · exact .inr (.inr h)
theorem ordK_pos (k l : IKey) : 0 < ordK k l ↔ ordK l k < 0 := by
  constructor
  · intro h
    have h0 : ¬ ordK k l < 0 := by omega
    have h1 : k ≠ l := fun e => by rw [(ordK_zero k l).mpr e] at h; omega
    rw [ordK_neg] at h0 ⊢
    rcases Int.lt_trichotomy k.s l.s with hs | hs | hs
    · exact absurd (.inl hs) h0
    · rcases str_tri k.n l.n with hn | hn | hn
      · exact absurd (.inr (.inl ⟨hs, hn⟩)) h0
      · have hr : k.row ≠ l.row := fun e => h1 (ikey_eq hs hn e)
        have h2 : rLt k.row l.row = false := by
          cases e : rLt k.row l.row with
          | false => rfl
          | true => exact absurd (.inr (.inr ⟨hs, hn, e⟩)) h0
        have h3 := rLt_tri hr
        rw [h2] at h3
        exact .inr (.inr ⟨hs.symm, hn.symm, h3⟩)
      · exact .inr (.inl ⟨hs.symm, hn⟩)
    · exact .inl hs
  · intro h
    have h1 : k ≠ l := fun e => by rw [(ordK_zero l k).mpr e.symm] at h; omega
    have h2 : ordK k l ≠ 0 := fun e => h1 ((ordK_zero k l).mp e)
    have h3 : ¬ ordK k l < 0 := fun z => by
      rw [ordK_neg] at h z
      rcases h with h | ⟨h, g⟩ | ⟨h, g, f⟩
      · rcases z with z | ⟨z, _⟩ | ⟨z, _, _⟩ <;> omega
      · rcases z with z | ⟨z, y⟩ | ⟨z, y, _⟩
        · omega
        · exact List.lt_asymm g y
        · rw [y] at g; exact List.lt_irrefl _ g
      · rcases z with z | ⟨z, y⟩ | ⟨z, y, x⟩
        · omega
        · rw [g] at y; exact List.lt_irrefl _ y
        · have hr : k.row ≠ l.row := fun e => by rw [e, rLt_irr] at x; cases x
          rw [rLt_tri hr, x] at f
          cases f
    omega
theorem ordK_trans {a b c : IKey} (h1 : ordK a b < 0) (h2 : ordK b c < 0) : ordK a c < 0 := by
  rw [ordK_neg] at *
  rcases h1 with h1 | ⟨h1, g1⟩ | ⟨h1, g1, f1⟩
  · left
    rcases h2 with h2 | ⟨h2, _⟩ | ⟨h2, _, _⟩ <;> omega
  · rcases h2 with h2 | ⟨h2, g2⟩ | ⟨h2, g2, f2⟩
    · left; omega
    · exact .inr (.inl ⟨h1.trans h2, List.lt_trans g1 g2⟩)
    · exact .inr (.inl ⟨h1.trans h2, by rw [← g2]; exact g1⟩)
  · rcases h2 with h2 | ⟨h2, g2⟩ | ⟨h2, g2, f2⟩
    · left; omega
    · exact .inr (.inl ⟨h1.trans h2, by rw [g1]; exact g2⟩)
    · exact .inr (.inr ⟨h1.trans h2, g1.trans g2, rLt_trans _ _ _ f1 f2⟩)
abbrev iLt (a b : Item) : Prop := ordK (keyOf a) (keyOf b) < 0
theorem iLt_irr (a : Item) : ¬ iLt a a := fun h => by
  have := (ordK_zero (keyOf a) (keyOf a)).mpr rfl
  unfold iLt at h
  omega
theorem iLt_asymm {a b : Item} (h1 : iLt a b) (h2 : iLt b a) : a = b := absurd (ordK_trans h1 h2) (iLt_irr a)
/-! one by one -/
def memC (c : Ct) : Item → Prop
  | .relation n w => valG c.rel n = some w
  | .fact n row => row ∈ rowsOf c n
  | .rule n rel hd b => valG c.rul n = some ⟨rel, hd, b⟩
  | .denial n b => valG c.den n = some b
theorem rowsOf_put (c : Ct) (n m : Str) (rs : List (List Val)) : rowsOf (c.sFac (putG c.fac n rs)) m = if n = m then rs else rowsOf c m := by
  unfold rowsOf Ct.sFac
  dsimp only
  rw [valG_put]
  split <;> rfl
theorem key_ne {s s' : Int} {n n' : Str} {r r' : List Val} (h : s ≠ s') : (⟨s, n, r⟩ : IKey) ≠ ⟨s', n', r'⟩ := fun e => h (by injection e)
theorem memC_put (c : Ct) (x it : Item) : memC (c.put x) it ↔ it = x ∨ (memC c it ∧ keyOf it ≠ keyOf x) := by
  cases x with
  | relation n w =>
    cases it with
    | relation m v =>
      show valG (putG c.rel n w) m = some v ↔ _
      rw [valG_put]
      by_cases e : n = m
      · subst e
        rw [if_pos rfl]
        constructor
        · intro h; cases h; exact .inl rfl
        · rintro (h | ⟨_, h⟩)
          · cases h; rfl
          · exact absurd rfl h
      · rw [if_neg e]
        constructor
        · intro h
          exact .inr ⟨h, fun z => e (by injection z with _ z _; exact z.symm)⟩
        · rintro (h | ⟨h, _⟩)
          · cases h; exact absurd rfl e
          · exact h
    | fact m row => exact ⟨fun h => .inr ⟨h, key_ne (by decide)⟩, fun h => h.elim (fun z => nomatch z) (·.1)⟩
    | rule m rel hd b => exact ⟨fun h => .inr ⟨h, key_ne (by decide)⟩, fun h => h.elim (fun z => nomatch z) (·.1)⟩
    | denial m b => exact ⟨fun h => .inr ⟨h, key_ne (by decide)⟩, fun h => h.elim (fun z => nomatch z) (·.1)⟩
  | rule n rel hd b =>
    cases it with
    | rule m rel' hd' b' =>
      show valG (putG c.rul n ⟨rel, hd, b⟩) m = some ⟨rel', hd', b'⟩ ↔ _
      rw [valG_put]
      by_cases e : n = m
      · subst e
        rw [if_pos rfl]
        constructor
        · intro h; cases h; exact .inl rfl
        · rintro (h | ⟨_, h⟩)
          · cases h; rfl
          · exact absurd rfl h
      · rw [if_neg e]
        constructor
        · intro h
          exact .inr ⟨h, fun z => e (by injection z with _ z _; exact z.symm)⟩
        · rintro (h | ⟨h, _⟩)
          · cases h; exact absurd rfl e
          · exact h
    | fact m row => exact ⟨fun h => .inr ⟨h, key_ne (by decide)⟩, fun h => h.elim (fun z => nomatch z) (·.1)⟩
    | relation m w => exact ⟨fun h => .inr ⟨h, key_ne (by decide)⟩, fun h => h.elim (fun z => nomatch z) (·.1)⟩
    | denial m b => exact ⟨fun h => .inr ⟨h, key_ne (by decide)⟩, fun h => h.elim (fun z => nomatch z) (·.1)⟩
  | denial n b =>
    cases it with
    | denial m b' =>
      show valG (putG c.den n b) m = some b' ↔ _
      rw [valG_put]
      by_cases e : n = m
      · subst e
        rw [if_pos rfl]
        constructor
        · intro h; cases h; exact .inl rfl
        · rintro (h | ⟨_, h⟩)
          · cases h; rfl
          · exact absurd rfl h
      · rw [if_neg e]
        constructor
        · intro h
          exact .inr ⟨h, fun z => e (by injection z with _ z _; exact z.symm)⟩
        · rintro (h | ⟨h, _⟩)
          · cases h; exact absurd rfl e
          · exact h
    | fact m row => exact ⟨fun h => .inr ⟨h, key_ne (by decide)⟩, fun h => h.elim (fun z => nomatch z) (·.1)⟩
    | relation m w => exact ⟨fun h => .inr ⟨h, key_ne (by decide)⟩, fun h => h.elim (fun z => nomatch z) (·.1)⟩
    | rule m rel hd b => exact ⟨fun h => .inr ⟨h, key_ne (by decide)⟩, fun h => h.elim (fun z => nomatch z) (·.1)⟩
  | fact n row =>
    have other : ∀ it : Item, (∀ m r, it ≠ .fact m r) → (memC (c.put (.fact n row)) it ↔ memC c it) := fun it h => by
      have e : ((c.put (.fact n row)).rel, (c.put (.fact n row)).rul, (c.put (.fact n row)).den) = (c.rel, c.rul, c.den) := by
        show (Ct.rel (if row ∈ rowsOf c n then c else c.sFac _), Ct.rul (if row ∈ rowsOf c n then c else c.sFac _), Ct.den (if row ∈ rowsOf c n then c else c.sFac _)) = _
        split <;> rfl
      injection e with e1 e
      injection e with e2 e3
      cases it with
      | relation m v => unfold memC; rw [e1]
      | rule m _ _ _ => unfold memC; rw [e2]
      | denial m _ => unfold memC; rw [e3]
      | fact m r => exact absurd rfl (h m r)
    cases it with
    | relation m v => rw [other (.relation m v) (by intro _ _ z; cases z)]; exact ⟨fun h => .inr ⟨h, key_ne (by decide)⟩, fun h => h.elim (fun z => nomatch z) (·.1)⟩
    | rule m r1 r2 r3 => rw [other (.rule m r1 r2 r3) (by intro _ _ z; cases z)]; exact ⟨fun h => .inr ⟨h, key_ne (by decide)⟩, fun h => h.elim (fun z => nomatch z) (·.1)⟩
    | denial m r1 => rw [other (.denial m r1) (by intro _ _ z; cases z)]; exact ⟨fun h => .inr ⟨h, key_ne (by decide)⟩, fun h => h.elim (fun z => nomatch z) (·.1)⟩
    | fact m r =>
      have kk : keyOf (.fact m r) ≠ keyOf (.fact n row) ↔ ¬ (Item.fact m r = .fact n row) := not_congr ⟨fun z => by injection z with _ z1 z2; rw [z1, z2], fun z => by cases z; rfl⟩
      rw [kk]
      show r ∈ rowsOf (if row ∈ rowsOf c n then c else c.sFac (putG c.fac n (rowsOf c n ++ [row]))) m ↔ _ ∨ (r ∈ rowsOf c m ∧ _)
      by_cases hin : row ∈ rowsOf c n
      · rw [if_pos hin]
        by_cases e : Item.fact m r = .fact n row
        · cases e
          exact ⟨fun _ => .inl rfl, fun _ => hin⟩
        · exact ⟨fun h => .inr ⟨h, e⟩, fun h => h.elim (fun z => absurd z e) (·.1)⟩
      · rw [if_neg hin, rowsOf_put]
        by_cases en : n = m
        · subst en
          rw [if_pos rfl, List.mem_append, List.mem_singleton]
          by_cases e : r = row
          · subst e
            exact ⟨fun _ => .inl rfl, fun _ => .inr rfl⟩
          · have e' : ¬ Item.fact n r = .fact n row := fun z => e (by cases z; rfl)
            exact ⟨fun h => h.elim (fun z => .inr ⟨z, e'⟩) (fun z => absurd z e), fun h => h.elim (fun z => absurd z e') (fun z => .inl z.1)⟩
        · rw [if_neg en]
          have e' : ¬ Item.fact m r = .fact n row := fun z => en (by cases z; rfl)
          exact ⟨fun h => .inr ⟨h, e'⟩, fun h => h.elim (fun z => absurd z e') (·.1)⟩
theorem mem_placed (os : List Item) (x it : Item) : it ∈ placedI os x ↔ it = x ∨ (it ∈ os ∧ keyOf it ≠ keyOf x) := by
  unfold placedI
  rw [List.mem_append, List.mem_append, List.mem_filter, List.mem_filter, List.mem_singleton, decide_eq_true_eq, decide_eq_true_eq]
  have z : keyOf it ≠ keyOf x ↔ ordK (keyOf it) (keyOf x) < 0 ∨ 0 < ordK (keyOf it) (keyOf x) := by
    have z0 := ordK_zero (keyOf it) (keyOf x)
    constructor
    · intro h
      have : ordK (keyOf it) (keyOf x) ≠ 0 := fun e => h (z0.mp e)
      omega
    · intro h e
      have := z0.mpr e
      omega
  rw [z]
  constructor
  · rintro ((h | h) | h)
    · exact .inr ⟨h.1, .inl h.2⟩
    · exact .inl h
    · exact .inr ⟨h.1, .inr h.2⟩
  · rintro (h | ⟨h, g | g⟩)
    · exact .inl (.inr h)
    · exact .inl (.inl ⟨h, g⟩)
    · exact .inr ⟨h, g⟩
/-- backwards along a list -/
theorem snoc_ind {α : Type} {p : List α → Prop} (h0 : p []) (hs : ∀ xs x, p xs → p (xs ++ [x])) (xs : List α) : p xs := by
  have key : ∀ n (xs : List α), xs.length = n → p xs := by
    intro n
    induction n with
    | zero => intro xs h; rw [List.length_eq_zero_iff] at h; rw [h]; exact h0
    | succ n ih =>
      intro xs h
      have hne : xs ≠ [] := fun e => by rw [e] at h; cases h
      rw [← List.dropLast_concat_getLast hne]
      exact hs _ _ (ih _ (by rw [List.length_dropLast, h]; rfl))
  exact key _ xs rfl
theorem mem_orderd (its : List Item) : ∀ it, it ∈ orderd its ↔ memC (puts its) it := by
  refine snoc_ind (p := fun its => ∀ it, it ∈ orderd its ↔ memC (puts its) it) (fun it => ⟨fun h => (nomatch h), fun h => ?_⟩) (fun xs x ih it => ?_) its
  · cases it with
    | relation n w => cases h
    | fact n r => cases h
    | rule n a b c => cases h
    | denial n b => cases h
  · rw [orderd_snoc, puts_snoc, memC_put, mem_placed, ih]
theorem orderd_pw (its : List Item) : (orderd its).Pairwise iLt := by
  refine snoc_ind (p := fun its => (orderd its).Pairwise iLt) .nil (fun xs x ih => ?_) its
  rw [orderd_snoc]
  unfold placedI
  refine List.pairwise_append.mpr ⟨List.pairwise_append.mpr ⟨ih.filter _, List.pairwise_singleton .., fun a ha b hb => ?_⟩, ih.filter _, fun a ha b hb => ?_⟩
  · rw [List.mem_singleton.mp hb]
    exact of_decide_eq_true (List.mem_filter.mp ha).2
  · have hb := (ordK_pos _ _).mp (of_decide_eq_true (List.mem_filter.mp hb).2)
    rcases List.mem_append.mp ha with ha | ha
    · exact ordK_trans (of_decide_eq_true (List.mem_filter.mp ha).2) hb
    · rw [List.mem_singleton.mp ha]
      exact hb
theorem pw_nodup {os : List Item} (h : os.Pairwise iLt) : os.Nodup := h.imp fun {a b} hab e => by rw [e] at hab; exact iLt_irr b hab
theorem pw_eq {xs ys : List Item} (hx : xs.Pairwise iLt) (hy : ys.Pairwise iLt) (h : ∀ it, it ∈ xs ↔ it ∈ ys) : xs = ys :=
  List.Perm.eq_of_pairwise (le := iLt) (fun a b _ _ => iLt_asymm) hx hy ((List.perm_ext_iff_of_nodup (pw_nodup hx) (pw_nodup hy)).mpr h)
theorem orderd_id : ∀ {os : List Item}, os.Pairwise iLt → orderd os = os := fun {os} => snoc_ind (p := fun os => os.Pairwise iLt → orderd os = os) (fun _ => rfl) (fun xs x ih h => by
  obtain ⟨h1, _, h2⟩ := List.pairwise_append.mp h
  rw [orderd_snoc, ih h1]
  unfold placedI
  have e1 : xs.filter (fun y => decide (ordK (keyOf y) (keyOf x) < 0)) = xs := List.filter_eq_self.mpr fun y hy => decide_eq_true (h2 y hy x (List.mem_singleton.mpr rfl))
  have e2 : xs.filter (fun y => decide (0 < ordK (keyOf y) (keyOf x))) = [] := List.filter_eq_nil_iff.mpr fun y hy z => by
    have z := of_decide_eq_true z
    have := h2 y hy x (List.mem_singleton.mpr rfl)
    unfold iLt at this
    omega
  rw [e1, e2, List.append_nil]) os
end Ab

set_option Elab.async false
set_option linter.all false
set_option maxRecDepth 100000
set_option  maxHeartbeats 4000000
/-! RbPure2: a state of items is as the law's dicts of the ordered items say. -/
namespace Ab
open PySem PyProof.Rows L2
theorem putG_mem {κ β : Type} [DecidableEq κ] {l : List (κ × β)} {k : κ} {v : β} {p : κ × β} (h : p ∈ putG l k v) : p = (k, v) ∨ p ∈ l := by
  unfold putG at h
  split at h
  · obtain ⟨q, hq, e⟩ := List.mem_map.mp h
    split at e
    · rename_i e2
      rw [← e, e2]
      exact .inl rfl
    · rw [← e]
      exact .inr hq
  · rcases List.mem_append.mp h with h | h
    · exact .inr h
    · exact .inl (List.mem_singleton.mp h)
theorem valG_nodup {κ β : Type} [DecidableEq κ] {k : κ} {x : β} : ∀ {l : List (κ × β)}, (l.map (·.1)).Nodup → (k, x) ∈ l → valG l k = some x
  | [], _, h => nomatch h
  | (a, y) :: r, hn, h => by
    rw [List.map_cons, List.nodup_cons] at hn
    rw [valG_cons]
    rcases List.mem_cons.mp h with e | h
    · injection e with e1 e2
      rw [if_pos e1.symm, e2]
    · rw [if_neg fun e => hn.1 (by show a ∈ _; rw [e]; exact List.mem_map.mpr ⟨_, h, rfl⟩), valG_nodup hn.2 h]
theorem mem_keys {κ β : Type} [DecidableEq κ] {k : κ} {l : List (κ × β)} : k ∈ l.map (·.1) ↔ ∃ x, valG l k = some x := by
  have z := valG_isSome k l
  constructor
  · intro h
    rw [decide_eq_true h] at z
    cases hv : valG l k with
    | none => rw [hv] at z; cases z
    | some x => exact ⟨x, rfl⟩
  · rintro ⟨x, hx⟩
    rw [hx] at z
    exact of_decide_eq_true z.symm
theorem keys_eq_len {κ β : Type} [DecidableEq κ] {l m : List (κ × β)} (hl : (l.map (·.1)).Nodup) (hm : (m.map (·.1)).Nodup) (h : ∀ k, valG l k = valG m k) : l.length = m.length := by
  have := ((List.perm_ext_iff_of_nodup hl hm).mpr fun k => by rw [mem_keys, mem_keys, h k]).length_eq
  rw [List.length_map, List.length_map] at this
  exact this
/-- what stands in a state made of at most n items -/
structure CtN (c : Ct) (n : Nat) : Prop where
  nr : (c.rel.map (·.1)).Nodup
  nf : (c.fac.map (·.1)).Nodup
  nu : (c.rul.map (·.1)).Nodup
  nd : (c.den.map (·.1)).Nodup
  rel : ∀ p ∈ c.rel, goodS p.1 = true ∧ 0 ≤ p.2 ∧ p.2 ≤ 1000
  fac : ∀ p ∈ c.fac, goodS p.1 = true ∧ (∀ r ∈ p.2, okR r ∧ r ≠ []) ∧ p.2.length ≤ n ∧ p.2.Nodup
  rul : ∀ p ∈ c.rul, (Item.rule p.1 p.2.rel p.2.hd p.2.b).ok
  den : ∀ p ∈ c.den, (Item.denial p.1 p.2).ok
  sz : c.rel.length + c.fac.length + c.rul.length + c.den.length ≤ n
theorem CtN.rows {c : Ct} {n : Nat} (h : CtN c n) (z : Str) : (∀ r ∈ rowsOf c z, okR r ∧ r ≠ []) ∧ (rowsOf c z).length ≤ n ∧ (rowsOf c z).Nodup := by
  unfold rowsOf
  cases hv : valG c.fac z with
  | none => exact ⟨fun _ h => (nomatch h), Nat.zero_le _, List.nodup_nil⟩
  | some x => exact (h.fac _ (valG_mem hv)).2
theorem CtN.up {c : Ct} {n : Nat} (h : CtN c n) : CtN c (n + 1) := ⟨h.nr, h.nf, h.nu, h.nd, h.rel, fun p hp => by obtain ⟨h1, h2, h3, h4⟩ := h.fac p hp; exact ⟨h1, h2, Nat.le_succ_of_le h3, h4⟩, h.rul, h.den, Nat.le_succ_of_le h.sz⟩
theorem CtN.put {c : Ct} {n : Nat} {it : Item} (h : CtN c n) (hi : it.ok) : CtN (c.put it) (n + 1) := by
  have sz := h.sz
  have hu := h.up
  cases it with
  | relation m w =>
    have l1 := putG_len c.rel m w
    exact ⟨putG_nodup h.nr _ _, hu.nf, hu.nu, hu.nd, fun p hp => (putG_mem hp).elim (fun e => by rw [e]; exact hi) (h.rel p), hu.fac, hu.rul, hu.den, by show (putG c.rel m w).length + c.fac.length + c.rul.length + c.den.length ≤ _; omega⟩
  | rule m rel hd b =>
    have l1 := putG_len c.rul m ⟨rel, hd, b⟩
    exact ⟨hu.nr, hu.nf, putG_nodup h.nu _ _, hu.nd, hu.rel, hu.fac, fun p hp => (putG_mem hp).elim (fun e => by rw [e]; exact hi) (h.rul p), hu.den, by show c.rel.length + c.fac.length + (putG c.rul m ⟨rel, hd, b⟩).length + c.den.length ≤ _; omega⟩
  | denial m b =>
    have l1 := putG_len c.den m b
    exact ⟨hu.nr, hu.nf, hu.nu, putG_nodup h.nd _ _, hu.rel, hu.fac, hu.rul, fun p hp => (putG_mem hp).elim (fun e => by rw [e]; exact hi) (h.den p), by show c.rel.length + c.fac.length + c.rul.length + (putG c.den m b).length ≤ _; omega⟩
  | fact m row =>
    show CtN (if row ∈ rowsOf c m then c else c.sFac (putG c.fac m (rowsOf c m ++ [row]))) (n + 1)
    split
    · exact hu
    · rename_i hn
      have l1 := putG_len c.fac m (rowsOf c m ++ [row])
      obtain ⟨r1, r2, r3⟩ := h.rows m
      refine ⟨hu.nr, putG_nodup h.nf _ _, hu.nu, hu.nd, hu.rel, fun p hp => (putG_mem hp).elim (fun e => ?_) (hu.fac p), hu.rul, hu.den, by show c.rel.length + (putG c.fac m (rowsOf c m ++ [row])).length + c.rul.length + c.den.length ≤ _; omega⟩
      rw [e]
      refine ⟨hi.1, fun r hr => (List.mem_append.mp hr).elim (r1 r) fun z => by rw [List.mem_singleton.mp z]; exact hi.2, by rw [List.length_append]; exact Nat.succ_le_succ r2, List.nodup_append.mpr ⟨r3, List.pairwise_singleton .., fun a ha b hb e => hn (by rw [← List.mem_singleton.mp hb, ← e]; exact ha)⟩⟩
theorem puts_N (its : List Item) : (∀ it ∈ its, it.ok) → CtN (puts its) its.length := by
  refine snoc_ind (p := fun its => (∀ it ∈ its, it.ok) → CtN (puts its) its.length) (fun _ => ⟨List.nodup_nil, List.nodup_nil, List.nodup_nil, List.nodup_nil, fun _ h => (nomatch h), fun _ h => (nomatch h), fun _ h => (nomatch h), fun _ h => (nomatch h), Nat.le_refl _⟩) (fun xs x ih h => ?_) its
  rw [puts_snoc, List.length_append]
  exact (ih fun it hi => h it (List.mem_append_left _ hi)).put (h x (List.mem_append_right _ (List.mem_singleton.mpr rfl)))
theorem CtN.ok {c : Ct} {n : Nat} (h : CtN c n) (hn : n ≤ 1000) : CtOk c := by
  have sz := h.sz
  exact ⟨h.rel, fun p hp => by obtain ⟨h1, h2, h3, _⟩ := h.fac p hp; exact ⟨h1, h2, Nat.le_trans h3 hn⟩, h.rul, h.den, by omega, by omega, by omega, by omega⟩
theorem CtN.small {c : Ct} {n : Nat} (h : CtN c n) (hn : n < 64) : Ct.small c := by
  have sz := h.sz
  exact ⟨by omega, by omega, by omega⟩
theorem init_ok {its : List Item} (h : ∀ it ∈ its, it.ok) (hl : its.length < 64) : InitOk its := ⟨h, fun i hi => by
  have hN := puts_N (its.take i) fun it z => h it (List.mem_of_mem_take z)
  have e : (its.take i).length ≤ its.length := by rw [List.length_take]; omega
  exact ⟨hN.ok (by omega), hN.small (by omega)⟩⟩
/-! tidy -/
theorem valG_merge {β : Type} (f : Str → β) (z : Str) (ns : List Str) : valG (mergeG [] (ns.map fun n => (n, f n))) z = if z ∈ ns then some (f z) else none := by
  refine snoc_ind (p := fun ns => valG (mergeG [] (ns.map fun n => (n, f n))) z = if z ∈ ns then some (f z) else none) rfl (fun xs x ih => ?_) ns
  rw [List.map_append]
  show valG (mergeG [] (xs.map (fun n => (n, f n)) ++ [(x, f x)])) z = _
  rw [mergeG_snoc, valG_put, ih]
  by_cases e : x = z
  · subst e
    rw [if_pos rfl, if_pos (List.mem_append_right _ (List.mem_singleton.mpr rfl))]
  · rw [if_neg e]
    by_cases h : z ∈ xs
    · rw [if_pos h, if_pos (List.mem_append_left _ h)]
    · rw [if_neg h, if_neg fun hz => (List.mem_append.mp hz).elim h fun q => e (List.mem_singleton.mp q).symm]
theorem nodup_merge {κ β : Type} [DecidableEq κ] (ws l : List (κ × β)) (h : (l.map (·.1)).Nodup) : ((mergeG l ws).map (·.1)).Nodup := by
  refine snoc_ind (p := fun ws => ((mergeG l ws).map (·.1)).Nodup) h (fun xs x ih => ?_) ws
  rw [mergeG_snoc]
  exact putG_nodup ih _ _
theorem mem_names {c : Ct} {n : Str} : n ∈ c.names ↔ n ∈ c.rel.map (·.1) ∨ rowsOf c n ≠ [] := by
  unfold Ct.names
  rw [sortT_mem, List.mem_append, List.mem_filter, decide_eq_true_eq]
  constructor
  · rintro (h | ⟨_, h⟩)
    · exact .inl h
    · exact .inr fun e => by rw [e] at h; cases h
  · rintro (h | h)
    · exact .inl h
    · refine .inr ⟨?_, List.length_pos_iff.mpr h⟩
      refine mem_keys.mpr ?_
      unfold rowsOf at h
      cases hv : valG c.fac n with
      | none => rw [hv] at h; exact absurd rfl h
      | some x => exact ⟨x, rfl⟩
theorem valG_tidy (c : Ct) (n : Str) : valG c.tidy.fac n = if n ∈ c.names then some (sortR (rowsOf c n)) else none := valG_merge (fun n => sortR (rowsOf c n)) n c.names
theorem rows_tidy (c : Ct) (n : Str) : rowsOf c.tidy n = sortR (rowsOf c n) := by
  show (valG c.tidy.fac n).getD [] = _
  rw [valG_tidy]
  split
  · rfl
  · rename_i h
    have : rowsOf c n = [] := Classical.byContradiction fun z => h (mem_names.mpr (.inr z))
    rw [this]
    exact List.mergeSort_nil.symm
theorem memC_tidy (c : Ct) (it : Item) : memC c.tidy it ↔ memC c it := by
  cases it with
  | relation n w => exact Iff.rfl
  | rule n a b e => exact Iff.rfl
  | denial n b => exact Iff.rfl
  | fact n row =>
    show row ∈ rowsOf c.tidy n ↔ row ∈ rowsOf c n
    rw [rows_tidy, sortR_mem]
theorem names_len (c : Ct) : c.names.length ≤ c.rel.length + c.fac.length := by
  unfold Ct.names
  rw [sortT_len, List.length_append, List.length_map]
  have := List.length_filter_le (fun n => decide (0 < (rowsOf c n).length)) (c.fac.map (·.1))
  rw [List.length_map] at this
  omega
theorem CtN.tidy {c : Ct} {n : Nat} (h : CtN c n) : CtN c.tidy (2 * n) := by
  have l1 := names_len c
  have l2 := mergeG_len (c.names.map fun z => (z, sortR (rowsOf c z))) []
  rw [List.length_map, List.length_nil] at l2
  have sz := h.sz
  refine ⟨h.nr, nodup_merge _ _ List.nodup_nil, h.nu, h.nd, h.rel, fun p hp => ?_, h.rul, h.den, ?_⟩
  · have hv := valG_nodup (nodup_merge (c.names.map fun z => (z, sortR (rowsOf c z))) [] List.nodup_nil) hp
    have e := valG_tidy c p.1
    unfold Ct.tidy Ct.sFac at e
    dsimp only at e
    rw [e] at hv
    split at hv
    · rename_i hm
      injection hv with hv
      obtain ⟨r1, r2, r3⟩ := h.rows p.1
      refine ⟨?_, ?_, ?_, ?_⟩
      · rcases mem_names.mp hm with hm | hm
        · obtain ⟨x, hx⟩ := mem_keys.mp hm
          exact (h.rel _ (valG_mem hx)).1
        · unfold rowsOf at hm
          cases hv : valG c.fac p.1 with
          | none => rw [hv] at hm; exact absurd rfl hm
          | some x => exact (h.fac _ (valG_mem hv)).1
      · intro r hr
        rw [← hv] at hr
        exact r1 r (sortR_mem.mp hr)
      · rw [← hv, sortR_len]; omega
      · rw [← hv]
        exact (List.mergeSort_perm _ _).nodup_iff.mpr r3
    · cases hv
  · show c.rel.length + (mergeG [] (c.names.map fun z => (z, sortR (rowsOf c z)))).length + c.rul.length + c.den.length ≤ _
    omega
/-! items of a tidy state -/
theorem sortT_strict {ks : List Str} (h : ks.Nodup) : (sortT ks).Pairwise fun a b => a.cps.toList < b.cps.toList := by
  have h1 : (sortT ks).Nodup := (List.mergeSort_perm _ _).nodup_iff.mpr h
  exact List.Pairwise.imp₂ (fun a b h1 h2 => (leT_iff.mp h1).resolve_left h2) (sortT_pw ks) h1
theorem sortR_strict {rs : List (List Val)} (h : rs.Nodup) : (sortR rs).Pairwise fun a b => rLt a b = true := by
  have h1 : (sortR rs).Nodup := (List.mergeSort_perm _ _).nodup_iff.mpr h
  have h2 : (sortR rs).Pairwise fun a b => leK rowO a b = true := List.pairwise_mergeSort (le := leK rowO) (fun a b c h1 h2 => by
    unfold leK at *
    rw [Bool.not_eq_true'] at *
    cases h3 : rowO.blt c a with
    | false => rfl
    | true => rcases rowO.negTrans c b a h3 with z | z <;> simp_all) (fun a b => by
    unfold leK
    cases h1 : rowO.blt b a with
    | false => rfl
    | true =>
      cases h2 : rowO.blt a b with
      | false => rfl
      | true => 
        have := rowO.trans _ _ _ h1 h2
        rw [rowO.irrefl] at this
        cases this) rs
  refine List.Pairwise.imp₂ (fun a b h1 h2 => ?_) h2 h1
  have z := rLt_tri h2
  unfold leK at h1
  have h1' : (!rLt b a) = true := h1
  rw [z] at h1'
  simpa using h1'
theorem mem_items (c : Ct) (it : Item) : it ∈ c.items ↔ memC c it := by
  unfold Ct.items
  rw [List.mem_append, List.mem_append, List.mem_append, List.mem_map, List.mem_flatMap, List.mem_map, List.mem_map]
  have gone : ∀ n, n ∈ c.rul.map (·.1) → ∃ r, valG c.rul n = some r := fun n h => mem_keys.mp h
  constructor
  · rintro (((⟨n, hn, e⟩ | ⟨n, hn, e⟩) | ⟨n, hn, e⟩) | ⟨n, hn, e⟩)
    · obtain ⟨x, hx⟩ := mem_keys.mp (sortT_mem.mp hn)
      rw [hx] at e
      rw [← e]
      exact hx
    · obtain ⟨r, hr, e⟩ := List.mem_map.mp e
      rw [← e]
      exact hr
    · obtain ⟨x, hx⟩ := mem_keys.mp (sortT_mem.mp hn)
      rw [hx] at e
      rw [← e]
      exact hx
    · obtain ⟨x, hx⟩ := mem_keys.mp (sortT_mem.mp hn)
      rw [hx] at e
      rw [← e]
      exact hx
  · intro h
    cases it with
    | relation n w => exact .inl (.inl (.inl ⟨n, sortT_mem.mpr (mem_keys.mpr ⟨_, h⟩), by rw [show valG c.rel n = some w from h]; rfl⟩))
    | fact n row =>
      have h : row ∈ rowsOf c n := h
      refine .inl (.inl (.inr ⟨n, sortT_mem.mpr (mem_keys.mpr ?_), List.mem_map.mpr ⟨row, h, rfl⟩⟩))
      unfold rowsOf at h
      cases hv : valG c.fac n with
      | none => rw [hv] at h; cases h
      | some x => exact ⟨x, rfl⟩
    | rule n a b e => exact .inl (.inr ⟨n, sortT_mem.mpr (mem_keys.mpr ⟨_, h⟩), by rw [show valG c.rul n = some ⟨a, b, e⟩ from h]⟩)
    | denial n b => exact .inr ⟨n, sortT_mem.mpr (mem_keys.mpr ⟨_, h⟩), by rw [show valG c.den n = some b from h]; rfl⟩
theorem iLt_s {a b : Item} (h : (keyOf a).s < (keyOf b).s) : iLt a b := (ordK_neg _ _).mpr (.inl h)
theorem iLt_n {a b : Item} (h : (keyOf a).s = (keyOf b).s) (h2 : (keyOf a).n.cps.toList < (keyOf b).n.cps.toList) : iLt a b := (ordK_neg _ _).mpr (.inr (.inl ⟨h, h2⟩))
theorem key_rul {c : Ct} {n : Str} (h : n ∈ sortT (c.rul.map (·.1))) : keyOf (rulI c n) = ⟨2, n, []⟩ := by
  obtain ⟨x, hx⟩ := mem_keys.mp (sortT_mem.mp h)
  unfold rulI
  rw [hx]
  rfl
theorem items_is (c : Ct) : c.items = (sortT (c.rel.map (·.1))).map (fun n => .relation n ((valG c.rel n).getD 0)) ++ (sortT (c.fac.map (·.1))).flatMap (facI c) ++ (sortT (c.rul.map (·.1))).map (rulI c) ++ (sortT (c.den.map (·.1))).map (fun n => .denial n ((valG c.den n).getD [])) := rfl
theorem items_pw {c : Ct} (n1 : (c.rel.map (·.1)).Nodup) (n2 : (c.fac.map (·.1)).Nodup) (n3 : (c.rul.map (·.1)).Nodup) (n4 : (c.den.map (·.1)).Nodup) (hr : ∀ n, (rowsOf c n).Pairwise fun a b => rLt a b = true) : c.items.Pairwise iLt := by
  rw [items_is]
  refine List.pairwise_append.mpr ⟨List.pairwise_append.mpr ⟨List.pairwise_append.mpr ⟨?_, ?_, ?_⟩, ?_, ?_⟩, ?_, ?_⟩
  · refine List.pairwise_map.mpr (List.Pairwise.imp ?_ (sortT_strict n1))
    intro a b h
    exact iLt_n rfl h
  · refine List.pairwise_flatMap.mpr ⟨fun n _ => List.pairwise_map.mpr (List.Pairwise.imp ?_ (hr n)), List.Pairwise.imp ?_ (sortT_strict n2)⟩
    · intro a b h
      exact (ordK_neg _ _).mpr (.inr (.inr ⟨rfl, rfl, h⟩))
    · intro a b h x hx y hy
      obtain ⟨r, _, rfl⟩ := List.mem_map.mp hx
      obtain ⟨r', _, rfl⟩ := List.mem_map.mp hy
      exact iLt_n rfl h
  · intro x hx y hy
    obtain ⟨n, _, rfl⟩ := List.mem_map.mp hx
    obtain ⟨m, _, hy⟩ := List.mem_flatMap.mp hy
    obtain ⟨r, _, rfl⟩ := List.mem_map.mp hy
    exact iLt_s (by show (0 : Int) < 1; decide)
  · refine List.pairwise_map.mpr (List.Pairwise.imp_of_mem ?_ (sortT_strict n3))
    intro a b ha hb h
    refine iLt_n ?_ ?_
    · rw [key_rul ha, key_rul hb]
    · rw [key_rul ha, key_rul hb]
      exact h
  · intro x hx y hy
    obtain ⟨n, hn, rfl⟩ := List.mem_map.mp hy
    refine iLt_s ?_
    rw [key_rul hn]
    rcases List.mem_append.mp hx with hx | hx
    · obtain ⟨m, _, rfl⟩ := List.mem_map.mp hx
      show (0 : Int) < 2
      decide
    · obtain ⟨m, _, hx⟩ := List.mem_flatMap.mp hx
      obtain ⟨r, _, rfl⟩ := List.mem_map.mp hx
      show (1 : Int) < 2
      decide
  · refine List.pairwise_map.mpr (List.Pairwise.imp ?_ (sortT_strict n4))
    intro a b h
    exact iLt_n rfl h
  · intro x hx y hy
    obtain ⟨n, hn, rfl⟩ := List.mem_map.mp hy
    refine iLt_s ?_
    show _ < (3 : Int)
    rcases List.mem_append.mp hx with hx | hx
    · rcases List.mem_append.mp hx with hx | hx
      · obtain ⟨m, _, rfl⟩ := List.mem_map.mp hx
        show (0 : Int) < 3
        decide
      · obtain ⟨m, _, hx⟩ := List.mem_flatMap.mp hx
        obtain ⟨r, _, rfl⟩ := List.mem_map.mp hx
        show (1 : Int) < 3
        decide
    · obtain ⟨m, hm, rfl⟩ := List.mem_map.mp hx
      rw [key_rul hm]
      show (2 : Int) < 3
      decide
theorem items_orderd {its : List Item} (h : ∀ it ∈ its, it.ok) : (puts its).tidy.items = orderd its := by
  have hN := puts_N its h
  have hT := hN.tidy
  refine pw_eq (items_pw hT.nr hT.nf hT.nu hT.nd fun n => ?_) (orderd_pw its) fun it => ?_
  · rw [rows_tidy]
    exact sortR_strict (hN.rows n).2.2
  · rw [mem_items, memC_tidy, mem_orderd]
/-! the law's dicts -/
def hasKey (os : List Item) (x : Item) : Prop := ∀ y ∈ os, keyOf y ≠ keyOf x
theorem pw_snoc {xs : List Item} {x : Item} (h : (xs ++ [x]).Pairwise iLt) : xs.Pairwise iLt ∧ hasKey xs x := by
  obtain ⟨h1, _, h2⟩ := List.pairwise_append.mp h
  refine ⟨h1, fun y hy e => ?_⟩
  have := h2 y hy x (List.mem_singleton.mpr rfl)
  unfold iLt at this
  rw [(ordK_zero _ _).mpr e] at this
  exact absurd this (by decide)
theorem mem_snoc {α : Type} {xs : List α} {x y : α} : y ∈ xs ++ [x] ↔ y ∈ xs ∨ y = x := by rw [List.mem_append, List.mem_singleton]
theorem lR_iff (os : List Item) : os.Pairwise iLt → ∀ n v, valG (lR os) n = some v ↔ Item.relation n v ∈ os := by
  refine snoc_ind (p := fun os => os.Pairwise iLt → ∀ n v, valG (lR os) n = some v ↔ Item.relation n v ∈ os) (fun _ n v => ⟨fun h => (nomatch h), fun h => (nomatch h)⟩) (fun xs x ih h n v => ?_) os
  obtain ⟨h1, h2⟩ := pw_snoc h
  rw [show lR (xs ++ [x]) = stR (lR xs) x from fold_snoc _ _ _ _, mem_snoc, ← ih h1]
  cases x with
  | relation m w =>
    show valG (putG (lR xs) m w) n = some v ↔ _
    rw [valG_put]
    by_cases e : m = n
    · subst e
      rw [if_pos rfl]
      refine ⟨fun h => .inr (by cases h; rfl), fun h => h.elim (fun z => ?_) fun z => by cases z; rfl⟩
      exact absurd (by rfl) (h2 _ ((ih h1 m v).mp z))
    · rw [if_neg e]
      exact ⟨.inl, fun h => h.elim id fun z => absurd (by cases z; rfl) e⟩
  | fact m r => exact ⟨.inl, fun h => h.elim id fun z => nomatch z⟩
  | rule m r a b => exact ⟨.inl, fun h => h.elim id fun z => nomatch z⟩
  | denial m r => exact ⟨.inl, fun h => h.elim id fun z => nomatch z⟩
theorem lU_iff (os : List Item) : os.Pairwise iLt → ∀ n v, valG (lU os) n = some v ↔ Item.rule n v.rel v.hd v.b ∈ os := by
  refine snoc_ind (p := fun os => os.Pairwise iLt → ∀ n v, valG (lU os) n = some v ↔ Item.rule n v.rel v.hd v.b ∈ os) (fun _ n v => ⟨fun h => (nomatch h), fun h => (nomatch h)⟩) (fun xs x ih h n v => ?_) os
  obtain ⟨h1, h2⟩ := pw_snoc h
  rw [show lU (xs ++ [x]) = stU (lU xs) x from fold_snoc _ _ _ _, mem_snoc, ← ih h1]
  cases x with
  | rule m rel hd b =>
    show valG (putG (lU xs) m ⟨rel, hd, b⟩) n = some v ↔ _
    rw [valG_put]
    by_cases e : m = n
    · subst e
      rw [if_pos rfl]
      refine ⟨fun h => .inr (by cases h; rfl), fun h => h.elim (fun z => ?_) fun z => by obtain ⟨a, b, c⟩ := v; cases z; rfl⟩
      exact absurd (by rfl) (h2 _ ((ih h1 m v).mp z))
    · rw [if_neg e]
      exact ⟨.inl, fun h => h.elim id fun z => absurd (by cases z; rfl) e⟩
  | fact m r => exact ⟨.inl, fun h => h.elim id fun z => nomatch z⟩
  | relation m r => exact ⟨.inl, fun h => h.elim id fun z => nomatch z⟩
  | denial m r => exact ⟨.inl, fun h => h.elim id fun z => nomatch z⟩
theorem lD_iff (os : List Item) : os.Pairwise iLt → ∀ n v, valG (lD os) n = some v ↔ Item.denial n v ∈ os := by
  refine snoc_ind (p := fun os => os.Pairwise iLt → ∀ n v, valG (lD os) n = some v ↔ Item.denial n v ∈ os) (fun _ n v => ⟨fun h => (nomatch h), fun h => (nomatch h)⟩) (fun xs x ih h n v => ?_) os
  obtain ⟨h1, h2⟩ := pw_snoc h
  rw [show lD (xs ++ [x]) = stD (lD xs) x from fold_snoc _ _ _ _, mem_snoc, ← ih h1]
  cases x with
  | denial m w =>
    show valG (putG (lD xs) m w) n = some v ↔ _
    rw [valG_put]
    by_cases e : m = n
    · subst e
      rw [if_pos rfl]
      refine ⟨fun h => .inr (by cases h; rfl), fun h => h.elim (fun z => ?_) fun z => by cases z; rfl⟩
      exact absurd (by rfl) (h2 _ ((ih h1 m v).mp z))
    · rw [if_neg e]
      exact ⟨.inl, fun h => h.elim id fun z => absurd (by cases z; rfl) e⟩
  | fact m r => exact ⟨.inl, fun h => h.elim id fun z => nomatch z⟩
  | rule m r a b => exact ⟨.inl, fun h => h.elim id fun z => nomatch z⟩
  | relation m r => exact ⟨.inl, fun h => h.elim id fun z => nomatch z⟩
def rowIn (n : Str) : Item → Option (List Val)
  | .fact m r => if m = n then some r else none
  | _ => none
def rowsIn (os : List Item) (n : Str) : List (List Val) := os.filterMap (rowIn n)
theorem mem_rowsIn {os : List Item} {n : Str} {r : List Val} : r ∈ rowsIn os n ↔ Item.fact n r ∈ os := by
  unfold rowsIn
  rw [List.mem_filterMap]
  constructor
  · rintro ⟨x, hx, e⟩
    cases x with
    | fact m r' =>
      unfold rowIn at e
      dsimp only at e
      split at e
      · rename_i e2
        injection e with e
        rw [← e, ← e2]
        exact hx
      · cases e
    | _ => cases e
  · intro h
    exact ⟨_, h, by unfold rowIn; dsimp only; rw [if_pos rfl]⟩
theorem rowsIn_pw {os : List Item} (h : os.Pairwise iLt) (n : Str) : (rowsIn os n).Pairwise fun a b => rLt a b = true := by
  unfold rowsIn
  refine List.pairwise_filterMap.mpr (h.imp fun {a b} hab x hx y hy => ?_)
  cases a with
  | fact m r =>
    cases b with
    | fact m' r' =>
      unfold rowIn at hx hy
      dsimp only at hx hy
      split at hx
      · split at hy
        · rename_i e1 e2
          subst e1 e2
          injection hx with hx
          injection hy with hy
          subst hx hy
          rcases (ordK_neg _ _).mp hab with h | ⟨_, h⟩ | ⟨_, _, h⟩
          · exact absurd h (by show ¬ (1 : Int) < 1; decide)
          · exact absurd h (List.lt_irrefl _)
          · exact h
        · cases hy
      · cases hx
    | _ => cases hy
  | _ => cases hx
theorem lF1_is (os : List Item) (n : Str) : valG (lF1 os) n = if (os.any fun x => match x with | .relation m _ => decide (m = n) | _ => false) = true then some [] else none := by
  refine snoc_ind (p := fun os => valG (lF1 os) n = if (os.any fun x => match x with | .relation m _ => decide (m = n) | _ => false) = true then some [] else none) rfl (fun xs x ih => ?_) os
  rw [show lF1 (xs ++ [x]) = stF1 (lF1 xs) x from fold_snoc _ _ _ _, List.any_append]
  cases x with
  | relation m w =>
    show valG (putG (lF1 xs) m []) n = _
    rw [valG_put, ih]
    by_cases e : m = n
    · subst e
      rw [if_pos rfl]
      simp
    · rw [if_neg e]
      simp [e]
  | fact m w => rw [show stF1 (lF1 xs) (.fact m w) = lF1 xs from rfl]; simpa using ih
  | rule m w a b => rw [show stF1 (lF1 xs) (.rule m w a b) = lF1 xs from rfl]; simpa using ih
  | denial m w => rw [show stF1 (lF1 xs) (.denial m w) = lF1 xs from rfl]; simpa using ih
theorem lF2_is (F : List (Str × List (List Val))) (n : Str) (hF : (valG F n).getD [] = []) (os : List Item) : valG (lF2 F os) n = if rowsIn os n = [] then valG F n else some (rowsIn os n) := by
  refine snoc_ind (p := fun os => valG (lF2 F os) n = if rowsIn os n = [] then valG F n else some (rowsIn os n)) rfl (fun xs x ih => ?_) os
  have eR : rowsIn (xs ++ [x]) n = rowsIn xs n ++ (rowIn n x).toList := by
    unfold rowsIn
    rw [List.filterMap_append, List.filterMap_cons]
    cases rowIn n x <;> rfl
  rw [show lF2 F (xs ++ [x]) = stF2 (lF2 F xs) x from fold_snoc _ _ _ _, eR]
  cases x with
  | fact m r =>
    by_cases e : m = n
    · subst e
      rw [show (rowIn m (.fact m r)).toList = [r] by unfold rowIn; simp]
      show valG (putG (lF2 F xs) m ((valG (lF2 F xs) m).getD [] ++ [r])) m = _
      rw [valG_put, if_pos rfl, if_neg (by simp), ih]
      by_cases h : rowsIn xs m = []
      · rw [if_pos h, h, hF]
      · rw [if_neg h]
        rfl
    · rw [show (rowIn n (.fact m r)).toList = [] by unfold rowIn; simp [e], List.append_nil]
      show valG (putG (lF2 F xs) m ((valG (lF2 F xs) m).getD [] ++ [r])) n = _
      rw [valG_put, if_neg e, ih]
  | relation m w => rw [show (rowIn n (.relation m w)).toList = [] from rfl, List.append_nil]; exact ih
  | rule m w a b => rw [show (rowIn n (.rule m w a b)).toList = [] from rfl, List.append_nil]; exact ih
  | denial m w => rw [show (rowIn n (.denial m w)).toList = [] from rfl, List.append_nil]; exact ih
theorem fold_nodup {κ β : Type} [DecidableEq κ] (f : List (κ × β) → Item → List (κ × β)) (hf : ∀ d x, f d x = d ∨ ∃ k v, f d x = putG d k v) (os : List Item) (d : List (κ × β)) (h : (d.map (·.1)).Nodup) : ((os.foldl f d).map (·.1)).Nodup := by
  refine snoc_ind (p := fun os => ((os.foldl f d).map (·.1)).Nodup) h (fun xs x ih => ?_) os
  rw [fold_snoc]
  rcases hf (xs.foldl f d) x with e | ⟨k, v, e⟩
  · rw [e]; exact ih
  · rw [e]; exact putG_nodup ih _ _
theorem opt_ext {α : Type} {a b : Option α} (h : ∀ v, a = some v ↔ b = some v) : a = b := by
  cases a with
  | none =>
    cases b with
    | none => rfl
    | some y => exact absurd ((h y).mpr rfl) (by simp)
  | some x => exact ((h x).mp rfl).symm
theorem like_of {its : List Item} (h : ∀ it ∈ its, it.ok) : Like (puts its).tidy (orderd its) := by
  have hN := puts_N its h
  have hT := hN.tidy
  have hp := orderd_pw its
  have mem : ∀ it, it ∈ orderd its ↔ memC (puts its).tidy it := fun it => by rw [memC_tidy, mem_orderd]
  have hit := items_orderd h
  have hrow : ∀ n, rowsOf (puts its).tidy n = rowsIn (orderd its) n := fun n => by
    have h1 : (rowsOf (puts its).tidy n).Pairwise fun a b => rLt a b = true := by rw [rows_tidy]; exact sortR_strict (hN.rows n).2.2
    have h2 := rowsIn_pw hp n
    have nd : ∀ {l : List (List Val)}, (l.Pairwise fun a b => rLt a b = true) → l.Nodup := fun h => h.imp fun {a b} z e => by rw [e, rLt_irr] at z; cases z
    refine List.Perm.eq_of_pairwise (le := fun a b => rLt a b = true) (fun a b _ _ z1 z2 => ?_) h1 h2 ((List.perm_ext_iff_of_nodup (nd h1) (nd h2)).mpr fun r => ?_)
    · have := rLt_trans _ _ _ z1 z2
      rw [rLt_irr] at this
      cases this
    · rw [mem_rowsIn, mem]
      exact Iff.rfl
  have vr : ∀ n, valG (puts its).tidy.rel n = valG (lR (orderd its)) n := fun n => opt_ext fun v => by rw [lR_iff _ hp, mem]; exact Iff.rfl
  have vu : ∀ n, valG (puts its).tidy.rul n = valG (lU (orderd its)) n := fun n => opt_ext fun v => by rw [lU_iff _ hp, mem]; exact Iff.rfl
  have vd : ∀ n, valG (puts its).tidy.den n = valG (lD (orderd its)) n := fun n => opt_ext fun v => by rw [lD_iff _ hp, mem]; exact Iff.rfl
  have vf : ∀ n, valG (puts its).tidy.fac n = valG (lF2 (lF1 (orderd its)) (orderd its)) n := fun n => by
    have e1 := lF1_is (orderd its) n
    rw [lF2_is _ _ (by rw [e1]; split <;> rfl), valG_tidy, e1, ← rows_tidy, hrow]
    by_cases h1 : rowsIn (orderd its) n = []
    · rw [if_pos h1, h1]
      have e2 : n ∈ (puts its).names ↔ ((orderd its).any fun x => match x with | .relation m _ => decide (m = n) | _ => false) = true := by
        rw [mem_names, List.any_eq_true]
        have h3 : rowsOf (puts its) n = [] := by
          have := hrow n
          rw [rows_tidy, h1] at this
          have z := sortR_len (rowsOf (puts its) n)
          rw [this] at z
          exact List.length_eq_zero_iff.mp z.symm
        rw [h3]
        constructor
        · rintro (h4 | h4)
          · obtain ⟨w, hw⟩ := mem_keys.mp h4
            exact ⟨.relation n w, (mem _).mpr hw, decide_eq_true rfl⟩
          · exact absurd rfl h4
        · rintro ⟨x, hx, e⟩
          cases x with
          | relation m w =>
            have e := of_decide_eq_true e
            subst e
            exact .inl (mem_keys.mpr ⟨w, (mem _).mp hx⟩)
          | _ => cases e
      by_cases h4 : n ∈ (puts its).names
      · rw [if_pos h4, if_pos (e2.mp h4)]
      · rw [if_neg h4, if_neg fun z => h4 (e2.mpr z)]
    · rw [if_neg h1, if_pos]
      refine mem_names.mpr (.inr fun z => h1 ?_)
      rw [← hrow, rows_tidy, z]
      exact List.mergeSort_nil
  refine ⟨hit, ⟨keys_eq_len hT.nr (fold_nodup _ (fun d x => ?_) _ _ List.nodup_nil) vr, fun n v hv => by rw [vr]; exact hv⟩, ⟨keys_eq_len hT.nf (fold_nodup _ (fun d x => ?_) _ _ (fold_nodup _ (fun d x => ?_) _ _ List.nodup_nil)) vf, fun n v hv => by rw [vf]; exact hv⟩, ⟨keys_eq_len hT.nu (fold_nodup _ (fun d x => ?_) _ _ List.nodup_nil) vu, fun n v hv => by rw [vu]; exact hv⟩, ⟨keys_eq_len hT.nd (fold_nodup _ (fun d x => ?_) _ _ List.nodup_nil) vd, fun n v hv => by rw [vd]; exact hv⟩⟩
  · cases x with
    | relation m w => exact .inr ⟨_, _, rfl⟩
    | _ => exact .inl rfl
  · cases x with
    | fact m w => exact .inr ⟨_, _, rfl⟩
    | _ => exact .inl rfl
  · cases x with
    | relation m w => exact .inr ⟨_, _, rfl⟩
    | _ => exact .inl rfl
  · cases x with
    | rule m w => exact .inr ⟨_, _, rfl⟩
    | _ => exact .inl rfl
  · cases x with
    | denial m w => exact .inr ⟨_, _, rfl⟩
    | _ => exact .inl rfl
theorem tidy_ok {its : List Item} (h : ∀ it ∈ its, it.ok) (hl : its.length < 32) : CtOk (puts its).tidy ∧ Ct.small (puts its).tidy := by
  have hT := (puts_N its h).tidy
  exact ⟨hT.ok (by omega), hT.small (by omega)⟩
end Ab

set_option Elab.async false
set_option linter.all false
set_option maxRecDepth 100000
set_option  maxHeartbeats 4000000
/-! RbSame: data of numbers, texts and tuples, compared. -/
namespace Ab
open PySem PyProof.Rows L2
mutual
def tpd : PyData → Bool
  | .int _ => true
  | .str _ => true
  | .tuple xs => tpds xs
  | _ => false
def tpds : List PyData → Bool
  | [] => true
  | x :: xs => tpd x && tpds xs
end
theorem tpds_mem : ∀ {xs : List PyData} {x : PyData}, tpds xs = true → x ∈ xs → tpd x = true
  | [], _, _, h => nomatch h
  | y :: ys, x, h, hx => by
    rw [tpds, Bool.and_eq_true] at h
    rcases List.mem_cons.mp hx with e | hx
    · rw [e]; exact h.1
    · exact tpds_mem h.2 hx
theorem tpd_mem {xs : List PyData} {x : PyData} (h : tpd (.tuple xs) = true) (hx : x ∈ xs) : tpd x = true := tpds_mem (by rw [tpd] at h; exact h) hx
theorem tpds_of {xs : List PyData} (h : ∀ x ∈ xs, tpd x = true) : tpds xs = true := by
  induction xs with
  | nil => rfl
  | cons x xs ih => rw [tpds, h x (List.mem_cons_self ..), ih fun y hy => h y (List.mem_cons_of_mem _ hy)]; rfl
theorem tpd_of {xs : List PyData} (h : ∀ x ∈ xs, tpd x = true) : tpd (.tuple xs) = true := by rw [tpd]; exact tpds_of h
theorem eqvs_len : ∀ {xs ys : List PyData}, xs.length ≠ ys.length → PyData.eqvAll xs ys = false
  | [], [], h => absurd rfl h
  | [], _ :: _, _ => rfl
  | _ :: _, [], _ => rfl
  | x :: xs, y :: ys, h => by rw [PyData.eqvAll, eqvs_len fun e => h (by rw [List.length_cons, List.length_cons, e]), Bool.and_false]
theorem eqvs_at : ∀ {xs ys : List PyData} {i : Nat}, xs.length = ys.length → i < xs.length → PyData.eqv (xs.getD i .none) (ys.getD i .none) = false → PyData.eqvAll xs ys = false
  | [], [], _, _, h, _ => absurd h (Nat.not_lt_zero _)
  | [], _ :: _, _, _, _, _ => rfl
  | _ :: _, [], _, _, _, _ => rfl
  | x :: xs, y :: ys, 0, _, _, h => by rw [PyData.eqvAll]; rw [show PyData.eqv x y = false from h]; rfl
  | x :: xs, y :: ys, i + 1, hl, hi, h => by rw [PyData.eqvAll, eqvs_at (i := i) (by simpa using hl) (by simpa using hi) h, Bool.and_false]
theorem eqvs_all : ∀ {xs ys : List PyData}, xs.length = ys.length → (∀ i, i < xs.length → PyData.eqv (xs.getD i .none) (ys.getD i .none) = true) → PyData.eqvAll xs ys = true
  | [], [], _, _ => rfl
  | [], _ :: _, h, _ => nomatch h
  | _ :: _, [], h, _ => nomatch h
  | x :: xs, y :: ys, hl, h => by
    rw [PyData.eqvAll, eqvs_all (by simpa using hl) fun i hi => h (i + 1) (by simpa using hi)]
    rw [show PyData.eqv x y = true from h 0 (Nat.succ_pos _)]
    rfl
theorem eqvAll_len {xs ys : List PyData} (h : xs.length ≠ ys.length) : PyData.eqv (.tuple xs) (.tuple ys) = false := by rw [PyData.eqv]; exact eqvs_len h
theorem eqvAll_at {xs ys : List PyData} {i : Nat} (h : xs.length = ys.length) (hi : i < xs.length) (e : PyData.eqv (xs.getD i .none) (ys.getD i .none) = false) : PyData.eqv (.tuple xs) (.tuple ys) = false := by rw [PyData.eqv]; exact eqvs_at h hi e
theorem eqvAll_all {xs ys : List PyData} (h : xs.length = ys.length) (e : ∀ i, i < xs.length → PyData.eqv (xs.getD i .none) (ys.getD i .none) = true) : PyData.eqv (.tuple xs) (.tuple ys) = true := by rw [PyData.eqv]; exact eqvs_all h e
def A_sameE (n : Nat) : ASp := fun ss M Q => ∃ x y : PyData, ss = [.dat x, .dat y] ∧ okD n x = true ∧ okD n y = true ∧ tpd x = true ∧ tpd y = true ∧ Q (.bl (PyData.eqv x y)) M
def A_sameEN : Nat → ASp
  | 0 => fun _ _ _ => False
  | n + 1 => A_sameE n
theorem tpd_val : ∀ v : Val, tpd v.enc = true
  | .int _ => rfl
  | .str _ => rfl
theorem tpd_row (r : List Val) : tpd (encR r) = true := tpd_of fun x hx => by
  obtain ⟨v, _, rfl⟩ := List.mem_map.mp hx
  exact tpd_val v
theorem tpds_cons {x : PyData} {xs : List PyData} (h1 : tpd x = true) (h2 : tpds xs = true) : tpds (x :: xs) = true := by rw [tpds, h1, h2]; rfl
theorem tpd_T {xs : List PyData} (h : tpds xs = true) : tpd (.tuple xs) = true := by rw [tpd]; exact h
theorem tpd_term (t : Term) : tpd t.enc = true := by
  cases t with
  | any => rfl
  | value v => exact tpd_T (tpds_cons rfl (tpds_cons (tpd_val v) rfl))
  | «variable» n => rfl
theorem tpd_terms (ts : List Term) : tpd (encT ts) = true := tpd_of fun x hx => by
  obtain ⟨v, _, rfl⟩ := List.mem_map.mp hx
  exact tpd_term v
theorem tpd_and {a b : Bool} (h1 : a = true) (h2 : b = true) : (a && b) = true := by rw [h1, h2]; rfl
theorem tpd_lit (l : Lit) : tpd l.enc = true := by
  cases l with
  | fact r ts => exact tpd_T (tpds_cons rfl (tpds_cons rfl (tpds_cons (tpd_terms ts) rfl)))
  | neg r ts => exact tpd_T (tpds_cons rfl (tpds_cons rfl (tpds_cons (tpd_terms ts) rfl)))
  | compare o s t => exact tpd_T (tpds_cons rfl (tpds_cons rfl (tpds_cons (tpd_term s) (tpds_cons (tpd_term t) rfl))))
  | is x o s t => exact tpd_T (tpds_cons rfl (tpds_cons rfl (tpds_cons rfl (tpds_cons (tpd_term s) (tpds_cons (tpd_term t) rfl)))))
  | count x r ts => exact tpd_T (tpds_cons rfl (tpds_cons rfl (tpds_cons rfl (tpds_cons (tpd_terms ts) rfl))))
theorem tpd_body (b : List Lit) : tpd (encB b) = true := tpd_of fun x hx => by
  obtain ⟨v, _, rfl⟩ := List.mem_map.mp hx
  exact tpd_lit v
theorem tpd_item (it : Item) : tpd it.enc = true := by
  cases it with
  | relation n w => rfl
  | fact n r => exact tpd_T (tpds_cons rfl (tpds_cons rfl (tpds_cons (tpd_row r) rfl)))
  | rule n r ts b => exact tpd_T (tpds_cons rfl (tpds_cons rfl (tpds_cons rfl (tpds_cons (tpd_terms ts) (tpds_cons (tpd_body b) rfl)))))
  | denial n b => exact tpd_T (tpds_cons rfl (tpds_cons rfl (tpds_cons (tpd_body b) rfl)))
theorem eqv_fact (it : Item) (n : Str) (row : List Val) : PyData.eqv it.enc (.tuple [.str "fact", .str n, encR row]) = decide (it = .fact n row) := by
  cases it with
  | fact m r =>
    show PyData.eqv (.tuple [.str "fact", .str m, encR r]) _ = _
    have e1 : PyData.eqv (.str "fact") (.str "fact") = true := by rw [eqv_str]; rfl
    rw [PyData.eqv, PyData.eqvAll, PyData.eqvAll, PyData.eqvAll, PyData.eqvAll, e1, eqv_str, eqv_row]
    by_cases h1 : m = n <;> by_cases h2 : r = row <;> simp [h1, h2]
  | relation m r =>
    have e1 : PyData.eqv (.str "relation") (.str "fact") = false := by rw [eqv_str]; rfl
    show PyData.eqv (.tuple (.str "relation" :: _)) _ = _
    rw [PyData.eqv, PyData.eqvAll, e1]
    rfl
  | rule m a b c =>
    have e1 : PyData.eqv (.str "rule") (.str "fact") = false := by rw [eqv_str]; rfl
    show PyData.eqv (.tuple (.str "rule" :: _)) _ = _
    rw [PyData.eqv, PyData.eqvAll, e1]
    rfl
  | denial m r =>
    have e1 : PyData.eqv (.str "denial") (.str "fact") = false := by rw [eqv_str]; rfl
    show PyData.eqv (.tuple (.str "denial" :: _)) _ = _
    rw [PyData.eqv, PyData.eqvAll, e1]
    rfl
end Ab

set_option Elab.async false
set_option linter.all false
set_option maxRecDepth 100000
set_option  maxHeartbeats 4000000
/-! RbCh: changes of states, plain. -/
namespace Ab
open PySem PyProof.Rows L2
instance ikeyDec : DecidableEq IKey := fun k l => if h : k.s = l.s ∧ k.n = l.n ∧ k.row = l.row then .isTrue (ikey_eq h.1 h.2.1 h.2.2) else .isFalse fun e => h (by rw [e]; exact ⟨rfl, rfl, rfl⟩)
inductive Chg where
  | comes (it : Item)
  | goes (it : Item)
def Chg.enc : Chg → PyData
  | .comes it => .tuple [.str "comes", it.enc]
  | .goes it => .tuple [.str "goes", (keyOf it).enc]
def Chg.it : Chg → Item
  | .comes it => it
  | .goes it => it
def Chg.ok (c : Chg) : Prop := c.it.ok
theorem Chg.okD {c : Chg} (h : c.ok) : okD 8 c.enc = true := by
  cases c with
  | comes it => exact okD_mkT (by simp) (okAll_cons (okD_str (by decide +kernel)) (okAll_cons (Item.okD (n := 2) h) rfl))
  | goes it => exact okD_mkT (by simp) (okAll_cons (okD_str (by decide +kernel)) (okAll_cons (okD_mkT (by simp) (okAll_cons okD_int (okAll_cons (okD_good (key_ok h).1) (okAll_cons (okR_okD (n := 5) (key_ok h).2) rfl)))) rfl))
theorem dropG_val {κ β : Type} [DecidableEq κ] (k g : κ) : ∀ l : List (κ × β), valG (dropG l k) g = if k = g then none else valG l g
  | [] => by unfold dropG; simp [valG]
  | (a, x) :: r => by
    have ih := dropG_val k g r
    unfold dropG at ih ⊢
    rw [List.filter_cons, valG_cons]
    by_cases e : a = k
    · rw [if_neg (by simp [e]), ih]
      by_cases e2 : k = g
      · rw [if_pos e2, if_pos e2]
      · rw [if_neg e2, if_neg e2, if_neg fun z => e2 (e.symm.trans z)]
    · rw [if_pos (by simp [e]), valG_cons, ih]
      by_cases e2 : a = g
      · rw [if_pos e2, if_pos e2, if_neg fun z => e (e2.trans z.symm)]
      · rw [if_neg e2, if_neg e2]
theorem dropG_sub {κ β : Type} [DecidableEq κ] (l : List (κ × β)) (k : κ) : (dropG l k).Sublist l := List.filter_sublist
theorem dropG_nodup {κ β : Type} [DecidableEq κ] {l : List (κ × β)} (h : (l.map (·.1)).Nodup) (k : κ) : ((dropG l k).map (·.1)).Nodup := h.sublist ((dropG_sub l k).map _)
def Ct.take (c : Ct) (k : IKey) : Ct :=
  if k.s = 0 then c.sRel (dropG c.rel k.n) else if k.s = 2 then c.sRul (dropG c.rul k.n) else if k.s = 3 then c.sDen (dropG c.den k.n)
  else if k.row ∈ rowsOf c k.n then c.sFac (putG c.fac k.n ((rowsOf c k.n).erase k.row)) else c
theorem memC_take {c : Ct} {x : Item} (hn : (rowsOf c (keyOf x).n).Nodup) (it : Item) : memC (c.take (keyOf x)) it ↔ memC c it ∧ keyOf it ≠ keyOf x := by
  cases x with
  | relation n w =>
    cases it with
    | relation m v =>
      show valG (dropG c.rel n) m = some v ↔ valG c.rel m = some v ∧ _
      rw [dropG_val]
      by_cases e : n = m
      · subst e
        rw [if_pos rfl]
        exact ⟨fun h => (nomatch h), fun h => absurd rfl h.2⟩
      · rw [if_neg e]
        exact ⟨fun h => ⟨h, fun z => e (by injection z with _ z _; exact z.symm)⟩, fun h => h.1⟩
    | fact m row => exact ⟨fun h => ⟨h, key_ne (by decide)⟩, fun h => h.1⟩
    | rule m a b d => exact ⟨fun h => ⟨h, key_ne (by decide)⟩, fun h => h.1⟩
    | denial m b => exact ⟨fun h => ⟨h, key_ne (by decide)⟩, fun h => h.1⟩
  | rule n a1 a2 a3 =>
    cases it with
    | rule m a b d =>
      show valG (dropG c.rul n) m = some ⟨a, b, d⟩ ↔ valG c.rul m = some ⟨a, b, d⟩ ∧ _
      rw [dropG_val]
      by_cases e : n = m
      · subst e
        rw [if_pos rfl]
        exact ⟨fun h => (nomatch h), fun h => absurd rfl h.2⟩
      · rw [if_neg e]
        exact ⟨fun h => ⟨h, fun z => e (by injection z with _ z _; exact z.symm)⟩, fun h => h.1⟩
    | fact m row => exact ⟨fun h => ⟨h, key_ne (by decide)⟩, fun h => h.1⟩
    | relation m a => exact ⟨fun h => ⟨h, key_ne (by decide)⟩, fun h => h.1⟩
    | denial m b => exact ⟨fun h => ⟨h, key_ne (by decide)⟩, fun h => h.1⟩
  | denial n a1 =>
    cases it with
    | denial m b =>
      show valG (dropG c.den n) m = some b ↔ valG c.den m = some b ∧ _
      rw [dropG_val]
      by_cases e : n = m
      · subst e
        rw [if_pos rfl]
        exact ⟨fun h => (nomatch h), fun h => absurd rfl h.2⟩
      · rw [if_neg e]
        exact ⟨fun h => ⟨h, fun z => e (by injection z with _ z _; exact z.symm)⟩, fun h => h.1⟩
    | fact m row => exact ⟨fun h => ⟨h, key_ne (by decide)⟩, fun h => h.1⟩
    | relation m a => exact ⟨fun h => ⟨h, key_ne (by decide)⟩, fun h => h.1⟩
    | rule m a b d => exact ⟨fun h => ⟨h, key_ne (by decide)⟩, fun h => h.1⟩
  | fact n row =>
    have e0 : c.take (keyOf (.fact n row)) = if row ∈ rowsOf c n then c.sFac (putG c.fac n ((rowsOf c n).erase row)) else c := rfl
    rw [e0]
    have hn : (rowsOf c n).Nodup := hn
    by_cases hin : row ∈ rowsOf c n
    · rw [if_pos hin]
      cases it with
      | fact m r =>
        show r ∈ rowsOf (c.sFac (putG c.fac n ((rowsOf c n).erase row))) m ↔ r ∈ rowsOf c m ∧ _
        rw [rowsOf_put]
        by_cases e : n = m
        · subst e
          rw [if_pos rfl, hn.mem_erase_iff]
          exact ⟨fun h => ⟨h.2, fun z => h.1 (by injection z)⟩, fun h => ⟨fun z => h.2 (by rw [z]), h.1⟩⟩
        · rw [if_neg e]
          exact ⟨fun h => ⟨h, fun z => e (by injection z with _ z _; exact z.symm)⟩, fun h => h.1⟩
      | relation m a => exact ⟨fun h => ⟨h, key_ne (by decide)⟩, fun h => h.1⟩
      | rule m a b d => exact ⟨fun h => ⟨h, key_ne (by decide)⟩, fun h => h.1⟩
      | denial m b => exact ⟨fun h => ⟨h, key_ne (by decide)⟩, fun h => h.1⟩
    · rw [if_neg hin]
      refine ⟨fun h => ⟨h, fun z => ?_⟩, fun h => h.1⟩
      cases it with
      | fact m r =>
        injection z with _ z1 z2
        subst z1 z2
        exact hin h
      | relation m a => exact key_ne (by decide) z
      | rule m a b d => exact key_ne (by decide) z
      | denial m b => exact key_ne (by decide) z
theorem CtN.take {c : Ct} {n : Nat} (h : CtN c n) (k : IKey) : CtN (c.take k) n := by
  have sz := h.sz
  unfold Ct.take
  split
  · have := (dropG_sub c.rel k.n).length_le
    exact ⟨dropG_nodup h.nr _, h.nf, h.nu, h.nd, fun p hp => h.rel p ((dropG_sub _ _).subset hp), h.fac, h.rul, h.den, by show (dropG c.rel k.n).length + c.fac.length + c.rul.length + c.den.length ≤ _; omega⟩
  · split
    · have := (dropG_sub c.rul k.n).length_le
      exact ⟨h.nr, h.nf, dropG_nodup h.nu _, h.nd, h.rel, h.fac, fun p hp => h.rul p ((dropG_sub _ _).subset hp), h.den, by show c.rel.length + c.fac.length + (dropG c.rul k.n).length + c.den.length ≤ _; omega⟩
    · split
      · have := (dropG_sub c.den k.n).length_le
        exact ⟨h.nr, h.nf, h.nu, dropG_nodup h.nd _, h.rel, h.fac, h.rul, fun p hp => h.den p ((dropG_sub _ _).subset hp), by show c.rel.length + c.fac.length + c.rul.length + (dropG c.den k.n).length ≤ _; omega⟩
      · split
        · rename_i hin
          obtain ⟨r1, r2, r3⟩ := h.rows k.n
          obtain ⟨x, hx⟩ : ∃ x, valG c.fac k.n = some x := by
            unfold rowsOf at hin
            cases hv : valG c.fac k.n with
            | none => rw [hv] at hin; cases hin
            | some x => exact ⟨x, rfl⟩
          have hk : k.n ∈ c.fac.map (·.1) := mem_keys.mpr ⟨x, hx⟩
          have len : (putG c.fac k.n ((rowsOf c k.n).erase k.row)).length = c.fac.length := by
            have := congrArg List.length (putG_keys c.fac k.n ((rowsOf c k.n).erase k.row))
            rw [if_pos hk, List.length_map, List.length_map] at this
            exact this
          refine ⟨h.nr, putG_nodup h.nf _ _, h.nu, h.nd, h.rel, fun p hp => (putG_mem hp).elim (fun e => ?_) (h.fac p), h.rul, h.den, by show c.rel.length + (putG c.fac k.n ((rowsOf c k.n).erase k.row)).length + c.rul.length + c.den.length ≤ _; omega⟩
          rw [e]
          refine ⟨(h.fac _ (valG_mem hx)).1, fun r hr => r1 r (List.mem_of_mem_erase hr), Nat.le_trans List.length_erase_le r2, r3.erase _⟩
        · exact h
/-- a content that has just these items -/
structure Holds (c : Ct) (os : List Item) (n : Nat) : Prop where
  N : CtN c n
  pw : os.Pairwise iLt
  mem : ∀ it, it ∈ os ↔ memC c it
theorem placed_pw {os : List Item} (h : os.Pairwise iLt) (x : Item) : (placedI os x).Pairwise iLt := by
  unfold placedI
  refine List.pairwise_append.mpr ⟨List.pairwise_append.mpr ⟨h.filter _, List.pairwise_singleton .., fun a ha b hb => ?_⟩, h.filter _, fun a ha b hb => ?_⟩
  · rw [List.mem_singleton.mp hb]
    exact of_decide_eq_true (List.mem_filter.mp ha).2
  · have hb := (ordK_pos _ _).mp (of_decide_eq_true (List.mem_filter.mp hb).2)
    rcases List.mem_append.mp ha with ha | ha
    · exact ordK_trans (of_decide_eq_true (List.mem_filter.mp ha).2) hb
    · rw [List.mem_singleton.mp ha]
      exact hb
theorem holds_puts {its : List Item} (h : ∀ it ∈ its, it.ok) : Holds (puts its) (orderd its) its.length := ⟨puts_N its h, orderd_pw its, mem_orderd its⟩
theorem Holds.put {c : Ct} {os : List Item} {n : Nat} (h : Holds c os n) {it : Item} (hi : it.ok) : Holds (c.put it) (placedI os it) (n + 1) := ⟨h.N.put hi, placed_pw h.pw it, fun x => by rw [mem_placed, memC_put, h.mem]⟩
def goneI (os : List Item) (x : Item) : List Item := os.filter fun y => !decide (keyOf y = keyOf x)
theorem mem_gone {os : List Item} {x it : Item} : it ∈ goneI os x ↔ it ∈ os ∧ keyOf it ≠ keyOf x := by
  unfold goneI
  rw [List.mem_filter]
  refine and_congr_right fun _ => ?_
  by_cases e : keyOf it = keyOf x <;> simp [e]
theorem Holds.take {c : Ct} {os : List Item} {n : Nat} (h : Holds c os n) (x : Item) : Holds (c.take (keyOf x)) (goneI os x) n := ⟨h.N.take _, h.pw.filter _, fun it => by rw [mem_gone, memC_take (h.N.rows _).2.2, h.mem]⟩
theorem Holds.tidy {c : Ct} {os : List Item} {n : Nat} (h : Holds c os n) : Holds c.tidy os (2 * n) := ⟨h.N.tidy, h.pw, fun it => by rw [memC_tidy, h.mem]⟩
def Ct.chg (c : Ct) : Chg → Ct
  | .comes it => c.put it
  | .goes it => c.take (keyOf it)
def chgI (os : List Item) : Chg → List Item
  | .comes it => placedI os it
  | .goes it => goneI os it
def chgs (c : Ct) (cs : List Chg) : Ct := cs.foldl Ct.chg c
def chgIs (os : List Item) (cs : List Chg) : List Item := cs.foldl chgI os
theorem Holds.chg {c : Ct} {os : List Item} {n : Nat} (h : Holds c os n) {x : Chg} (hx : x.ok) : Holds (c.chg x) (chgI os x) (n + 1) := by
  cases x with
  | comes it => exact h.put hx
  | goes it =>
    have := h.take it
    exact ⟨this.N.up, this.pw, this.mem⟩
theorem Holds.chgs : ∀ {cs : List Chg} {c : Ct} {os : List Item} {n : Nat}, Holds c os n → (∀ x ∈ cs, x.ok) → Holds (chgs c cs) (chgIs os cs) (n + cs.length)
  | [], _, _, _, h, _ => h
  | x :: cs, c, os, n, h, hx => by
    have h1 := h.chg (hx x (List.mem_cons_self ..))
    have := Holds.chgs (cs := cs) h1 fun y hy => hx y (List.mem_cons_of_mem _ hy)
    rw [List.length_cons]
    have e : n + (cs.length + 1) = n + 1 + cs.length := by omega
    rw [e]
    exact this
theorem chgI_ok {os : List Item} {x : Chg} (h : ∀ y ∈ os, y.ok) (hx : x.ok) : ∀ y ∈ chgI os x, y.ok := by
  cases x with
  | comes it => exact placed_ok h hx
  | goes it => exact fun y hy => h y ((mem_gone (x := it)).mp hy).1
theorem chgI_len (os : List Item) (x : Chg) : (chgI os x).length ≤ os.length + 1 := by
  cases x with
  | comes it => exact placed_len os it
  | goes it => exact Nat.le_succ_of_le (List.length_filter_le _ _)
theorem chgIs_ok : ∀ {cs : List Chg} {os : List Item}, (∀ y ∈ os, y.ok) → (∀ x ∈ cs, x.ok) → ∀ y ∈ chgIs os cs, y.ok
  | [], _, h, _ => h
  | x :: cs, os, h, hx => chgIs_ok (cs := cs) (chgI_ok h (hx x (List.mem_cons_self ..))) fun y hy => hx y (List.mem_cons_of_mem _ hy)
theorem chgIs_len : ∀ (cs : List Chg) (os : List Item), (chgIs os cs).length ≤ os.length + cs.length
  | [], _ => Nat.le_refl _
  | x :: cs, os => by
    have h1 := chgIs_len cs (chgI os x)
    have h2 := chgI_len os x
    rw [List.length_cons]
    show (chgIs (chgI os x) cs).length ≤ _
    omega
/-! sizes, told by the items -/
theorem lR_len (os : List Item) : (lR os).length ≤ os.length := by
  refine snoc_ind (p := fun os => (lR os).length ≤ os.length) (Nat.le_refl _) (fun xs x ih => ?_) os
  rw [show lR (xs ++ [x]) = stR (lR xs) x from fold_snoc _ _ _ _, List.length_append]
  cases x with
  | relation n w => exact Nat.le_trans (putG_len _ _ _) (Nat.succ_le_succ ih)
  | fact n w => exact Nat.le_succ_of_le ih
  | rule n a b d => exact Nat.le_succ_of_le ih
  | denial n b => exact Nat.le_succ_of_le ih
theorem lU_len (os : List Item) : (lU os).length ≤ os.length := by
  refine snoc_ind (p := fun os => (lU os).length ≤ os.length) (Nat.le_refl _) (fun xs x ih => ?_) os
  rw [show lU (xs ++ [x]) = stU (lU xs) x from fold_snoc _ _ _ _, List.length_append]
  cases x with
  | rule n a b d => exact Nat.le_trans (putG_len _ _ _) (Nat.succ_le_succ ih)
  | fact n w => exact Nat.le_succ_of_le ih
  | relation n w => exact Nat.le_succ_of_le ih
  | denial n b => exact Nat.le_succ_of_le ih
theorem lD_len (os : List Item) : (lD os).length ≤ os.length := by
  refine snoc_ind (p := fun os => (lD os).length ≤ os.length) (Nat.le_refl _) (fun xs x ih => ?_) os
  rw [show lD (xs ++ [x]) = stD (lD xs) x from fold_snoc _ _ _ _, List.length_append]
  cases x with
  | denial n b => exact Nat.le_trans (putG_len _ _ _) (Nat.succ_le_succ ih)
  | fact n w => exact Nat.le_succ_of_le ih
  | relation n w => exact Nat.le_succ_of_le ih
  | rule n a b d => exact Nat.le_succ_of_le ih
def isRel : Item → Bool
  | .relation _ _ => true
  | _ => false
def isFac : Item → Bool
  | .fact _ _ => true
  | _ => false
theorem lF1_len (os : List Item) : (lF1 os).length ≤ (os.filter isRel).length := by
  refine snoc_ind (p := fun os => (lF1 os).length ≤ (os.filter isRel).length) (Nat.le_refl _) (fun xs x ih => ?_) os
  rw [show lF1 (xs ++ [x]) = stF1 (lF1 xs) x from fold_snoc _ _ _ _, List.filter_append, List.length_append]
  cases x with
  | relation n w => exact Nat.le_trans (putG_len _ _ _) (Nat.succ_le_succ ih)
  | fact n w => exact ih
  | rule n a b d => exact ih
  | denial n b => exact ih
theorem lF2_len (F : List (Str × List (List Val))) (os : List Item) : (lF2 F os).length ≤ F.length + (os.filter isFac).length := by
  refine snoc_ind (p := fun os => (lF2 F os).length ≤ F.length + (os.filter isFac).length) (Nat.le_refl _) (fun xs x ih => ?_) os
  rw [show lF2 F (xs ++ [x]) = stF2 (lF2 F xs) x from fold_snoc _ _ _ _, List.filter_append, List.length_append]
  cases x with
  | fact n w => exact Nat.le_trans (putG_len _ _ _) (Nat.succ_le_succ ih)
  | relation n w => exact ih
  | rule n a b d => exact ih
  | denial n b => exact ih
theorem lF_len (os : List Item) : (lF2 (lF1 os) os).length ≤ os.length := by
  have h1 := lF1_len os
  have h2 := lF2_len (lF1 os) os
  have h3 := filter_two isRel isFac (fun x a b => by cases x <;> simp_all [isRel, isFac]) os
  omega
/-- what holds items is as the law's dicts say, once tidy -/
theorem Holds.like {c : Ct} {os : List Item} {n : Nat} (h : Holds c os n) : Like c.tidy os := by
  have hN := h.N
  have hT := hN.tidy
  have hp := h.pw
  have mem : ∀ it, it ∈ os ↔ memC c.tidy it := fun it => by rw [memC_tidy, h.mem]
  have hit : c.tidy.items = os := pw_eq (items_pw hT.nr hT.nf hT.nu hT.nd fun m => by rw [rows_tidy]; exact sortR_strict (hN.rows m).2.2) hp fun it => by rw [mem_items, memC_tidy, h.mem]
  have hrow : ∀ m, rowsOf c.tidy m = rowsIn os m := fun m => by
    have h1 : (rowsOf c.tidy m).Pairwise fun a b => rLt a b = true := by rw [rows_tidy]; exact sortR_strict (hN.rows m).2.2
    have h2 := rowsIn_pw hp m
    have nd : ∀ {l : List (List Val)}, (l.Pairwise fun a b => rLt a b = true) → l.Nodup := fun h => h.imp fun {a b} z e => by rw [e, rLt_irr] at z; cases z
    refine List.Perm.eq_of_pairwise (le := fun a b => rLt a b = true) (fun a b _ _ z1 z2 => ?_) h1 h2 ((List.perm_ext_iff_of_nodup (nd h1) (nd h2)).mpr fun r => ?_)
    · have := rLt_trans _ _ _ z1 z2
      rw [rLt_irr] at this
      cases this
    · rw [mem_rowsIn, mem]
      exact Iff.rfl
  have vr : ∀ m, valG c.tidy.rel m = valG (lR os) m := fun m => opt_ext fun v => by rw [lR_iff _ hp, mem]; exact Iff.rfl
  have vu : ∀ m, valG c.tidy.rul m = valG (lU os) m := fun m => opt_ext fun v => by rw [lU_iff _ hp, mem]; exact Iff.rfl
  have vd : ∀ m, valG c.tidy.den m = valG (lD os) m := fun m => opt_ext fun v => by rw [lD_iff _ hp, mem]; exact Iff.rfl
  have vf : ∀ m, valG c.tidy.fac m = valG (lF2 (lF1 os) os) m := fun m => by
    have e1 := lF1_is os m
    rw [lF2_is _ _ (by rw [e1]; split <;> rfl), valG_tidy, e1, ← rows_tidy, hrow]
    by_cases h1 : rowsIn os m = []
    · rw [if_pos h1, h1]
      have e2 : m ∈ c.names ↔ (os.any fun x => match x with | .relation k _ => decide (k = m) | _ => false) = true := by
        rw [mem_names, List.any_eq_true]
        have h3 : rowsOf c m = [] := by
          have := hrow m
          rw [rows_tidy, h1] at this
          have z := sortR_len (rowsOf c m)
          rw [this] at z
          exact List.length_eq_zero_iff.mp z.symm
        rw [h3]
        constructor
        · rintro (h4 | h4)
          · obtain ⟨w, hw⟩ := mem_keys.mp h4
            exact ⟨.relation m w, (mem _).mpr hw, decide_eq_true rfl⟩
          · exact absurd rfl h4
        · rintro ⟨x, hx, e⟩
          cases x with
          | relation k w =>
            have e := of_decide_eq_true e
            subst e
            exact .inl (mem_keys.mpr ⟨w, (mem _).mp hx⟩)
          | _ => cases e
      by_cases h4 : m ∈ c.names
      · rw [if_pos h4]
        exact (if_pos (e2.mp h4)).symm
      · rw [if_neg h4]
        exact (if_neg fun z => h4 (e2.mpr z)).symm
    · rw [if_neg h1, if_pos]
      refine mem_names.mpr (.inr fun z => h1 ?_)
      rw [← hrow, rows_tidy, z]
      exact List.mergeSort_nil
  refine ⟨hit, ⟨keys_eq_len hT.nr (fold_nodup _ (fun d x => ?_) _ _ List.nodup_nil) vr, fun n v hv => by rw [vr]; exact hv⟩, ⟨keys_eq_len hT.nf (fold_nodup _ (fun d x => ?_) _ _ (fold_nodup _ (fun d x => ?_) _ _ List.nodup_nil)) vf, fun n v hv => by rw [vf]; exact hv⟩, ⟨keys_eq_len hT.nu (fold_nodup _ (fun d x => ?_) _ _ List.nodup_nil) vu, fun n v hv => by rw [vu]; exact hv⟩, ⟨keys_eq_len hT.nd (fold_nodup _ (fun d x => ?_) _ _ List.nodup_nil) vd, fun n v hv => by rw [vd]; exact hv⟩⟩
  · cases x with
    | relation m w => exact .inr ⟨_, _, rfl⟩
    | _ => exact .inl rfl
  · cases x with
    | fact m w => exact .inr ⟨_, _, rfl⟩
    | _ => exact .inl rfl
  · cases x with
    | relation m w => exact .inr ⟨_, _, rfl⟩
    | _ => exact .inl rfl
  · cases x with
    | rule m w => exact .inr ⟨_, _, rfl⟩
    | _ => exact .inl rfl
  · cases x with
    | denial m w => exact .inr ⟨_, _, rfl⟩
    | _ => exact .inl rfl
theorem Holds.fine {c : Ct} {os : List Item} {n : Nat} (h : Holds c os n) (hn : n ≤ 400) (hl : os.length < 32) : CtOk c.tidy ∧ Ct.small c.tidy ∧ Like c.tidy os := by
  have lk := h.like
  have r := lR_len os
  have f := lF_len os
  have u := lU_len os
  have d := lD_len os
  exact ⟨h.N.tidy.ok (by omega), ⟨by rw [lk.r.1, lk.f.1]; omega, by rw [lk.u.1]; omega, by rw [lk.d.1]; omega⟩, lk⟩
/-! between -/
def betI (xs ys : List Item) : List Chg := (xs.filter fun x => !decide (keyOf x ∈ ys.map keyOf)).map .goes ++ (ys.filter fun y => !decide (y ∈ xs)).map .comes
theorem chgIs_app (os : List Item) (a b : List Chg) : chgIs os (a ++ b) = chgIs (chgIs os a) b := by unfold chgIs; rw [List.foldl_append]
theorem chgIs_pw : ∀ {cs : List Chg} {os : List Item}, os.Pairwise iLt → (chgIs os cs).Pairwise iLt
  | [], _, h => h
  | .comes it :: cs, _, h => chgIs_pw (cs := cs) (placed_pw h it)
  | .goes it :: cs, _, h => chgIs_pw (cs := cs) (h.filter _)
theorem mem_goes : ∀ {zs os : List Item} {it : Item}, it ∈ chgIs os (zs.map .goes) ↔ it ∈ os ∧ keyOf it ∉ zs.map keyOf
  | [], os, it => ⟨fun h => ⟨h, fun z => nomatch z⟩, fun h => h.1⟩
  | z :: zs, os, it => by
    show it ∈ chgIs (goneI os z) (zs.map .goes) ↔ _
    rw [mem_goes, mem_gone, List.map_cons, List.mem_cons, not_or, and_assoc]
theorem mem_comes : ∀ {zs os : List Item} {it : Item}, zs.Pairwise iLt → (it ∈ chgIs os (zs.map .comes) ↔ it ∈ zs ∨ (it ∈ os ∧ keyOf it ∉ zs.map keyOf))
  | [], os, it, _ => ⟨fun h => .inr ⟨h, fun z => nomatch z⟩, fun h => h.elim (fun z => nomatch z) (·.1)⟩
  | z :: zs, os, it, hp => by
    obtain ⟨h1, h2⟩ := List.pairwise_cons.mp hp
    show it ∈ chgIs (placedI os z) (zs.map .comes) ↔ _
    rw [mem_comes h2, mem_placed, List.mem_cons, List.map_cons, List.mem_cons]
    have hz : keyOf z ∉ zs.map keyOf := fun hm => by
      obtain ⟨y, hy, e⟩ := List.mem_map.mp hm
      have := h1 y hy
      unfold iLt at this
      rw [(ordK_zero _ _).mpr e.symm] at this
      exact absurd this (by decide)
    constructor
    · rintro (h | ⟨h | ⟨h, g⟩, f⟩)
      · exact .inl (.inr h)
      · exact .inl (.inl h)
      · exact .inr ⟨h, fun e => e.elim g f⟩
    · rintro ((h | h) | ⟨h, g⟩)
      · exact .inr ⟨.inl h, by rw [h]; exact hz⟩
      · exact .inl h
      · exact .inr ⟨.inr ⟨h, fun e => g (.inl e)⟩, fun e => g (.inr e)⟩
theorem key_uniq {os : List Item} (h : os.Pairwise iLt) {x y : Item} (hx : x ∈ os) (hy : y ∈ os) (e : keyOf x = keyOf y) : x = y := by
  induction os with
  | nil => cases hx
  | cons z zs ih =>
    obtain ⟨h1, h2⟩ := List.pairwise_cons.mp h
    have no : ∀ {w : Item}, w ∈ zs → keyOf z ≠ keyOf w := fun hw e => by
      have := h1 _ hw
      unfold iLt at this
      rw [(ordK_zero _ _).mpr e] at this
      exact absurd this (by decide)
    rcases List.mem_cons.mp hx with e1 | hx
    · rcases List.mem_cons.mp hy with e2 | hy
      · rw [e1, e2]
      · exact absurd (by rw [← e1]; exact e) (no hy)
    · rcases List.mem_cons.mp hy with e2 | hy
      · exact absurd (by rw [← e2]; exact e.symm) (no hx)
      · exact ih h2 hx hy
theorem bet_makes {xs ys : List Item} (hx : xs.Pairwise iLt) (hy : ys.Pairwise iLt) : chgIs xs (betI xs ys) = ys := by
  refine pw_eq (chgIs_pw hx) hy fun it => ?_
  unfold betI
  rw [chgIs_app, mem_comes (hy.filter _), mem_goes]
  have g1 : ∀ k, k ∈ (xs.filter fun x => !decide (keyOf x ∈ ys.map keyOf)).map keyOf ↔ k ∈ xs.map keyOf ∧ k ∉ ys.map keyOf := fun k => by
    rw [List.mem_map, List.mem_map]
    constructor
    · rintro ⟨x, hx, rfl⟩
      obtain ⟨h1, h2⟩ := List.mem_filter.mp hx
      exact ⟨⟨x, h1, rfl⟩, by simpa using h2⟩
    · rintro ⟨⟨x, hx, rfl⟩, h2⟩
      exact ⟨x, List.mem_filter.mpr ⟨hx, by simpa using h2⟩, rfl⟩
  have g2 : ∀ z, z ∈ (ys.filter fun y => !decide (y ∈ xs)) ↔ z ∈ ys ∧ z ∉ xs := fun z => by
    rw [List.mem_filter]
    by_cases e : z ∈ xs <;> simp [e]
  have g3 : ∀ k, k ∈ (ys.filter fun y => !decide (y ∈ xs)).map keyOf ↔ ∃ z, z ∈ (ys.filter fun y => !decide (y ∈ xs)) ∧ keyOf z = k := fun k => List.mem_map
  rw [g1, g2, g3]
  constructor
  · rintro (h | ⟨⟨h, hg⟩, hk⟩)
    · exact h.1
    · have hk2 : keyOf it ∈ ys.map keyOf := Classical.byContradiction fun z => hg ⟨List.mem_map.mpr ⟨it, h, rfl⟩, z⟩
      obtain ⟨y, hy2, e⟩ := List.mem_map.mp hk2
      by_cases hyx : y ∈ xs
      · rw [← key_uniq hx hyx h e]
        exact hy2
      · exact absurd ⟨y, (g2 y).mpr ⟨hy2, hyx⟩, e⟩ hk
  · intro h
    by_cases hxs : it ∈ xs
    · refine .inr ⟨⟨hxs, fun z => z.2 (List.mem_map.mpr ⟨it, h, rfl⟩)⟩, ?_⟩
      rintro ⟨z, hz, e⟩
      obtain ⟨hz1, hz2⟩ := (g2 z).mp hz
      exact hz2 (by rw [key_uniq hy hz1 h e]; exact hxs)
    · exact .inl ⟨h, hxs⟩
end Ab

set_option Elab.async false
set_option linter.all false
set_option maxRecDepth 100000
set_option  maxHeartbeats 4000000
/-! RbBet: data of items and keys compared; what lies between two states. -/
namespace Ab
open PySem PyProof.Rows L2
mutual
theorem eqv_tpd : ∀ (d e : PyData), tpd d = true → tpd e = true → (PyData.eqv d e = true ↔ d = e)
  | .int i, e, _, he => by
    cases e with
    | int j => rw [eqv_int, decide_eq_true_eq]; exact ⟨fun h => by rw [h], fun h => by cases h; rfl⟩
    | str s => exact ⟨fun h => (nomatch h), fun h => (nomatch h)⟩
    | tuple xs => exact ⟨fun h => (nomatch h), fun h => (nomatch h)⟩
    | none => cases he
    | bool b => cases he
    | list _ => cases he
    | dict _ => cases he
  | .str i, e, _, he => by
    cases e with
    | str j => rw [eqv_str, decide_eq_true_eq]; exact ⟨fun h => by rw [h], fun h => by cases h; rfl⟩
    | int s => exact ⟨fun h => (nomatch h), fun h => (nomatch h)⟩
    | tuple xs => exact ⟨fun h => (nomatch h), fun h => (nomatch h)⟩
    | none => cases he
    | bool b => cases he
    | list _ => cases he
    | dict _ => cases he
  | .tuple xs, e, hd, he => by
    cases e with
    | tuple ys =>
      rw [tpd] at hd he
      rw [PyData.eqv, eqv_tpds xs ys hd he]
      exact ⟨fun h => by rw [h], fun h => by cases h; rfl⟩
    | int s => exact ⟨fun h => (nomatch h), fun h => (nomatch h)⟩
    | str s => exact ⟨fun h => (nomatch h), fun h => (nomatch h)⟩
    | none => cases he
    | bool b => cases he
    | list _ => cases he
    | dict _ => cases he
  | .none, _, h, _ => nomatch h
  | .bool _, _, h, _ => nomatch h
  | .list _, _, h, _ => nomatch h
  | .dict _, _, h, _ => nomatch h
theorem eqv_tpds : ∀ (xs ys : List PyData), tpds xs = true → tpds ys = true → (PyData.eqvAll xs ys = true ↔ xs = ys)
  | [], [], _, _ => ⟨fun _ => rfl, fun _ => rfl⟩
  | [], _ :: _, _, _ => ⟨fun h => (nomatch h), fun h => (nomatch h)⟩
  | _ :: _, [], _, _ => ⟨fun h => (nomatch h), fun h => (nomatch h)⟩
  | x :: xs, y :: ys, hx, hy => by
    rw [tpds, Bool.and_eq_true] at hx hy
    rw [PyData.eqvAll, Bool.and_eq_true, eqv_tpd x y hx.1 hy.1, eqv_tpds xs ys hx.2 hy.2, List.cons.injEq]
end
theorem map_inj {α β : Type} {f : α → β} (hf : ∀ x y, f x = f y → x = y) : ∀ {xs ys : List α}, xs.map f = ys.map f → xs = ys
  | [], [], _ => rfl
  | [], _ :: _, h => nomatch h
  | _ :: _, [], h => nomatch h
  | x :: xs, y :: ys, h => by
    rw [List.map_cons, List.map_cons, List.cons.injEq] at h
    rw [hf _ _ h.1, map_inj hf h.2]
theorem tag_ne {x y : Str} (h : x ≠ y) {a b : List PyData} : PyData.tuple (.str x :: a) ≠ .tuple (.str y :: b) := fun e => by
  injection e with e
  injection e with e _
  injection e with e
  exact h e
theorem Term.enc_inj : ∀ {s t : Term}, s.enc = t.enc → s = t
  | .any, .any, _ => rfl
  | .value v, .value w, h => by
    unfold Term.enc at h
    injection h with h
    injection h with _ h
    injection h with h _
    rw [Val.enc_inj h]
  | .variable x, .variable y, h => by
    unfold Term.enc at h
    injection h with h
    injection h with _ h
    injection h with h _
    injection h with h
    rw [h]
  | .any, .value _, h => absurd h (tag_ne (by decide +kernel))
  | .any, .variable _, h => absurd h (tag_ne (by decide +kernel))
  | .value _, .any, h => absurd h (tag_ne (by decide +kernel))
  | .value _, .variable _, h => absurd h (tag_ne (by decide +kernel))
  | .variable _, .any, h => absurd h (tag_ne (by decide +kernel))
  | .variable _, .value _, h => absurd h (tag_ne (by decide +kernel))
theorem encT_inj {a b : List Term} (h : encT a = encT b) : a = b := by
  injection h with h
  exact map_inj (fun _ _ => Term.enc_inj) h
theorem encR_inj {a b : List Val} (h : encR a = encR b) : a = b := by
  injection h with h
  exact map_inj (fun _ _ => Val.enc_inj) h
theorem two_of {a b : PyData} {as bs : List PyData} (h : PyData.tuple (a :: as) = .tuple (b :: bs)) : a = b ∧ PyData.tuple as = .tuple bs := by
  injection h with h
  injection h with h1 h2
  exact ⟨h1, by rw [h2]⟩
theorem str_inj {x y : Str} (h : PyData.str x = .str y) : x = y := by injection h
theorem Lit.enc_inj {a b : Lit} (h : a.enc = b.enc) : a = b := by
  cases a <;> cases b <;> first
    | exact absurd h (tag_ne (by decide +kernel))
    | (obtain ⟨_, h⟩ := two_of h
       obtain ⟨h1, h⟩ := two_of h
       obtain ⟨h2, _⟩ := two_of h
       rw [str_inj h1, encT_inj h2])
    | (obtain ⟨_, h⟩ := two_of h
       obtain ⟨h1, h⟩ := two_of h
       obtain ⟨h2, h⟩ := two_of h
       obtain ⟨h3, _⟩ := two_of h
       rw [str_inj h1, Term.enc_inj h2, Term.enc_inj h3])
    | (obtain ⟨_, h⟩ := two_of h
       obtain ⟨h1, h⟩ := two_of h
       obtain ⟨h2, h⟩ := two_of h
       obtain ⟨h3, _⟩ := two_of h
       rw [str_inj h1, str_inj h2, encT_inj h3])
    | (obtain ⟨_, h⟩ := two_of h
       obtain ⟨h1, h⟩ := two_of h
       obtain ⟨h2, h⟩ := two_of h
       obtain ⟨h3, h⟩ := two_of h
       obtain ⟨h4, _⟩ := two_of h
       rw [str_inj h1, str_inj h2, Term.enc_inj h3, Term.enc_inj h4])
theorem encB_inj {a b : List Lit} (h : encB a = encB b) : a = b := by
  injection h with h
  exact map_inj (fun _ _ => Lit.enc_inj) h
theorem Item.enc_inj {a b : Item} (h : a.enc = b.enc) : a = b := by
  cases a <;> cases b <;> first
    | exact absurd h (tag_ne (by decide +kernel))
    | (obtain ⟨_, h⟩ := two_of h
       obtain ⟨h1, h⟩ := two_of h
       obtain ⟨h2, h⟩ := two_of h
       obtain ⟨h3, h⟩ := two_of h
       obtain ⟨h4, _⟩ := two_of h
       rw [str_inj h1, str_inj h2, encT_inj h3, encB_inj h4])
    | (obtain ⟨_, h⟩ := two_of h
       obtain ⟨h1, h⟩ := two_of h
       obtain ⟨h2, _⟩ := two_of h
       injection h2 with h2
       rw [str_inj h1, h2])
    | (obtain ⟨_, h⟩ := two_of h
       obtain ⟨h1, h⟩ := two_of h
       obtain ⟨h2, _⟩ := two_of h
       rw [str_inj h1, encR_inj h2])
    | (obtain ⟨_, h⟩ := two_of h
       obtain ⟨h1, h⟩ := two_of h
       obtain ⟨h2, _⟩ := two_of h
       rw [str_inj h1, encB_inj h2])
theorem IKey.enc_inj {a b : IKey} (h : a.enc = b.enc) : a = b := by
  obtain ⟨h1, h⟩ := two_of h
  obtain ⟨h2, h⟩ := two_of h
  obtain ⟨h3, _⟩ := two_of h
  injection h1 with h1
  exact ikey_eq h1 (str_inj h2) (encR_inj h3)
theorem tpd_key (k : IKey) : tpd k.enc = true := tpd_T (tpds_cons rfl (tpds_cons rfl (tpds_cons (tpd_row k.row) rfl)))
theorem eqv_key (k l : IKey) : PyData.eqv k.enc l.enc = decide (k = l) := by
  rw [Bool.eq_iff_iff, eqv_tpd _ _ (tpd_key k) (tpd_key l), decide_eq_true_eq]
  exact ⟨IKey.enc_inj, fun h => by rw [h]⟩
theorem eqv_item (x y : Item) : PyData.eqv x.enc y.enc = decide (x = y) := by
  rw [Bool.eq_iff_iff, eqv_tpd _ _ (tpd_item x) (tpd_item y), decide_eq_true_eq]
  exact ⟨Item.enc_inj, fun h => by rw [h]⟩
theorem any_eqv {α : Type} [DecidableEq α] {f : α → PyData} (hf : ∀ x y, PyData.eqv (f x) (f y) = decide (x = y)) (y : α) : ∀ xs : List α, ((xs.map f).any fun z => PyData.eqv z (f y)) = decide (y ∈ xs)
  | [] => by simp
  | x :: xs => by
    rw [List.map_cons, List.any_cons, any_eqv hf y xs, hf]
    by_cases e : x = y
    · subst e; simp
    · have : ¬ y = x := fun z => e z.symm
      simp [e, this]
/-! keys, sorted -/
def keyO : KeyOrd where
  α := IKey
  blt := fun k l => decide (ordK k l < 0)
  irrefl := fun k => decide_eq_false fun h => by rw [(ordK_zero k k).mpr rfl] at h; exact absurd h (by decide)
  trans := fun a b c h1 h2 => decide_eq_true (ordK_trans (of_decide_eq_true h1) (of_decide_eq_true h2))
  negTrans := fun a b c h => by
    by_cases e : a = b
    · subst e; exact .inr h
    · by_cases h1 : ordK a b < 0
      · exact .inl (decide_eq_true h1)
      · have h0 : ordK a b ≠ 0 := fun z => e ((ordK_zero _ _).mp z)
        have h2 := (ordK_pos a b).mp (by omega)
        exact .inr (decide_eq_true (ordK_trans h2 (of_decide_eq_true h)))
  total := fun a b h1 h2 => by
    have h1 := of_decide_eq_false h1
    have h2 := of_decide_eq_false h2
    refine (ordK_zero a b).mp ?_
    have h3 : ¬ 0 < ordK a b := fun z => h2 ((ordK_pos a b).mp z)
    omega
theorem ord_inj {k l : IKey} (h : k.ord = l.ord) : k = l := by
  obtain ⟨h1, h⟩ := two_of h
  obtain ⟨h2, h⟩ := two_of h
  obtain ⟨h3, _⟩ := two_of h
  injection h1 with h1
  exact ikey_eq h1 (str_inj h2) (rkey_inj h3)
theorem fit_keys {ks : List IKey} (h : ∀ k ∈ ks, k.ok) : KeyFit keyO IKey.ord (.type "int") ks where
  cmp := fun k _ l _ => ⟨ok_kord k l, lt_kord k l, ord_inj⟩
  tup := fun k hk => ⟨okD_shaped (kord_ok (h k hk)) (by decide), .int k.s, [.str k.n, rkey k.row], rfl, rfl⟩
  typ := .inl rfl
abbrev kLt (k l : IKey) : Prop := ordK k l < 0
theorem sort_keys {ks : List IKey} (h : ks.Pairwise kLt) : ks.mergeSort (leK keyO) = ks := by
  refine List.mergeSort_of_pairwise (le := leK keyO) (h.imp fun {a b} hab => ?_)
  unfold leK
  have : ¬ ordK b a < 0 := fun z => by
    have := (ordK_pos b a).mpr hab
    omega
  show (!decide (ordK b a < 0)) = true
  rw [decide_eq_false this]
  rfl
theorem keys_pw {os : List Item} (h : os.Pairwise iLt) : (os.map keyOf).Pairwise kLt := List.pairwise_map.mpr h
/-! keys of dicts -/
def nkV : Val → NK
  | .int n => .num n
  | .str z => .text z
def nkKs (k : IKey) : List NK := [.num k.s, .text k.n, .tup (k.row.map nkV)]
theorem nkV_data (v : Val) : (nkV v).data = v.enc := by cases v <;> rfl
theorem nkVs_data : ∀ vs : List Val, NestedKey.datas (vs.map nkV) = vs.map Val.enc
  | [] => rfl
  | v :: vs => by rw [List.map_cons, List.map_cons, NestedKey.datas, nkV_data, nkVs_data vs]
theorem nk_data (k : IKey) : (NestedKey.tup (nkKs k)).data = k.enc := by
  unfold nkKs IKey.enc
  rw [NestedKey.data, NestedKey.datas, NestedKey.datas, NestedKey.datas, NestedKey.datas, NestedKey.data, NestedKey.data, NestedKey.data, nkVs_data]
theorem nkVs_depth : ∀ vs : List Val, NestedKey.depthAll (vs.map nkV) = 0
  | [] => rfl
  | v :: vs => by
    rw [List.map_cons, NestedKey.depthAll, nkVs_depth vs]
    cases v <;> rfl
theorem nk_depth (k : IKey) : (NestedKey.tup (nkKs k)).depth ≤ 8 := by
  unfold nkKs
  rw [NestedKey.depth, NestedKey.depthAll, NestedKey.depthAll, NestedKey.depthAll, NestedKey.depthAll, NestedKey.depth, NestedKey.depth, NestedKey.depth, nkVs_depth]
  decide
theorem nkV_inj : ∀ v w : Val, nkV v = nkV w → v = w
  | .int _, .int _, h => by unfold nkV at h; injection h with h; rw [h]
  | .str _, .str _, h => by unfold nkV at h; injection h with h; rw [h]
  | .int _, .str _, h => nomatch h
  | .str _, .int _, h => nomatch h
theorem nk_inj {k l : IKey} (h : NestedKey.tup (nkKs k) = .tup (nkKs l)) : k = l := by
  unfold nkKs at h
  injection h with h
  injection h with h1 h
  injection h with h2 h
  injection h with h3 _
  injection h1 with h1
  injection h2 with h2
  injection h3 with h3
  exact ikey_eq h1 h2 (map_inj nkV_inj h3)
/-- the dict from keys to items -/
def kvX (os : List Item) : List (NK × Sl) := os.map fun x => (.tup (nkKs (keyOf x)), .dat x.enc)
theorem kvX_val (os : List Item) (k : IKey) : valG (kvX os) (.tup (nkKs k)) = (os.find? fun x => decide (keyOf x = k)).map fun x => .dat x.enc := by
  induction os with
  | nil => rfl
  | cons x xs ih =>
    show valG ((.tup (nkKs (keyOf x)), .dat x.enc) :: kvX xs) _ = _
    rw [valG_cons, List.find?_cons, ih]
    by_cases e : keyOf x = k
    · rw [if_pos (by rw [e]), decide_eq_true e]; rfl
    · rw [if_neg fun z => e (nk_inj z), decide_eq_false e]
theorem find_key {os : List Item} (h : os.Pairwise iLt) {x : Item} (hx : x ∈ os) : (os.find? fun y => decide (keyOf y = keyOf x)) = some x := by
  cases e : os.find? fun y => decide (keyOf y = keyOf x) with
  | none => exact absurd (List.find?_eq_none.mp e x hx) (by simp)
  | some y =>
    have h1 := List.find?_some e
    rw [key_uniq h (List.mem_of_find?_eq_some e) hx (of_decide_eq_true h1)]
theorem find_none {os : List Item} {k : IKey} : (os.find? fun y => decide (keyOf y = k)) = none ↔ k ∉ os.map keyOf := by
  rw [List.find?_eq_none, List.mem_map]
  constructor
  · rintro h ⟨x, hx, e⟩
    exact h x hx (decide_eq_true e)
  · intro h x hx e
    exact h ⟨x, hx, of_decide_eq_true e⟩
theorem kvX_some {os : List Item} {k : IKey} : (valG (kvX os) (.tup (nkKs k))).isSome = decide (k ∈ os.map keyOf) := by
  rw [kvX_val, Option.isSome_map]
  cases e : os.find? fun x => decide (keyOf x = k) with
  | none => rw [decide_eq_false (find_none.mp e)]; rfl
  | some x => rw [decide_eq_true (List.mem_map.mpr ⟨x, List.mem_of_find?_eq_some e, of_decide_eq_true (List.find?_some (p := fun x => decide (keyOf x = k)) e)⟩)]; rfl
theorem putG_new {κ β : Type} [DecidableEq κ] {l : List (κ × β)} {k : κ} (h : k ∉ l.map (·.1)) (v : β) : putG l k v = l ++ [(k, v)] := by
  unfold putG
  rw [if_neg]
  intro z
  obtain ⟨p, hp, e⟩ := List.any_eq_true.mp z
  exact h (List.mem_map.mpr ⟨p, hp, of_decide_eq_true e⟩)
theorem kvX_snoc {os : List Item} {x : Item} (h : (os ++ [x]).Pairwise iLt) : putG (kvX os) (.tup (nkKs (keyOf x))) (.dat x.enc) = kvX (os ++ [x]) := by
  rw [putG_new]
  · unfold kvX
    rw [List.map_append]
    rfl
  · unfold kvX
    rw [List.map_map]
    intro hm
    obtain ⟨y, hy, e⟩ := List.mem_map.mp hm
    exact (pw_snoc h).2 y hy (nk_inj e)
theorem wa_mono {K : KX} {t : TA} {ρ : Rho} {M : MH} {Q Q' : List Sl → MH → Prop} (h : WA K t ρ M Q) (i : ∀ ss M', Q ss M' → Q' ss M') : WA K t ρ M Q' := fun σ B H hR hS Q0 k => h σ B H hR hS Q0 fun ss vs M' B' H' q => k ss vs M' B' H' (i ss M' q)
/-- sorted(keys, key=key_order) of keys that stand in order -/
theorem w_sortK {K : KX} {ρ : Rho} {M : MH} {Q : Sl → MH → Prop} {A : ASp} {f : Addr} {t tk : TA} (h : WA K t ρ M fun ss M1 => WA K tk ρ M1 fun zs M2 => ∃ (s : Sl) (ks : List IKey), ss = [s] ∧ zs = [.raw (.ref f)] ∧ LsV K.K s M2 (ks.map fun k => .dat k.enc) ∧ (∀ k ∈ ks, k.ok) ∧ ks.Pairwise kLt ∧
    (∀ k ∈ ks, ∀ QA : Sl → MH → Prop, QA (.dat k.ord) M2 → A [.dat k.enc] M2 QA) ∧ ∀ p, M2 p = none → Q (.raw (.ref p)) (um M2 p (.lst (ks.map fun k => .dat k.enc)))) : W K (tCKw (rSortF K.K f (conc K.K A)) t tk) ρ M Q :=
  w_sortF (O := keyO) (kf := IKey.ord) (T := .type "int") (wa_mono h fun ss M1 h1 => wa_mono h1 fun zs M2 ⟨s, ks, e1, e2, hl, ok, pw, ha, q⟩ => ⟨s, ks, fun k : IKey => .dat k.enc, (⟨0, "", []⟩ : IKey), e1, e2, hl, fit_keys ok, ha, fun p hp => by
    have e : List.mergeSort (α := IKey) ks (leK keyO) = ks := sort_keys pw
    have z := q p hp
    rw [← e] at z
    exact z⟩)
end Ab

set_option Elab.async false
set_option linter.all false
set_option maxRecDepth 100000
set_option  maxHeartbeats 4000000
namespace K03
open PySem PyProof.Rows L2 Ab
def topS (i : Nat) : Stmt := PySem.Challenge.pw_rulestead_k03_changes.main.body.getD i (.Pass ⟨0, 0, 0, 0⟩)
abbrev s_value_key : Stmt := topS 2
theorem sc_value_key : FnScope ["value"] ["value"] (defScope s_value_key) := ⟨rfl, rfl, rfl, by decide +kernel, rfl, by decide +kernel, by decide +kernel⟩
abbrev s_row_key : Stmt := topS 3
theorem sc_row_key : FnScope ["row", "value"] ["row"] (defScope s_row_key) := ⟨rfl, rfl, rfl, by decide +kernel, rfl, by decide +kernel, by decide +kernel⟩
abbrev s_key_of : Stmt := topS 4
theorem sc_key_of : FnScope ["item", "sort"] ["item"] (defScope s_key_of) := ⟨rfl, rfl, rfl, by decide +kernel, rfl, by decide +kernel, by decide +kernel⟩
abbrev s_key_order : Stmt := topS 5
theorem sc_key_order : FnScope ["key", "sort", "name", "row"] ["key"] (defScope s_key_order) := ⟨rfl, rfl, rfl, by decide +kernel, rfl, by decide +kernel, by decide +kernel⟩
abbrev s_State___init__ : Stmt := inClass (topS 7) 0
theorem sc_State___init__ : FnScope ["self", "items", "item"] ["self", "items"] (defScope s_State___init__) := ⟨rfl, rfl, rfl, by decide +kernel, rfl, by decide +kernel, by decide +kernel⟩
abbrev s_State_put : Stmt := inClass (topS 7) 1
theorem sc_State_put : FnScope ["self", "item", "word", "name"] ["self", "item"] (defScope s_State_put) := ⟨rfl, rfl, rfl, by decide +kernel, rfl, by decide +kernel, by decide +kernel⟩
abbrev s_State_take : Stmt := inClass (topS 7) 2
theorem sc_State_take : FnScope ["self", "key", "sort", "name", "row"] ["self", "key"] (defScope s_State_take) := ⟨rfl, rfl, rfl, by decide +kernel, rfl, by decide +kernel, by decide +kernel⟩
abbrev s_State_tidy : Stmt := inClass (topS 7) 3
theorem sc_State_tidy : FnScope ["self", "names", "name"] ["self"] (defScope s_State_tidy) := ⟨rfl, rfl, rfl, by decide +kernel, rfl, by decide +kernel, by decide +kernel⟩
abbrev s_State_all_items : Stmt := inClass (topS 7) 4
theorem sc_State_all_items : FnScope ["self", "items", "name", "row"] ["self"] (defScope s_State_all_items) := ⟨rfl, rfl, rfl, by decide +kernel, rfl, by decide +kernel, by decide +kernel⟩
abbrev s_State_has : Stmt := inClass (topS 7) 5
theorem sc_State_has : FnScope ["self", "relation", "row"] ["self", "relation", "row"] (defScope s_State_has) := ⟨rfl, rfl, rfl, by decide +kernel, rfl, by decide +kernel, by decide +kernel⟩
abbrev s_State_copy : Stmt := inClass (topS 7) 6
theorem sc_State_copy : FnScope ["self"] ["self"] (defScope s_State_copy) := ⟨rfl, rfl, rfl, by decide +kernel, rfl, by decide +kernel, by decide +kernel⟩
abbrev s_State_change : Stmt := inClass (topS 7) 7
theorem sc_State_change : FnScope ["self", "changes", "result", "word", "what"] ["self", "changes"] (defScope s_State_change) := ⟨rfl, rfl, rfl, by decide +kernel, rfl, by decide +kernel, by decide +kernel⟩
abbrev s_between : Stmt := topS 8
theorem sc_between : FnScope ["first", "second", "before", "item", "after", "gone", "key", "new"] ["first", "second"] (defScope s_between) := ⟨rfl, rfl, rfl, by decide +kernel, rfl, by decide +kernel, by decide +kernel⟩
abbrev s_law_next : Stmt := topS 10
theorem sc_law_next : FnScope ["_law_state", "_law_limit", "_law_cell", "_law_value_here"] ["_law_state", "_law_limit"] (defScope s_law_next) := ⟨rfl, rfl, rfl, by decide +kernel, rfl, by decide +kernel, by decide +kernel⟩
abbrev s_law_same : Stmt := topS 11
theorem sc_law_same : FnScope ["_law_actual", "_law_expected", "_law_k"] ["_law_actual", "_law_expected"] (defScope s_law_same) := ⟨rfl, rfl, rfl, by decide +kernel, rfl, by decide +kernel, by decide +kernel⟩
abbrev s_law_characters : Stmt := topS 12
theorem sc_law_characters : FnScope [] [] (defScope s_law_characters) := ⟨rfl, rfl, rfl, by decide +kernel, rfl, by decide +kernel, by decide +kernel⟩
abbrev s_law_value : Stmt := topS 13
theorem sc_law_value : FnScope ["_law_state", "_law_pick", "_law_start", "_law_step", "_law_j"] ["_law_state"] (defScope s_law_value) := ⟨rfl, rfl, rfl, by decide +kernel, rfl, by decide +kernel, by decide +kernel⟩
abbrev s_law_row : Stmt := topS 14
theorem sc_law_row : FnScope ["_law_state", "_law_width", "_law_k"] ["_law_state", "_law_width"] (defScope s_law_row) := ⟨rfl, rfl, rfl, by decide +kernel, rfl, by decide +kernel, by decide +kernel⟩
abbrev s_law_name : Stmt := topS 15
theorem sc_law_name : FnScope ["_law_state"] ["_law_state"] (defScope s_law_name) := ⟨rfl, rfl, rfl, by decide +kernel, rfl, by decide +kernel, by decide +kernel⟩
abbrev s_law_term : Stmt := topS 16
theorem sc_law_term : FnScope ["_law_state", "_law_pick"] ["_law_state"] (defScope s_law_term) := ⟨rfl, rfl, rfl, by decide +kernel, rfl, by decide +kernel, by decide +kernel⟩
abbrev s_law_terms : Stmt := topS 17
theorem sc_law_terms : FnScope ["_law_state", "_law_k"] ["_law_state"] (defScope s_law_terms) := ⟨rfl, rfl, rfl, by decide +kernel, rfl, by decide +kernel, by decide +kernel⟩
abbrev s_law_literal : Stmt := topS 18
theorem sc_law_literal : FnScope ["_law_state", "_law_form", "_law_operator"] ["_law_state"] (defScope s_law_literal) := ⟨rfl, rfl, rfl, by decide +kernel, rfl, by decide +kernel, by decide +kernel⟩
abbrev s_law_body : Stmt := topS 19
theorem sc_law_body : FnScope ["_law_state", "_law_k"] ["_law_state"] (defScope s_law_body) := ⟨rfl, rfl, rfl, by decide +kernel, rfl, by decide +kernel, by decide +kernel⟩
abbrev s_law_item : Stmt := topS 20
theorem sc_law_item : FnScope ["_law_state", "_law_pick", "_law_name_here"] ["_law_state"] (defScope s_law_item) := ⟨rfl, rfl, rfl, by decide +kernel, rfl, by decide +kernel, by decide +kernel⟩
abbrev s_law_before : Stmt := topS 21
theorem sc_law_before : FnScope ["_law_first", "_law_second"] ["_law_first", "_law_second"] (defScope s_law_before) := ⟨rfl, rfl, rfl, by decide +kernel, rfl, by decide +kernel, by decide +kernel⟩
abbrev s_law_order : Stmt := topS 22
theorem sc_law_order : FnScope ["_law_first", "_law_second", "_law_k"] ["_law_first", "_law_second"] (defScope s_law_order) := ⟨rfl, rfl, rfl, by decide +kernel, rfl, by decide +kernel, by decide +kernel⟩
abbrev s_law_key : Stmt := topS 23
theorem sc_law_key : FnScope ["_law_item_here", "_law_sort"] ["_law_item_here"] (defScope s_law_key) := ⟨rfl, rfl, rfl, by decide +kernel, rfl, by decide +kernel, by decide +kernel⟩
abbrev s_law_key_order : Stmt := topS 24
theorem sc_law_key_order : FnScope ["_law_first", "_law_second"] ["_law_first", "_law_second"] (defScope s_law_key_order) := ⟨rfl, rfl, rfl, by decide +kernel, rfl, by decide +kernel, by decide +kernel⟩
abbrev s_law_placed : Stmt := topS 25
theorem sc_law_placed : FnScope ["_law_items_here", "_law_item_here", "_law_before_here", "_law_other", "_law_behind"] ["_law_items_here", "_law_item_here"] (defScope s_law_placed) := ⟨rfl, rfl, rfl, by decide +kernel, rfl, by decide +kernel, by decide +kernel⟩
abbrev s_law_items : Stmt := topS 26
theorem sc_law_items : FnScope ["_law_state", "_law_most", "_law_items_here", "_law_k", "_law_ordered", "_law_item_here"] ["_law_state", "_law_most"] (defScope s_law_items) := ⟨rfl, rfl, rfl, by decide +kernel, rfl, by decide +kernel, by decide +kernel⟩
abbrev s_law_is_dict : Stmt := topS 27
theorem sc_law_is_dict : FnScope ["_law_actual", "_law_expected", "_law_key_here"] ["_law_actual", "_law_expected"] (defScope s_law_is_dict) := ⟨rfl, rfl, rfl, by decide +kernel, rfl, by decide +kernel, by decide +kernel⟩
abbrev s_law_is_state : Stmt := topS 28
theorem sc_law_is_state : FnScope ["_law_actual", "_law_ordered", "_law_relations", "_law_facts", "_law_rules", "_law_denials", "_law_item_here"] ["_law_actual", "_law_ordered"] (defScope s_law_is_state) := ⟨rfl, rfl, rfl, by decide +kernel, rfl, by decide +kernel, by decide +kernel⟩
abbrev s_law_changed : Stmt := topS 29
theorem sc_law_changed : FnScope ["_law_ordered", "_law_changes_here", "_law_word", "_law_what", "_law_item_here"] ["_law_ordered", "_law_changes_here"] (defScope s_law_changed) := ⟨rfl, rfl, rfl, by decide +kernel, rfl, by decide +kernel, by decide +kernel⟩
abbrev s_law_changes : Stmt := topS 30
theorem sc_law_changes : FnScope ["_law_state", "_law_ordered", "_law_changes_here", "_law_k", "_law_item_here"] ["_law_state", "_law_ordered"] (defScope s_law_changes) := ⟨rfl, rfl, rfl, by decide +kernel, rfl, by decide +kernel, by decide +kernel⟩
abbrev s_law_between : Stmt := topS 31
theorem sc_law_between : FnScope ["_law_first", "_law_second", "_law_keys", "_law_item_here", "_law_changes_here"] ["_law_first", "_law_second"] (defScope s_law_between) := ⟨rfl, rfl, rfl, by decide +kernel, rfl, by decide +kernel, by decide +kernel⟩
abbrev s_law : Stmt := topS 32
theorem sc_law : FnScope ["_law_script", "_law_state", "_law_first", "_law_second", "_law_one", "_law_other", "_law_changes_here", "_law_passed", "_law_made", "_law_name_here", "_law_rows", "_law_spoilt"] ["_law_script"] (defScope s_law) := ⟨rfl, rfl, rfl, by decide +kernel, rfl, by decide +kernel, by decide +kernel⟩
structure AD where
  value_key : Addr
  row_key : Addr
  key_of : Addr
  key_order : Addr
  State___init__ : Addr
  State_put : Addr
  State_take : Addr
  State_tidy : Addr
  State_all_items : Addr
  State_has : Addr
  State_copy : Addr
  State_change : Addr
  between : Addr
  law_next : Addr
  law_same : Addr
  law_characters : Addr
  law_value : Addr
  law_row : Addr
  law_name : Addr
  law_term : Addr
  law_terms : Addr
  law_literal : Addr
  law_body : Addr
  law_item : Addr
  law_before : Addr
  law_order : Addr
  law_key : Addr
  law_key_order : Addr
  law_placed : Addr
  law_items : Addr
  law_is_dict : Addr
  law_is_state : Addr
  law_changed : Addr
  law_changes : Addr
  law_between : Addr
  law : Addr
  e0_State___init__ : Addr
  State : Addr
  c_WORDS : Addr
structure FD where
  value_key : FuncData
  row_key : FuncData
  key_of : FuncData
  key_order : FuncData
  State___init__ : FuncData
  State_put : FuncData
  State_take : FuncData
  State_tidy : FuncData
  State_all_items : FuncData
  State_has : FuncData
  State_copy : FuncData
  State_change : FuncData
  between : FuncData
  law_next : FuncData
  law_same : FuncData
  law_characters : FuncData
  law_value : FuncData
  law_row : FuncData
  law_name : FuncData
  law_term : FuncData
  law_terms : FuncData
  law_literal : FuncData
  law_body : FuncData
  law_item : FuncData
  law_before : FuncData
  law_order : FuncData
  law_key : FuncData
  law_key_order : FuncData
  law_placed : FuncData
  law_items : FuncData
  law_is_dict : FuncData
  law_is_state : FuncData
  law_changed : FuncData
  law_changes : FuncData
  law_between : FuncData
  law : FuncData
structure Txt (K : PySem.W.Frag) (mg : Str → Option Value) (a : AD) (d : FD) : Prop where
  F_value_key : Fun K "value_key" "value_key" s_value_key a.value_key d.value_key
  g_value_key : mg "value_key" = some (.ref a.value_key)
  b_value_key : Binds K d.value_key ["value"] []
  F_row_key : Fun K "row_key" "row_key" s_row_key a.row_key d.row_key
  g_row_key : mg "row_key" = some (.ref a.row_key)
  b_row_key : Binds K d.row_key ["row"] []
  F_key_of : Fun K "key_of" "key_of" s_key_of a.key_of d.key_of
  g_key_of : mg "key_of" = some (.ref a.key_of)
  b_key_of : Binds K d.key_of ["item"] []
  F_key_order : Fun K "key_order" "key_order" s_key_order a.key_order d.key_order
  g_key_order : mg "key_order" = some (.ref a.key_order)
  b_key_order : Binds K d.key_order ["key"] []
  F_State___init__ : FunD K "__init__" "State.__init__" (defArgs s_State___init__) (defBody s_State___init__) (defScope s_State___init__) [.ref a.e0_State___init__] [] a.State___init__ d.State___init__
  bd_State___init__ : Binds K d.State___init__ ["self", "items"] [.ref a.e0_State___init__]
  e0_State___init__ : Tup0 K a.e0_State___init__
  m_State___init__ : Meth K a.State "__init__" a.State___init__
  b_State___init__ : Binds K d.State___init__ ["self", "items"] []
  F_State_put : Fun K "put" "State.put" s_State_put a.State_put d.State_put
  m_State_put : Meth K a.State "put" a.State_put
  b_State_put : Binds K d.State_put ["self", "item"] []
  F_State_take : Fun K "take" "State.take" s_State_take a.State_take d.State_take
  m_State_take : Meth K a.State "take" a.State_take
  b_State_take : Binds K d.State_take ["self", "key"] []
  F_State_tidy : Fun K "tidy" "State.tidy" s_State_tidy a.State_tidy d.State_tidy
  m_State_tidy : Meth K a.State "tidy" a.State_tidy
  b_State_tidy : Binds K d.State_tidy ["self"] []
  F_State_all_items : Fun K "all_items" "State.all_items" s_State_all_items a.State_all_items d.State_all_items
  m_State_all_items : Meth K a.State "all_items" a.State_all_items
  b_State_all_items : Binds K d.State_all_items ["self"] []
  F_State_has : Fun K "has" "State.has" s_State_has a.State_has d.State_has
  m_State_has : Meth K a.State "has" a.State_has
  b_State_has : Binds K d.State_has ["self", "relation", "row"] []
  F_State_copy : Fun K "copy" "State.copy" s_State_copy a.State_copy d.State_copy
  m_State_copy : Meth K a.State "copy" a.State_copy
  b_State_copy : Binds K d.State_copy ["self"] []
  F_State_change : Fun K "change" "State.change" s_State_change a.State_change d.State_change
  m_State_change : Meth K a.State "change" a.State_change
  b_State_change : Binds K d.State_change ["self", "changes"] []
  F_between : Fun K "between" "between" s_between a.between d.between
  g_between : mg "between" = some (.ref a.between)
  b_between : Binds K d.between ["first", "second"] []
  F_law_next : Fun K "_law_next" "_law_next" s_law_next a.law_next d.law_next
  g_law_next : mg "_law_next" = some (.ref a.law_next)
  b_law_next : Binds K d.law_next ["_law_state", "_law_limit"] []
  F_law_same : Fun K "_law_same" "_law_same" s_law_same a.law_same d.law_same
  g_law_same : mg "_law_same" = some (.ref a.law_same)
  b_law_same : Binds K d.law_same ["_law_actual", "_law_expected"] []
  F_law_characters : Fun K "_law_characters" "_law_characters" s_law_characters a.law_characters d.law_characters
  g_law_characters : mg "_law_characters" = some (.ref a.law_characters)
  b_law_characters : Binds K d.law_characters [] []
  F_law_value : Fun K "_law_value" "_law_value" s_law_value a.law_value d.law_value
  g_law_value : mg "_law_value" = some (.ref a.law_value)
  b_law_value : Binds K d.law_value ["_law_state"] []
  F_law_row : Fun K "_law_row" "_law_row" s_law_row a.law_row d.law_row
  g_law_row : mg "_law_row" = some (.ref a.law_row)
  b_law_row : Binds K d.law_row ["_law_state", "_law_width"] []
  F_law_name : Fun K "_law_name" "_law_name" s_law_name a.law_name d.law_name
  g_law_name : mg "_law_name" = some (.ref a.law_name)
  b_law_name : Binds K d.law_name ["_law_state"] []
  F_law_term : Fun K "_law_term" "_law_term" s_law_term a.law_term d.law_term
  g_law_term : mg "_law_term" = some (.ref a.law_term)
  b_law_term : Binds K d.law_term ["_law_state"] []
  F_law_terms : Fun K "_law_terms" "_law_terms" s_law_terms a.law_terms d.law_terms
  g_law_terms : mg "_law_terms" = some (.ref a.law_terms)
  b_law_terms : Binds K d.law_terms ["_law_state"] []
  F_law_literal : Fun K "_law_literal" "_law_literal" s_law_literal a.law_literal d.law_literal
  g_law_literal : mg "_law_literal" = some (.ref a.law_literal)
  b_law_literal : Binds K d.law_literal ["_law_state"] []
  F_law_body : Fun K "_law_body" "_law_body" s_law_body a.law_body d.law_body
  g_law_body : mg "_law_body" = some (.ref a.law_body)
  b_law_body : Binds K d.law_body ["_law_state"] []
  F_law_item : Fun K "_law_item" "_law_item" s_law_item a.law_item d.law_item
  g_law_item : mg "_law_item" = some (.ref a.law_item)
  b_law_item : Binds K d.law_item ["_law_state"] []
  F_law_before : Fun K "_law_before" "_law_before" s_law_before a.law_before d.law_before
  g_law_before : mg "_law_before" = some (.ref a.law_before)
  b_law_before : Binds K d.law_before ["_law_first", "_law_second"] []
  F_law_order : Fun K "_law_order" "_law_order" s_law_order a.law_order d.law_order
  g_law_order : mg "_law_order" = some (.ref a.law_order)
  b_law_order : Binds K d.law_order ["_law_first", "_law_second"] []
  F_law_key : Fun K "_law_key" "_law_key" s_law_key a.law_key d.law_key
  g_law_key : mg "_law_key" = some (.ref a.law_key)
  b_law_key : Binds K d.law_key ["_law_item_here"] []
  F_law_key_order : Fun K "_law_key_order" "_law_key_order" s_law_key_order a.law_key_order d.law_key_order
  g_law_key_order : mg "_law_key_order" = some (.ref a.law_key_order)
  b_law_key_order : Binds K d.law_key_order ["_law_first", "_law_second"] []
  F_law_placed : Fun K "_law_placed" "_law_placed" s_law_placed a.law_placed d.law_placed
  g_law_placed : mg "_law_placed" = some (.ref a.law_placed)
  b_law_placed : Binds K d.law_placed ["_law_items_here", "_law_item_here"] []
  F_law_items : Fun K "_law_items" "_law_items" s_law_items a.law_items d.law_items
  g_law_items : mg "_law_items" = some (.ref a.law_items)
  b_law_items : Binds K d.law_items ["_law_state", "_law_most"] []
  F_law_is_dict : Fun K "_law_is_dict" "_law_is_dict" s_law_is_dict a.law_is_dict d.law_is_dict
  g_law_is_dict : mg "_law_is_dict" = some (.ref a.law_is_dict)
  b_law_is_dict : Binds K d.law_is_dict ["_law_actual", "_law_expected"] []
  F_law_is_state : Fun K "_law_is_state" "_law_is_state" s_law_is_state a.law_is_state d.law_is_state
  g_law_is_state : mg "_law_is_state" = some (.ref a.law_is_state)
  b_law_is_state : Binds K d.law_is_state ["_law_actual", "_law_ordered"] []
  F_law_changed : Fun K "_law_changed" "_law_changed" s_law_changed a.law_changed d.law_changed
  g_law_changed : mg "_law_changed" = some (.ref a.law_changed)
  b_law_changed : Binds K d.law_changed ["_law_ordered", "_law_changes_here"] []
  F_law_changes : Fun K "_law_changes" "_law_changes" s_law_changes a.law_changes d.law_changes
  g_law_changes : mg "_law_changes" = some (.ref a.law_changes)
  b_law_changes : Binds K d.law_changes ["_law_state", "_law_ordered"] []
  F_law_between : Fun K "_law_between" "_law_between" s_law_between a.law_between d.law_between
  g_law_between : mg "_law_between" = some (.ref a.law_between)
  b_law_between : Binds K d.law_between ["_law_first", "_law_second"] []
  F_law : Fun K "law" "law" s_law a.law d.law
  g_law : mg "law" = some (.ref a.law)
  b_law : Binds K d.law ["_law_script"] []
  g_State : mg "State" = some (.ref a.State)
  cl_State : Cls K a.State
  mk_State : Mk K a.State a.State___init__
  na_State_relations : NoAttr K a.State "relations"
  na_State_facts : NoAttr K a.State "facts"
  na_State_rules : NoAttr K a.State "rules"
  na_State_denials : NoAttr K a.State "denials"
  n_bool : mg "bool" = none
  n_dict : mg "dict" = none
  n_int : mg "int" = none
  n_isinstance : mg "isinstance" = none
  n_len : mg "len" = none
  n_list : mg "list" = none
  n_min : mg "min" = none
  n_range : mg "range" = none
  n_sorted : mg "sorted" = none
  n_str : mg "str" = none
  n_tuple : mg "tuple" = none
  c_WORDS : mg "WORDS" = some (.ref a.c_WORDS)
  k_WORDS : TupC K a.c_WORDS ["relation", "fact", "rule", "denial"]
local macro_rules | `(tactic| walk_at "len") => `(tactic| first | decide | omega | (simp only [List.length_append, List.length_map, List.length_replicate, List.length_cons, List.length_nil, List.length_take, List.length_drop, List.length_reverse, List.length_range]; omega))
local macro_rules | `(tactic| walk_at "str") => `(tactic| first | decide +kernel | exact goodS_ok (by assumption) | assumption)
local macro_rules | `(tactic| walk_at "1") => `(tactic| (first
  | (with_reducible refine ws_set ?_)
  | (with_reducible refine ws_ret ?_)
  | (with_reducible refine ws_if ?_)
  | (with_reducible refine ws_drop ?_)
  | (with_reducible refine w_op ?_)
  | (with_reducible refine w_un ?_)
  | (with_reducible refine w_int ?_)
  | (with_reducible refine w_bl ?_)
  | (with_reducible refine w_non ?_)
  | (with_reducible refine w_str ?_)
  | (with_reducible refine w_cb ?_)
  | (with_reducible refine w_call ?_)
  | (with_reducible refine w_sl ?_)
  | (with_reducible refine w_tupD ?_)
  | (with_reducible refine w_chain ?_)
  | (with_reducible refine w_andV ?_)
  | (with_reducible refine w_orV ?_)
  | (with_reducible refine w_notV ?_)
  | (with_reducible refine wo_none ?_)
  | (with_reducible refine wo_some ?_)
  | (with_reducible refine wa_cons ?_)
  | (with_reducible refine wa_nil ?_)
  | (with_reducible refine wt_test ?_)
  | (with_reducible refine wt_B ?_)
  | (with_reducible refine wt_and ?_)
  | (with_reducible refine wt_or ?_)
  | (with_reducible refine wt_not ?_)
  | (with_reducible refine wt_yes ?_)
  | (with_reducible refine w2_i0 ?_)
  | (with_reducible refine w2_b0 ?_)
  | (with_reducible refine w1_neg ?_)
  | ((with_reducible refine w2_i ?hc ?_); (case hc => first | decide | exact ⟨by decide, by decide⟩ | exact Or.inl ⟨by decide, by decide⟩ | exact Or.inr ⟨by decide, by decide⟩ | exact ⟨by decide, by decide, by decide⟩ | omega); skip)
  | ((with_reducible refine' w_var ?hv ?_); (case hv => exact rfl); skip)
  | ((with_reducible show W2 _ (rEqD _) (Sl.dat (PyData.int _)) (Sl.dat (PyData.int _)) _ _); (refine w2_eqI ?_))
  | ((with_reducible show W2 _ (rNeD _) (Sl.dat (PyData.int _)) (Sl.dat (PyData.int _)) _ _); (refine w2_neI ?_))
  | ((with_reducible show W2 _ (rEqD _) (Sl.dat (PyData.str _)) (Sl.dat (PyData.str _)) _ _); (refine' w2_eqS ?h1 ?h2 ?_); (case h1 => walk_at "str"); (case h2 => walk_at "str"); skip)
  | ((with_reducible show W2 _ (rNeD _) (Sl.dat (PyData.str _)) (Sl.dat (PyData.str _)) _ _); (refine' w2_neS ?h1 ?h2 ?_); (case h1 => walk_at "str"); (case h2 => walk_at "str"); skip)
  | ((with_reducible show W2 _ (rEqD _) _ _ _ _); (refine w2_eq ?ha ?hb ?_); (case ha => first | exact shaped_int _ | exact shaped_bool _ | exact shaped_none); (case hb => first | exact shaped_int _ | exact shaped_bool _ | exact shaped_none); skip)
  | ((with_reducible show W2 _ (rNeD _) _ _ _ _); (refine w2_ne ?ha ?hb ?_); (case ha => first | exact shaped_int _ | exact shaped_bool _ | exact shaped_none); (case hb => first | exact shaped_int _ | exact shaped_bool _ | exact shaped_none); skip)
  | ((with_reducible show W2 _ _ _ _ _ _); (refine w2_isN ?_))
  | ((with_reducible show W2 _ rIsB _ _ _ _); (refine w2_isB ?_))
  | ((with_reducible show W2 _ rNotB _ _ _ _); (refine w2_notB ?_))
  | ((with_reducible show W2 _ _ _ _ _ _); (refine w2_notN ?_))
  | (with_reducible refine wl_lenE ?_)
  | (with_reducible refine wl_lenD ?_)
  | (with_reducible refine wl_lenTD ?_)
  | (with_reducible refine wl_listE ?_)
  | (with_reducible refine wsl_E ?_)
  | ((with_reducible refine' w2_catE ?hl ?_); (try (case hl => walk_at "len")); skip)
  | ((with_reducible refine' w2_rep1 ?h1 ?h2 ?_); (try (case h1 => first | decide | omega)); (try (case h2 => first | decide | omega)); skip)
  | ((with_reducible show WL _ _ [_] _ _); (refine' wl_len ?hl ?_); (case hl => first | exact lsv_dat | exact lsv_ref um_same | exact lsv_ref (by assumption)); skip)
  | ((with_reducible show WL _ _ [_] _ _); (refine' wl_list ?hl ?_); (case hl => first | exact .inl lsv_dat | exact .inl (lsv_ref (by assumption))); skip)
  | ((with_reducible show WSl _ (rSlL _) _ _ _ _ _); (refine' wsl_lst ?hl ?_); (case hl => first | exact lsv_dat | exact lsv_ref um_same | exact lsv_ref (by assumption)); skip)
  | ((with_reducible show WL _ _ [_] _ _); (refine wl_int ?_))
  | ((with_reducible show WL _ _ [_] _ _); (refine wl_intb ?_))
  | ((with_reducible show WL _ _ [_, _] _ _); (refine wl_min ?_))
  | ((with_reducible first | show W2 _ (rIxL _) (Sl.dat (PyData.list (List.cons _ _))) (Sl.dat (PyData.int _)) _ _ | show W2 _ (rIxL _) (Sl.dat (PyData.list (List.map PyData.int (List.cons _ _)))) (Sl.dat (PyData.int _)) _ _); (refine' w2_ixAny ?h0 ?h1 ?_); (case h0 => omega); (case h1 => first | omega | (simp only [List.length_cons, List.length_nil, List.length_map]; omega)); skip)
  | ((with_reducible show W2 _ (rIxL _) _ _ _ _); (refine' w2_ixL ?hs ?hx ?_); (case hs => first | exact lsv_dat | exact lsv_ref um_same | exact lsv_ref (by assumption)); (try (case hx => exact rfl)); skip)
  | ((with_reducible show W2 _ (rIxT _) _ _ _ _); (refine' w2_ixT ?hx ?_); (case hx => exact rfl); skip)
  | ((with_reducible show WL _ (rIsi _) [_, _] _ _); (refine' wl_isi ?hb ?_); (case hb => first | exact isi_bool _ | exact isi_int _ | exact isi_str _ | exact isi_tuple _ | exact isi_list _); skip)
  | ((with_reducible show W _ (tC (V.ty _)) _ _ _); (refine w_raw ?_))
  | ((with_reducible show W _ (tC (V.ref _)) _ _ _); (refine w_raw ?_))
  | ((with_reducible show WSl _ (rSlA _) _ _ _ _ _); (refine wsl_tup ?_))
  | ((with_reducible show WL _ (rTupS _) [Sl.dat (PyData.list _)] _ _); (refine wl_tuple lsv_dat ?_))
  | ((with_reducible show W2 _ (rCatA _) _ _ _ _); (refine' w2_catT ?hl ?_); (try (case hl => walk_at "len")); skip)
  | ((with_reducible show WL _ _ [_] _ _); (refine' wl_lenT ?hl ?_); (case hl => exact tpv_dat); skip)
  | ((with_reducible refine' w_fldI ?hv ?hM ?c ?n ?l ?_); (case hv => exact rfl); (case hM => first | assumption | exact um_same); (case c => assumption); (case n => assumption); (case l => walk_at "fl"); skip)
  | ((with_reducible refine' w_dgetI ?hv ?hM ?hx ?_); (case hv => exact rfl); (case hM => first | assumption | exact um_same); (case hx => walk_at "wg"); skip)
  | ((with_reducible refine' ws_fldI ?hv ?c ?n ?_); (case hv => exact rfl); (case c => assumption); (case n => assumption); skip)
  | (with_reducible refine ws_next ?_)
  | ((with_reducible show WS _ Ends.nx _ _ _); (refine ws_next ?_))
  | (with_reducible refine ite_t rfl ?_)
  | (with_reducible refine ite_f rfl ?_)
  | ((with_reducible refine' ite_t ?hb ?_); (case hb => decide +kernel); skip)
  | ((with_reducible refine' ite_f ?hb ?_); (case hb => decide +kernel); skip)
  | ((with_reducible show ∃ b : Bool, _ = Sl.bl b ∧ _); (with_reducible refine ⟨_, rfl, ?_⟩))
  | ((with_reducible show ∃ i : Int, _ = Sl.int i ∧ _); (with_reducible refine ⟨_, rfl, ?_⟩))
  | ((with_reducible show List.length _ ≤ 100000 ∧ _); (refine ⟨(by simp), ?_⟩))
  | ((with_reducible show ∃ ds : List PyData, datsOf _ = some ds ∧ _); (refine ⟨_, rfl, ?_⟩))))
local macro_rules | `(tactic| walk_at "e") => `(tactic| repeat (first | (with_reducible refine ws_seq ?_) | (walk_at "1")))
local macro_rules | `(tactic| walk_at "g") => `(tactic| repeat (first | (walk_at "1") | ((with_reducible refine w_lstI (wa_cons ?_)); (repeat (walk_at "1")); (with_reducible show ∃ ns : List Int, itemsI _ = some ns ∧ _); (refine ⟨_, rfl, ?_⟩)) | (with_reducible refine w_lstD ?_)))
local macro_rules | `(tactic| walk_at "f") => `(tactic| repeat (first | (with_reducible refine ws_seq ?_) | (walk_at "1") | ((with_reducible refine w_lstI (wa_cons ?_)); (repeat (walk_at "1")); (with_reducible show ∃ ns : List Int, itemsI _ = some ns ∧ _); (refine ⟨_, rfl, ?_⟩)) | (with_reducible refine w_lstD ?_)))
local macro_rules | `(tactic| walk_at "k") => `(tactic| first | dsimp only [cxOf, Cx.nox, Cx.wish] | skip)

section
variable {P : Program} {w : World} {K : PySem.W.Frag} {mg : Str → Option Value} {base : Heap} {a : AD} {d : FD}
def A_value_key : ASp := fun ss M Q => ∃ v : Val, ss = [.dat v.enc] ∧ Q (.dat (vkey v)) M
theorem ok_value_key (T : Txt K mg a d) : FnOk P w K mg base CX0 1 a.value_key d.value_key ["value"] (conc K A_value_key) := by
  refine ab_ok T.F_value_key sc_value_key (fun ss M Q ⟨v, e, _⟩ => by subst e; rfl) fun cdv Ar outer s H E hr => ⟨_, (pss_cons (ps_if (pt_val (pe_callB (r := rIsi K) call_isi (by rfl) T.n_isinstance (by decide +kernel) (pa_cons (pv 0) (pa_cons (pe_bltn (v := .ty "str") (u := .type "str") (by rfl) T.n_str (by decide +kernel) rfl) pa_nil)))) (pss_one (ps_ret (pe_tup (pa_cons pe_int (pa_cons (pv 0) pa_nil))))) pss_nil)
  (pss_one (ps_ret (pe_tup (pa_cons pe_int (pa_cons (pv 0) pa_nil)))))), ?_⟩
  rintro ss M Q ⟨v, rfl, q⟩
  walk_at "k"
  show WS K _ [some (.dat v.enc)] M _
  cases v with
  | int n =>
    walk_at "e"
    exact q
  | str z =>
    walk_at "e"
    exact q
def A_row_key : ASp := fun ss M Q => ∃ row : List Val, ss = [.dat (encR row)] ∧ row.length ≤ 100000 ∧ Q (.dat (rkey row)) M
theorem ok_row_key (T : Txt K mg a d) : FnOk P w K mg base CX0 2 a.row_key d.row_key ["row"] (conc K A_row_key) := by
  have G_value_key : FnOk P w K mg base CX0 1 a.value_key d.value_key ["value"] (conc K A_value_key) := ok_value_key T
  refine ab_ok T.F_row_key sc_row_key (fun ss M Q ⟨v, e, _⟩ => by subst e; rfl) fun cdv Ar outer s H E hr => ⟨_, (pss_one (ps_ret (pe_callTy (r := rTupS K) call_tuple_of (by rfl) T.n_tuple (by decide +kernel) (pa_cons (pe_lc (own := [("value", 1)]) rfl sc_row_key.nd (pi_tup (pv 0)) (blkOk_by (own := [("value", 1)]) (N := ["row", "value"]) (sc := (defScope s_row_key)) (by decide +kernel)) (fun _ _ _ _ _ => (pg_name (i := 1) sc_row_key.nd rfl (Or.inl rfl))) (fun _ _ _ _ _ => pts_nil) (fun _ _ _ _ _ => (pe_call G_value_key (hr.mono (by omega)) (by rfl) T.g_value_key T.F_value_key.kp T.b_value_key .nil pass0 (pa_cons (pv 1) pa_nil)))) pa_nil)))), ?_⟩
  rintro ss M Q ⟨row, rfl, hl, q⟩
  walk_at "k"
  show WS K _ [some (.dat (encR row)), none] M _
  walk_at "e"
  refine w_lcT (xs := row) (enc := Val.enc) (M1 := M) (by decide) (by walk_at "e"; exact ⟨rfl, rfl⟩) hl vkey ?_ ?_
  · intro v D o hv hD
    walk_at "e"
    exact ⟨v, rfl, rfl, rfl⟩
  · walk_at "e"
    exact q
end
end K03


set_option Elab.async false
set_option linter.all false
set_option maxRecDepth 100000
set_option  maxHeartbeats 4000000
namespace K03
open PySem PyProof.Rows L2 Ab
local macro_rules | `(tactic| walk_at "len") => `(tactic| first | decide | omega | (simp only [List.length_append, List.length_map, List.length_replicate, List.length_cons, List.length_nil, List.length_take, List.length_drop, List.length_reverse, List.length_range]; omega))
local macro_rules | `(tactic| walk_at "str") => `(tactic| first | decide +kernel | exact goodS_ok (by assumption) | assumption)
local macro_rules | `(tactic| walk_at "1") => `(tactic| (first
  | (with_reducible refine ws_set ?_)
  | (with_reducible refine ws_ret ?_)
  | (with_reducible refine ws_if ?_)
  | (with_reducible refine ws_drop ?_)
  | (with_reducible refine w_op ?_)
  | (with_reducible refine w_un ?_)
  | (with_reducible refine w_int ?_)
  | (with_reducible refine w_bl ?_)
  | (with_reducible refine w_non ?_)
  | (with_reducible refine w_str ?_)
  | (with_reducible refine w_cb ?_)
  | (with_reducible refine w_call ?_)
  | (with_reducible refine w_sl ?_)
  | (with_reducible refine w_tupD ?_)
  | (with_reducible refine w_chain ?_)
  | (with_reducible refine w_andV ?_)
  | (with_reducible refine w_orV ?_)
  | (with_reducible refine w_notV ?_)
  | (with_reducible refine wo_none ?_)
  | (with_reducible refine wo_some ?_)
  | (with_reducible refine wa_cons ?_)
  | (with_reducible refine wa_nil ?_)
  | (with_reducible refine wt_test ?_)
  | (with_reducible refine wt_B ?_)
  | (with_reducible refine wt_and ?_)
  | (with_reducible refine wt_or ?_)
  | (with_reducible refine wt_not ?_)
  | (with_reducible refine wt_yes ?_)
  | (with_reducible refine w2_i0 ?_)
  | (with_reducible refine w2_b0 ?_)
  | (with_reducible refine w1_neg ?_)
  | ((with_reducible refine w2_i ?hc ?_); (case hc => first | decide | exact ⟨by decide, by decide⟩ | exact Or.inl ⟨by decide, by decide⟩ | exact Or.inr ⟨by decide, by decide⟩ | exact ⟨by decide, by decide, by decide⟩ | omega); skip)
  | ((with_reducible refine' w_var ?hv ?_); (case hv => exact rfl); skip)
  | ((with_reducible show W2 _ (rEqD _) (Sl.dat (PyData.int _)) (Sl.dat (PyData.int _)) _ _); (refine w2_eqI ?_))
  | ((with_reducible show W2 _ (rNeD _) (Sl.dat (PyData.int _)) (Sl.dat (PyData.int _)) _ _); (refine w2_neI ?_))
  | ((with_reducible show W2 _ (rEqD _) (Sl.dat (PyData.str _)) (Sl.dat (PyData.str _)) _ _); (refine' w2_eqS ?h1 ?h2 ?_); (case h1 => walk_at "str"); (case h2 => walk_at "str"); skip)
  | ((with_reducible show W2 _ (rNeD _) (Sl.dat (PyData.str _)) (Sl.dat (PyData.str _)) _ _); (refine' w2_neS ?h1 ?h2 ?_); (case h1 => walk_at "str"); (case h2 => walk_at "str"); skip)
  | ((with_reducible show W2 _ (rEqD _) _ _ _ _); (refine w2_eq ?ha ?hb ?_); (case ha => first | exact shaped_int _ | exact shaped_bool _ | exact shaped_none); (case hb => first | exact shaped_int _ | exact shaped_bool _ | exact shaped_none); skip)
  | ((with_reducible show W2 _ (rNeD _) _ _ _ _); (refine w2_ne ?ha ?hb ?_); (case ha => first | exact shaped_int _ | exact shaped_bool _ | exact shaped_none); (case hb => first | exact shaped_int _ | exact shaped_bool _ | exact shaped_none); skip)
  | ((with_reducible show W2 _ _ _ _ _ _); (refine w2_isN ?_))
  | ((with_reducible show W2 _ rIsB _ _ _ _); (refine w2_isB ?_))
  | ((with_reducible show W2 _ rNotB _ _ _ _); (refine w2_notB ?_))
  | ((with_reducible show W2 _ _ _ _ _ _); (refine w2_notN ?_))
  | (with_reducible refine wl_lenE ?_)
  | (with_reducible refine wl_lenD ?_)
  | (with_reducible refine wl_lenTD ?_)
  | (with_reducible refine wl_listE ?_)
  | (with_reducible refine wsl_E ?_)
  | ((with_reducible refine' w2_catE ?hl ?_); (try (case hl => walk_at "len")); skip)
  | ((with_reducible refine' w2_rep1 ?h1 ?h2 ?_); (try (case h1 => first | decide | omega)); (try (case h2 => first | decide | omega)); skip)
  | ((with_reducible show WL _ _ [_] _ _); (refine' wl_len ?hl ?_); (case hl => first | exact lsv_dat | exact lsv_ref um_same | exact lsv_ref (by assumption)); skip)
  | ((with_reducible show WL _ _ [_] _ _); (refine' wl_list ?hl ?_); (case hl => first | exact .inl lsv_dat | exact .inl (lsv_ref (by assumption))); skip)
  | ((with_reducible show WSl _ (rSlL _) _ _ _ _ _); (refine' wsl_lst ?hl ?_); (case hl => first | exact lsv_dat | exact lsv_ref um_same | exact lsv_ref (by assumption)); skip)
  | ((with_reducible show WL _ _ [_] _ _); (refine wl_int ?_))
  | ((with_reducible show WL _ _ [_] _ _); (refine wl_intb ?_))
  | ((with_reducible show WL _ _ [_, _] _ _); (refine wl_min ?_))
  | ((with_reducible first | show W2 _ (rIxL _) (Sl.dat (PyData.list (List.cons _ _))) (Sl.dat (PyData.int _)) _ _ | show W2 _ (rIxL _) (Sl.dat (PyData.list (List.map PyData.int (List.cons _ _)))) (Sl.dat (PyData.int _)) _ _); (refine' w2_ixAny ?h0 ?h1 ?_); (case h0 => omega); (case h1 => first | omega | (simp only [List.length_cons, List.length_nil, List.length_map]; omega)); skip)
  | ((with_reducible show W2 _ (rIxL _) _ _ _ _); (refine' w2_ixL ?hs ?hx ?_); (case hs => first | exact lsv_dat | exact lsv_ref um_same | exact lsv_ref (by assumption)); (try (case hx => exact rfl)); skip)
  | ((with_reducible show W2 _ (rIxT _) _ _ _ _); (refine' w2_ixT ?hx ?_); (case hx => exact rfl); skip)
  | ((with_reducible show WL _ (rIsi _) [_, _] _ _); (refine' wl_isi ?hb ?_); (case hb => first | exact isi_bool _ | exact isi_int _ | exact isi_str _ | exact isi_tuple _ | exact isi_list _); skip)
  | ((with_reducible show W _ (tC (V.ty _)) _ _ _); (refine w_raw ?_))
  | ((with_reducible show W _ (tC (V.ref _)) _ _ _); (refine w_raw ?_))
  | ((with_reducible show WSl _ (rSlA _) _ _ _ _ _); (refine wsl_tup ?_))
  | ((with_reducible show WL _ (rTupS _) [Sl.dat (PyData.list _)] _ _); (refine wl_tuple lsv_dat ?_))
  | ((with_reducible show W2 _ (rCatA _) _ _ _ _); (refine' w2_catT ?hl ?_); (try (case hl => walk_at "len")); skip)
  | ((with_reducible show WL _ _ [_] _ _); (refine' wl_lenT ?hl ?_); (case hl => exact tpv_dat); skip)
  | ((with_reducible refine' w_fldI ?hv ?hM ?c ?n ?l ?_); (case hv => exact rfl); (case hM => first | assumption | exact um_same); (case c => assumption); (case n => assumption); (case l => walk_at "fl"); skip)
  | ((with_reducible refine' w_dgetI ?hv ?hM ?hx ?_); (case hv => exact rfl); (case hM => first | assumption | exact um_same); (case hx => walk_at "wg"); skip)
  | ((with_reducible refine' ws_fldI ?hv ?c ?n ?_); (case hv => exact rfl); (case c => assumption); (case n => assumption); skip)
  | (with_reducible refine ws_next ?_)
  | ((with_reducible show WS _ Ends.nx _ _ _); (refine ws_next ?_))
  | (with_reducible refine ite_t rfl ?_)
  | (with_reducible refine ite_f rfl ?_)
  | ((with_reducible refine' ite_t ?hb ?_); (case hb => decide +kernel); skip)
  | ((with_reducible refine' ite_f ?hb ?_); (case hb => decide +kernel); skip)
  | ((with_reducible show ∃ b : Bool, _ = Sl.bl b ∧ _); (with_reducible refine ⟨_, rfl, ?_⟩))
  | ((with_reducible show ∃ i : Int, _ = Sl.int i ∧ _); (with_reducible refine ⟨_, rfl, ?_⟩))
  | ((with_reducible show List.length _ ≤ 100000 ∧ _); (refine ⟨(by simp), ?_⟩))
  | ((with_reducible show ∃ ds : List PyData, datsOf _ = some ds ∧ _); (refine ⟨_, rfl, ?_⟩))))
local macro_rules | `(tactic| walk_at "e") => `(tactic| repeat (first | (with_reducible refine ws_seq ?_) | (walk_at "1")))
local macro_rules | `(tactic| walk_at "g") => `(tactic| repeat (first | (walk_at "1") | ((with_reducible refine w_lstI (wa_cons ?_)); (repeat (walk_at "1")); (with_reducible show ∃ ns : List Int, itemsI _ = some ns ∧ _); (refine ⟨_, rfl, ?_⟩)) | (with_reducible refine w_lstD ?_)))
local macro_rules | `(tactic| walk_at "f") => `(tactic| repeat (first | (with_reducible refine ws_seq ?_) | (walk_at "1") | ((with_reducible refine w_lstI (wa_cons ?_)); (repeat (walk_at "1")); (with_reducible show ∃ ns : List Int, itemsI _ = some ns ∧ _); (refine ⟨_, rfl, ?_⟩)) | (with_reducible refine w_lstD ?_)))
local macro_rules | `(tactic| walk_at "k") => `(tactic| first | dsimp only [cxOf, Cx.nox, Cx.wish] | skip)

section
variable {P : Program} {w : World} {K : PySem.W.Frag} {mg : Str → Option Value} {base : Heap} {a : AD} {d : FD}
def MidN (M : MH) (p : Addr) (n : Int) (ρ' : Rho) (M' : MH) : Prop := ∃ (xs : List Sl) (y z : Option Sl), ρ' = [some (.ref p), some (.int n), y, z] ∧ M' = um M p (.lst xs) ∧ DrawL xs
theorem ok_next (T : Txt K mg a d) : FnOk P w K mg base CX0 1 a.law_next d.law_next ["_law_state", "_law_limit"] (conc K A_next) := by
  refine ab_ok T.F_law_next sc_law_next (fun ss M Q ⟨p, n, xs, e, _⟩ => by subst e; rfl) fun cdv Ar outer s H E hr => ?_
  have hu64 := hr.units
  refine ⟨_, (pss_cons (ps_if (PW.pt (pw_and (pt_cmpR (r := rEqD K) (op_eqD hu64) (pe_ix (r := rIxL K) ix_list (pv 0) pe_int (fun _ _ => rfl)) pe_int (nomark _)) (pw_and1 (pt_cmpR op_lt (pe_ix (r := rIxL K) ix_list (pv 0) pe_int (fun _ _ => rfl)) (pe_callB (r := rLenS K) call_len_seq (by rfl) T.n_len PySem.boot_len (pa_cons (pe_ix (r := rIxL K) ix_list (pv 0) pe_int (fun _ _ => rfl)) pa_nil)) (nomark _))))) (pss_cons (ps_set (i := 2) sc_law_next.nd rfl (Or.inl rfl) (pe_ix (r := rIxL K) ix_list (pe_ix (r := rIxL K) ix_list (pv 0) pe_int (fun _ _ => rfl)) (pe_ix (r := rIxL K) ix_list (pv 0) pe_int (fun _ _ => rfl)) (fun _ _ => rfl)))
  (pss_cons (ps_augS (pv 0) pe_int pget_list pe_int ip_add set_list)
  (pss_one (ps_if (pt_cmpR op_ge (pv 2) (pe_op op_pow pe_int pe_int) (nomark _)) (pss_one (ps_asg (pv 2) (pg_sub (pv 0) pe_int set_list))) (pss_one (ps_asg (pe_op op_mod (pe_callTy (r := rInt1) call_int1 (by rfl) T.n_int (by decide +kernel) (pa_cons (pe_op op_add (pe_op op_add (pe_op op_mul (pe_ix (r := rIxL K) ix_list (pv 0) pe_int (fun _ _ => rfl)) pe_int) (pe_op op_mod (pe_callTy (r := rInt1) call_int1 (by rfl) T.n_int (by decide +kernel) (pa_cons (pv 2) pa_nil)) pe_int)) pe_int) pa_nil)) pe_int) (pg_sub (pv 0) pe_int set_list))))))) pss_nil)
  (pss_cons (ps_if (pt_cmpR op_gt (pe_ix (r := rIxL K) ix_list (pv 0) pe_int (fun _ _ => rfl)) pe_int (nomark _)) (pss_cons (ps_set (i := 3) sc_law_next.nd rfl (Or.inl rfl) (pe_op op_mod (pe_callTy (r := rInt1) call_int1 (by rfl) T.n_int (by decide +kernel) (pa_cons (pe_ix (r := rIxL K) ix_list (pv 0) pe_int (fun _ _ => rfl)) pa_nil)) (pv 1)))
  (pss_cons (ps_asg (pe_op op_fdivW (pe_ix (r := rIxL K) ix_list (pv 0) pe_int (fun _ _ => rfl)) (pv 1)) (pg_sub (pv 0) pe_int set_list))
  (pss_one (ps_ret (pv 3))))) pss_nil)
  (pss_cons (ps_asg (pe_op op_mod (pe_callTy (r := rInt1) call_int1 (by rfl) T.n_int (by decide +kernel) (pa_cons (pe_op op_add (pe_op op_mul (pe_ix (r := rIxL K) ix_list (pv 0) pe_int (fun _ _ => rfl)) pe_int) pe_int) pa_nil)) pe_int) (pg_sub (pv 0) pe_int set_list))
  (pss_one (ps_ret (pe_op op_mod (pe_callTy (r := rInt1) call_int1 (by rfl) T.n_int (by decide +kernel) (pa_cons (pe_op op_fdiv (pe_ix (r := rIxL K) ix_list (pv 0) pe_int (fun _ _ => rfl)) pe_int) pa_nil)) (pv 1))))))), ?_⟩
  rintro ss M Q ⟨p, n, xs, rfl, hp, ⟨sc, pos, cur, seed, rfl, hpos⟩, hn0, hn1, q⟩
  walk_at "k"
  show WS K _ [some (.ref p), some (.int n), none, none] M _
  refine ws_mid (MidN M p n) ?_ ?_
  · have same : MidN M p n [some (.ref p), some (.int n), none, none] M := ⟨_, none, none, rfl, (um_id hp).symm, sc, pos, cur, seed, rfl, hpos⟩
    walk_at "e"
    refine ite_b (fun _ => ?_) (fun _ => ite_f rfl (ws_next same))
    walk_at "e"
    refine ite_b (fun hlt => ?_) (fun _ => ws_next same)
    have hlt' := of_decide_eq_true hlt
    have hk : pos.toNat < sc.length := by omega
    walk_at "e"
    case hx => exact atI_ok hpos (get_two (List.getElem?_eq_getElem hk))
    refine ws_seq (ws_augL (w_var rfl (w_int ⟨p, _, 1, pos, rfl, rfl, hp, rfl, w_int ⟨1, rfl, hp, ?_⟩⟩)))
    have hp3 : um M p (.lst [.dat (.list (sc.map .int)), .int (pos + 1), .int cur, .int seed]) p = some (.lst [.dat (.list (sc.map .int)), .int (pos + 1), .int cur, .int seed]) := um_same
    show WS K _ [some (.ref p), some (.int n), some (.int sc[pos.toNat]), none] (um M p (.lst [.dat (.list (sc.map .int)), .int (pos + 1), .int cur, .int seed])) _
    walk_at "e"
    refine ite_b (fun _ => ?_) (fun _ => ?_)
    · refine ws_setL (w_var rfl (w_var rfl (w_int ⟨p, _, 2, 2, rfl, rfl, um_same, rfl, ?_⟩)))
      rw [um_um]
      exact ⟨_, some (.int sc[pos.toNat]), none, rfl, rfl, sc, pos + 1, _, seed, rfl, by omega⟩
    · refine ws_setL ?_
      walk_at "e"
      refine ⟨p, _, 3, 3, rfl, rfl, um_same, rfl, ?_⟩
      rw [um_um]
      exact ⟨_, some (.int sc[pos.toNat]), none, rfl, rfl, sc, pos + 1, cur, _, rfl, by omega⟩
  · rintro ρ' M' ⟨xs, y, z, rfl, rfl, sc, pos, cur, seed, rfl, hpos⟩
    have hp2 : um M p (.lst [.dat (.list (sc.map .int)), .int pos, .int cur, .int seed]) p = some (.lst [.dat (.list (sc.map .int)), .int pos, .int cur, .int seed]) := um_same
    have hdiv : CDivW cur n := wide_div (b := 140) hn0 (by omega) (by decide) (by decide)
    walk_at "e"
    refine ite_b (fun hc => ?_) (fun _ => ?_)
    · have hc' := of_decide_eq_true hc
      walk_at "e"
      refine ws_setL ?_
      walk_at "e"
      refine ⟨p, _, 2, 2, rfl, rfl, um_same, rfl, ?_⟩
      rw [um_um]
      walk_at "e"
      exact q _ _ (Int.emod_nonneg _ (by omega)) (Int.emod_lt_of_pos _ hn0) ⟨sc, pos, _, seed, rfl, hpos⟩
    · refine ws_next ?_
      refine ws_seq (ws_setL ?_)
      walk_at "e"
      refine ⟨p, _, 3, 3, rfl, rfl, um_same, rfl, ?_⟩
      rw [um_um]
      have hp4 : um M p (.lst [.dat (.list (sc.map .int)), .int pos, .int cur, .int ((seed * 69621 + 12345) % 2147483647)]) p = some (.lst [.dat (.list (sc.map .int)), .int pos, .int cur, .int ((seed * 69621 + 12345) % 2147483647)]) := um_same
      show WS K _ [some (.ref p), some (.int n), y, z] (um M p (.lst [.dat (.list (sc.map .int)), .int pos, .int cur, .int ((seed * 69621 + 12345) % 2147483647)])) _
      walk_at "e"
      exact q _ _ (Int.emod_nonneg _ (by omega)) (Int.emod_lt_of_pos _ hn0) ⟨sc, pos, cur, _, rfl, hpos⟩

/-! equal data is the same -/
def A_same (n : Nat) : ASp := fun ss M Q => ∃ x : PyData, ss = [.dat x, .dat x] ∧ okD n x = true ∧ Q (.bl true) M
def A_sameN : Nat → ASp
  | 0 => fun _ _ _ => False
  | n + 1 => A_same n
theorem ok_sameN (T : Txt K mg a d) : ∀ n : Nat, FnOk P w K mg base CX0 n a.law_same d.law_same ["_law_actual", "_law_expected"] (conc K (A_sameN n)) := by
  intro n
  induction n with
  | zero => exact ⟨fun vs H Q E h => by obtain ⟨_, _, _, _, _, _, z, _⟩ := h; exact z.elim, fun A outer s H args us vs Q E _ _ _ _ h => by obtain ⟨_, _, _, _, _, _, z, _⟩ := h; exact z.elim⟩
  | succ n ih =>
    have G_law_same := ih
    refine ab_ok T.F_law_same sc_law_same (fun ss M Q ⟨x, e, _⟩ => by subst e; rfl) fun cdv Ar outer s H E hr => ?_
    have hu64 := hr.units
    refine ⟨_, (pss_cons (ps_if (pt_cmpR op_isN (pv 1) pe_non (nomark _)) (pss_one (ps_ret (pe_cmpR op_isN (pv 0) pe_non (nomark _)))) pss_nil)
  (pss_cons (ps_if (pt_val (pe_callB (r := rIsi K) call_isi (by rfl) T.n_isinstance (by decide +kernel) (pa_cons (pv 1) (pa_cons (pe_bltn (v := .ty "bool") (u := .type "bool") (by rfl) T.n_bool (by decide +kernel) rfl) pa_nil)))) (pss_one (ps_ret (pe_and (pe_callB (r := rIsi K) call_isi (by rfl) T.n_isinstance (by decide +kernel) (pa_cons (pv 0) (pa_cons (pe_bltn (v := .ty "bool") (u := .type "bool") (by rfl) T.n_bool (by decide +kernel) rfl) pa_nil))) (pe_one (pe_cmpR (r := rEqD K) (op_eqD hu64) (pv 0) (pv 1) (nomark _)))))) pss_nil)
  (pss_cons (ps_if (pt_val (pe_callB (r := rIsi K) call_isi (by rfl) T.n_isinstance (by decide +kernel) (pa_cons (pv 1) (pa_cons (pe_bltn (v := .ty "int") (u := .type "int") (by rfl) T.n_int (by decide +kernel) rfl) pa_nil)))) (pss_one (ps_ret (pe_and (pe_callB (r := rIsi K) call_isi (by rfl) T.n_isinstance (by decide +kernel) (pa_cons (pv 0) (pa_cons (pe_bltn (v := .ty "int") (u := .type "int") (by rfl) T.n_int (by decide +kernel) rfl) pa_nil))) (pe_and (pe_not (pe_callB (r := rIsi K) call_isi (by rfl) T.n_isinstance (by decide +kernel) (pa_cons (pv 0) (pa_cons (pe_bltn (v := .ty "bool") (u := .type "bool") (by rfl) T.n_bool (by decide +kernel) rfl) pa_nil)))) (pe_one (pe_cmpR (r := rEqD K) (op_eqD hu64) (pv 0) (pv 1) (nomark _))))))) pss_nil)
  (pss_cons (ps_if (pt_val (pe_callB (r := rIsi K) call_isi (by rfl) T.n_isinstance (by decide +kernel) (pa_cons (pv 1) (pa_cons (pe_bltn (v := .ty "str") (u := .type "str") (by rfl) T.n_str (by decide +kernel) rfl) pa_nil)))) (pss_one (ps_ret (pe_and (pe_callB (r := rIsi K) call_isi (by rfl) T.n_isinstance (by decide +kernel) (pa_cons (pv 0) (pa_cons (pe_bltn (v := .ty "str") (u := .type "str") (by rfl) T.n_str (by decide +kernel) rfl) pa_nil))) (pe_one (pe_cmpR (r := rEqD K) (op_eqD hu64) (pv 0) (pv 1) (nomark _)))))) pss_nil)
  (pss_cons (ps_if (PW.pt (pw_and (pt_val (pe_callB (r := rIsi K) call_isi (by rfl) T.n_isinstance (by decide +kernel) (pa_cons (pv 1) (pa_cons (pe_bltn (v := .ty "tuple") (u := .type "tuple") (by rfl) T.n_tuple (by decide +kernel) rfl) pa_nil)))) (pw_and1 (pt_not (pt_val (pe_callB (r := rIsi K) call_isi (by rfl) T.n_isinstance (by decide +kernel) (pa_cons (pv 0) (pa_cons (pe_bltn (v := .ty "tuple") (u := .type "tuple") (by rfl) T.n_tuple (by decide +kernel) rfl) pa_nil)))))))) (pss_one (ps_ret pe_bl)) pss_nil)
  (pss_cons (ps_if (PW.pt (pw_and (pt_val (pe_callB (r := rIsi K) call_isi (by rfl) T.n_isinstance (by decide +kernel) (pa_cons (pv 1) (pa_cons (pe_bltn (v := .ty "list") (u := .type "list") (by rfl) T.n_list (by decide +kernel) rfl) pa_nil)))) (pw_and1 (pt_not (pt_val (pe_callB (r := rIsi K) call_isi (by rfl) T.n_isinstance (by decide +kernel) (pa_cons (pv 0) (pa_cons (pe_bltn (v := .ty "list") (u := .type "list") (by rfl) T.n_list (by decide +kernel) rfl) pa_nil)))))))) (pss_one (ps_ret pe_bl)) pss_nil)
  (pss_cons (ps_if (pt_cmpR (r := rNeD K) (op_neD hu64) (pe_callB (r := rLenS K) call_len_seq (by rfl) T.n_len PySem.boot_len (pa_cons (pv 0) pa_nil)) (pe_callB (r := rLenS K) call_len_seq (by rfl) T.n_len PySem.boot_len (pa_cons (pv 1) pa_nil)) (nomark _)) (pss_one (ps_ret pe_bl)) pss_nil)
  (pss_cons (ps_for PassesOwn.never rfl (pi_range1 rfl T.n_range (pa_cons (pe_callB (r := rLenS K) call_len_seq (by rfl) T.n_len PySem.boot_len (pa_cons (pv 1) pa_nil)) pa_nil)) (pg_name (i := 2) sc_law_same.nd rfl (Or.inl rfl)) (pss_one (ps_if (pt_not (pt_val (pe_call G_law_same (hr.mono (by omega)) (by rfl) T.g_law_same T.F_law_same.kp T.b_law_same .nil pass0 (pa_cons (pe_ix (r := rIx K) ix_seq (pv 0) (pv 2) (fun _ _ => rfl)) (pa_cons (pe_ix (r := rIx K) ix_seq (pv 1) (pv 2) (fun _ _ => rfl)) pa_nil))))) (pss_one (ps_ret pe_bl)) pss_nil)))
  (pss_one (ps_ret pe_bl)))))))))), ?_⟩
    rintro ss M Q ⟨x, rfl, hx, q⟩
    walk_at "k"
    show WS K _ [some (.dat x), some (.dat x), none] M _
    walk_at "e"
    cases x with
    | none =>
      walk_at "e"
      exact q
    | bool b =>
      walk_at "e"
      rw [show PyData.eqv (.bool b) (.bool b) = true by cases b <;> rfl]
      exact q
    | int i =>
      walk_at "e"
      rw [decide_eq_true rfl]
      exact q
    | str x =>
      have hsh : PyData.strOk x = true := by cases n <;> simpa [okD] using hx
      walk_at "e"
      rw [decide_eq_true rfl]
      walk_at "e"
      exact q
    | dict _ => cases n <;> cases hx
    | tuple xs =>
      cases n with
      | zero => cases hx
      | succ m =>
        obtain ⟨hl, ho⟩ := okD_tuple hx
        walk_at "e"
        rw [decide_eq_true rfl]
        walk_at "e"
        refine ws_forR1 (n := (xs.length : Int)) (M1 := M) (by walk_at "e"; exact ⟨rfl, rfl⟩) (by omega)
          (fun i ρ' M' => ∃ y, ρ' = [some (.dat (.tuple xs)), some (.dat (.tuple xs)), y] ∧ M' = M) ⟨_, rfl, rfl⟩ ?_ ?_
        · rintro i ρ' M' hi ⟨y, rfl, rfl⟩
          have hi' : i < xs.length := by omega
          refine wg_name ?_
          have hat : atI xs (i : Int) = some xs[i] := atI_nat (List.getElem?_eq_getElem hi')
          walk_at "e"
          refine w2_ixDT hat ?_
          walk_at "e"
          refine w2_ixDT hat ?_
          walk_at "e"
          refine ⟨xs[i], rfl, okD_mem ho (List.getElem_mem hi'), ?_⟩
          walk_at "e"
          exact ⟨_, rfl, rfl⟩
        · rintro ρ' M' ⟨y, rfl, rfl⟩
          walk_at "e"
          exact q
    | list xs =>
      cases n with
      | zero => cases hx
      | succ m =>
        obtain ⟨hl, ho⟩ := okD_list hx
        walk_at "e"
        rw [decide_eq_true rfl]
        walk_at "e"
        refine ws_forR1 (n := (xs.length : Int)) (M1 := M) (by walk_at "e"; exact ⟨rfl, rfl⟩) (by omega)
          (fun i ρ' M' => ∃ y, ρ' = [some (.dat (.list xs)), some (.dat (.list xs)), y] ∧ M' = M) ⟨_, rfl, rfl⟩ ?_ ?_
        · rintro i ρ' M' hi ⟨y, rfl, rfl⟩
          have hi' : i < xs.length := by omega
          refine wg_name ?_
          have hat : atI xs (i : Int) = some xs[i] := atI_nat (List.getElem?_eq_getElem hi')
          walk_at "e"
          refine w2_ixDL hat ?_
          walk_at "e"
          refine w2_ixDL hat ?_
          walk_at "e"
          refine ⟨xs[i], rfl, okD_mem ho (List.getElem_mem hi'), ?_⟩
          walk_at "e"
          exact ⟨_, rfl, rfl⟩
        · rintro ρ' M' ⟨y, rfl, rfl⟩
          walk_at "e"
          exact q

end
end K03


set_option Elab.async false
set_option linter.all false
set_option maxRecDepth 100000
set_option  maxHeartbeats 4000000
namespace K03
open PySem PyProof.Rows L2 Ab
local macro_rules | `(tactic| walk_at "len") => `(tactic| first | decide | omega | (simp only [List.length_append, List.length_map, List.length_replicate, List.length_cons, List.length_nil, List.length_take, List.length_drop, List.length_reverse, List.length_range]; omega))
local macro_rules | `(tactic| walk_at "str") => `(tactic| first | decide +kernel | exact goodS_ok (by assumption) | assumption)
local macro_rules | `(tactic| walk_at "1") => `(tactic| (first
  | (with_reducible refine ws_set ?_)
  | (with_reducible refine ws_ret ?_)
  | (with_reducible refine ws_if ?_)
  | (with_reducible refine ws_drop ?_)
  | (with_reducible refine w_op ?_)
  | (with_reducible refine w_un ?_)
  | (with_reducible refine w_int ?_)
  | (with_reducible refine w_bl ?_)
  | (with_reducible refine w_non ?_)
  | (with_reducible refine w_str ?_)
  | (with_reducible refine w_cb ?_)
  | (with_reducible refine w_call ?_)
  | (with_reducible refine w_sl ?_)
  | (with_reducible refine w_tupD ?_)
  | (with_reducible refine w_chain ?_)
  | (with_reducible refine w_andV ?_)
  | (with_reducible refine w_orV ?_)
  | (with_reducible refine w_notV ?_)
  | (with_reducible refine wo_none ?_)
  | (with_reducible refine wo_some ?_)
  | (with_reducible refine wa_cons ?_)
  | (with_reducible refine wa_nil ?_)
  | (with_reducible refine wt_test ?_)
  | (with_reducible refine wt_B ?_)
  | (with_reducible refine wt_and ?_)
  | (with_reducible refine wt_or ?_)
  | (with_reducible refine wt_not ?_)
  | (with_reducible refine wt_yes ?_)
  | (with_reducible refine w2_i0 ?_)
  | (with_reducible refine w2_b0 ?_)
  | (with_reducible refine w1_neg ?_)
  | ((with_reducible refine w2_i ?hc ?_); (case hc => first | decide | exact ⟨by decide, by decide⟩ | exact Or.inl ⟨by decide, by decide⟩ | exact Or.inr ⟨by decide, by decide⟩ | exact ⟨by decide, by decide, by decide⟩ | omega); skip)
  | ((with_reducible refine' w_var ?hv ?_); (case hv => exact rfl); skip)
  | ((with_reducible show W2 _ (rEqD _) (Sl.dat (PyData.int _)) (Sl.dat (PyData.int _)) _ _); (refine w2_eqI ?_))
  | ((with_reducible show W2 _ (rNeD _) (Sl.dat (PyData.int _)) (Sl.dat (PyData.int _)) _ _); (refine w2_neI ?_))
  | ((with_reducible show W2 _ (rEqD _) (Sl.dat (PyData.str _)) (Sl.dat (PyData.str _)) _ _); (refine' w2_eqS ?h1 ?h2 ?_); (case h1 => walk_at "str"); (case h2 => walk_at "str"); skip)
  | ((with_reducible show W2 _ (rNeD _) (Sl.dat (PyData.str _)) (Sl.dat (PyData.str _)) _ _); (refine' w2_neS ?h1 ?h2 ?_); (case h1 => walk_at "str"); (case h2 => walk_at "str"); skip)
  | ((with_reducible show W2 _ (rEqD _) _ _ _ _); (refine w2_eq ?ha ?hb ?_); (case ha => first | exact shaped_int _ | exact shaped_bool _ | exact shaped_none); (case hb => first | exact shaped_int _ | exact shaped_bool _ | exact shaped_none); skip)
  | ((with_reducible show W2 _ (rNeD _) _ _ _ _); (refine w2_ne ?ha ?hb ?_); (case ha => first | exact shaped_int _ | exact shaped_bool _ | exact shaped_none); (case hb => first | exact shaped_int _ | exact shaped_bool _ | exact shaped_none); skip)
  | ((with_reducible show W2 _ _ _ _ _ _); (refine w2_isN ?_))
  | ((with_reducible show W2 _ rIsB _ _ _ _); (refine w2_isB ?_))
  | ((with_reducible show W2 _ rNotB _ _ _ _); (refine w2_notB ?_))
  | ((with_reducible show W2 _ _ _ _ _ _); (refine w2_notN ?_))
  | (with_reducible refine wl_lenE ?_)
  | (with_reducible refine wl_lenD ?_)
  | (with_reducible refine wl_lenTD ?_)
  | (with_reducible refine wl_listE ?_)
  | (with_reducible refine wsl_E ?_)
  | ((with_reducible refine' w2_catE ?hl ?_); (try (case hl => walk_at "len")); skip)
  | ((with_reducible refine' w2_rep1 ?h1 ?h2 ?_); (try (case h1 => first | decide | omega)); (try (case h2 => first | decide | omega)); skip)
  | ((with_reducible show WL _ _ [_] _ _); (refine' wl_len ?hl ?_); (case hl => first | exact lsv_dat | exact lsv_ref um_same | exact lsv_ref (by assumption)); skip)
  | ((with_reducible show WL _ _ [_] _ _); (refine' wl_list ?hl ?_); (case hl => first | exact .inl lsv_dat | exact .inl (lsv_ref (by assumption))); skip)
  | ((with_reducible show WSl _ (rSlL _) _ _ _ _ _); (refine' wsl_lst ?hl ?_); (case hl => first | exact lsv_dat | exact lsv_ref um_same | exact lsv_ref (by assumption)); skip)
  | ((with_reducible show WL _ _ [_] _ _); (refine wl_int ?_))
  | ((with_reducible show WL _ _ [_] _ _); (refine wl_intb ?_))
  | ((with_reducible show WL _ _ [_, _] _ _); (refine wl_min ?_))
  | ((with_reducible first | show W2 _ (rIxL _) (Sl.dat (PyData.list (List.cons _ _))) (Sl.dat (PyData.int _)) _ _ | show W2 _ (rIxL _) (Sl.dat (PyData.list (List.map PyData.int (List.cons _ _)))) (Sl.dat (PyData.int _)) _ _); (refine' w2_ixAny ?h0 ?h1 ?_); (case h0 => omega); (case h1 => first | omega | (simp only [List.length_cons, List.length_nil, List.length_map]; omega)); skip)
  | ((with_reducible show W2 _ (rIxL _) _ _ _ _); (refine' w2_ixL ?hs ?hx ?_); (case hs => first | exact lsv_dat | exact lsv_ref um_same | exact lsv_ref (by assumption)); (try (case hx => exact rfl)); skip)
  | ((with_reducible show W2 _ (rIxT _) _ _ _ _); (refine' w2_ixT ?hx ?_); (case hx => exact rfl); skip)
  | ((with_reducible show WL _ (rIsi _) [_, _] _ _); (refine' wl_isi ?hb ?_); (case hb => first | exact isi_bool _ | exact isi_int _ | exact isi_str _ | exact isi_tuple _ | exact isi_list _); skip)
  | ((with_reducible show W _ (tC (V.ty _)) _ _ _); (refine w_raw ?_))
  | ((with_reducible show W _ (tC (V.ref _)) _ _ _); (refine w_raw ?_))
  | ((with_reducible show WSl _ (rSlA _) _ _ _ _ _); (refine wsl_tup ?_))
  | ((with_reducible show WL _ (rTupS _) [Sl.dat (PyData.list _)] _ _); (refine wl_tuple lsv_dat ?_))
  | ((with_reducible show W2 _ (rCatA _) _ _ _ _); (refine' w2_catT ?hl ?_); (try (case hl => walk_at "len")); skip)
  | ((with_reducible show WL _ _ [_] _ _); (refine' wl_lenT ?hl ?_); (case hl => exact tpv_dat); skip)
  | ((with_reducible refine' w_fldI ?hv ?hM ?c ?n ?l ?_); (case hv => exact rfl); (case hM => first | assumption | exact um_same); (case c => assumption); (case n => assumption); (case l => walk_at "fl"); skip)
  | ((with_reducible refine' w_dgetI ?hv ?hM ?hx ?_); (case hv => exact rfl); (case hM => first | assumption | exact um_same); (case hx => walk_at "wg"); skip)
  | ((with_reducible refine' ws_fldI ?hv ?c ?n ?_); (case hv => exact rfl); (case c => assumption); (case n => assumption); skip)
  | (with_reducible refine ws_next ?_)
  | ((with_reducible show WS _ Ends.nx _ _ _); (refine ws_next ?_))
  | (with_reducible refine ite_t rfl ?_)
  | (with_reducible refine ite_f rfl ?_)
  | ((with_reducible refine' ite_t ?hb ?_); (case hb => decide +kernel); skip)
  | ((with_reducible refine' ite_f ?hb ?_); (case hb => decide +kernel); skip)
  | ((with_reducible show ∃ b : Bool, _ = Sl.bl b ∧ _); (with_reducible refine ⟨_, rfl, ?_⟩))
  | ((with_reducible show ∃ i : Int, _ = Sl.int i ∧ _); (with_reducible refine ⟨_, rfl, ?_⟩))
  | ((with_reducible show List.length _ ≤ 100000 ∧ _); (refine ⟨(by simp), ?_⟩))
  | ((with_reducible show ∃ ds : List PyData, datsOf _ = some ds ∧ _); (refine ⟨_, rfl, ?_⟩))))
local macro_rules | `(tactic| walk_at "e") => `(tactic| repeat (first | (with_reducible refine ws_seq ?_) | (walk_at "1")))
local macro_rules | `(tactic| walk_at "g") => `(tactic| repeat (first | (walk_at "1") | ((with_reducible refine w_lstI (wa_cons ?_)); (repeat (walk_at "1")); (with_reducible show ∃ ns : List Int, itemsI _ = some ns ∧ _); (refine ⟨_, rfl, ?_⟩)) | (with_reducible refine w_lstD ?_)))
local macro_rules | `(tactic| walk_at "f") => `(tactic| repeat (first | (with_reducible refine ws_seq ?_) | (walk_at "1") | ((with_reducible refine w_lstI (wa_cons ?_)); (repeat (walk_at "1")); (with_reducible show ∃ ns : List Int, itemsI _ = some ns ∧ _); (refine ⟨_, rfl, ?_⟩)) | (with_reducible refine w_lstD ?_)))
local macro_rules | `(tactic| walk_at "k") => `(tactic| first | dsimp only [cxOf, Cx.nox, Cx.wish] | skip)

section
variable {P : Program} {w : World} {K : PySem.W.Frag} {mg : Str → Option Value} {base : Heap} {a : AD} {d : FD}
/-! the draws of values, terms, literals, items -/
abbrev A_draw (P : PyData → Prop) : ASp := A_gen (· = []) fun _ => P
def charS : Str := " !\"#$&'()*+,-./0123456789:;<=>?@ABCDEFGHIJKLMNOPQRSTUVWXYZ[\\]^_`abcdefghijklmnopqrstuvwxyz{|}~"
def A_chars : ASp := fun ss M Q => ss = [] ∧ Q (.str charS) M
theorem chars_ok : charS.length = 94 ∧ ∀ c ∈ charS.cps.toList, goodS ⟨#[c]⟩ = true := by decide +kernel
theorem ok_chars (T : Txt K mg a d) : FnOk P w K mg base CX0 1 a.law_characters d.law_characters [] (conc K A_chars) := by
  refine ab_ok T.F_law_characters sc_law_characters (fun ss M Q ⟨e, _⟩ => by subst e; rfl) fun cdv Ar outer s H E hr => ⟨_, (pss_one (ps_ret pe_str)), ?_⟩
  rintro ss M Q ⟨rfl, q⟩
  walk_at "k"
  show WS K _ [] M _
  walk_at "e"
  exact q
theorem sgn_mul {x n : Int} {M : MH} {Q : Sl → MH → Prop} (x0 : 0 ≤ x) (x1 : x < 2) (hn : n.natAbs < 10 ^ 30) (q : ∀ n : Int, n.natAbs < 10 ^ 30 → Q (.int n) M) : W2 K (rI CMulW fun i j => V.int (i * j)) (Sl.int (1 - 2 * x)) (Sl.int n) M Q := by
  have hx : x = 0 ∨ x = 1 := by omega
  refine w2_i (wide_mul (a := 3) (b := 100) (by omega) (by omega) (by decide) (by decide) (by decide)) (q _ ?_)
  rcases hx with rfl | rfl
  · simpa using hn
  · simpa using hn
theorem ok_value (T : Txt K mg a d) : FnOk P w K mg base CX0 2 a.law_value d.law_value ["_law_state"] (conc K (A_draw fun d => isVal d = true)) := by
  have G_law_next : FnOk P w K mg base CX0 1 a.law_next d.law_next ["_law_state", "_law_limit"] (conc K A_next) := ok_next T
  have G_law_characters : FnOk P w K mg base CX0 1 a.law_characters d.law_characters [] (conc K A_chars) := ok_chars T
  refine ab_ok T.F_law_value sc_law_value (fun ss M Q ⟨p, xs, ds, e, e2, _⟩ => by subst e e2; rfl) fun cdv Ar outer s H E hr => ?_
  have hu64 := hr.units
  refine ⟨_, (pss_cons (ps_set (i := 1) sc_law_value.nd rfl (Or.inl rfl) (pe_call G_law_next (hr.mono (by omega)) (by rfl) T.g_law_next T.F_law_next.kp T.b_law_next .nil pass0 (pa_cons (pv 0) (pa_cons pe_int pa_nil))))
  (pss_cons (ps_if (pt_cmpR op_lt (pv 1) pe_int (nomark _)) (pss_one (ps_ret (pe_ix (r := rIxL K) ix_list (pe_lst (pa_cons pe_int (pa_cons pe_int (pa_cons pe_int (pa_cons (pe_un un_neg pe_int) pa_nil))))) (pv 1) (fun _ _ => rfl)))) pss_nil)
  (pss_cons (ps_if (pt_cmpR (r := rEqD K) (op_eqD hu64) (pv 1) pe_int (nomark _)) (pss_one (ps_ret (pe_op op_mulW (pe_op op_sub pe_int (pe_op op_mul pe_int (pe_call G_law_next (hr.mono (by omega)) (by rfl) T.g_law_next T.F_law_next.kp T.b_law_next .nil pass0 (pa_cons (pv 0) (pa_cons pe_int pa_nil))))) (pe_op op_sub (pe_op op_sub (pe_op op_pow pe_int pe_int) pe_int) (pe_call G_law_next (hr.mono (by omega)) (by rfl) T.g_law_next T.F_law_next.kp T.b_law_next .nil pass0 (pa_cons (pv 0) (pa_cons pe_int pa_nil))))))) pss_nil)
  (pss_cons (ps_if (pt_cmpR (r := rEqD K) (op_eqD hu64) (pv 1) pe_int (nomark _)) (pss_one (ps_ret (pe_op op_mulW (pe_op op_sub pe_int (pe_op op_mul pe_int (pe_call G_law_next (hr.mono (by omega)) (by rfl) T.g_law_next T.F_law_next.kp T.b_law_next .nil pass0 (pa_cons (pv 0) (pa_cons pe_int pa_nil))))) (pe_ix (r := rIxL K) ix_list (pe_lst (pa_cons pe_int (pa_cons pe_int (pa_cons pe_int (pa_cons pe_int (pa_cons (pe_call G_law_next (hr.mono (by omega)) (by rfl) T.g_law_next T.F_law_next.kp T.b_law_next .nil pass0 (pa_cons (pv 0) (pa_cons (pe_op op_pow pe_int pe_int) pa_nil))) pa_nil)))))) (pe_call G_law_next (hr.mono (by omega)) (by rfl) T.g_law_next T.F_law_next.kp T.b_law_next .nil pass0 (pa_cons (pv 0) (pa_cons pe_int pa_nil))) (fun _ _ => rfl))))) pss_nil)
  (pss_cons (ps_if (pt_cmpR op_lt (pv 1) pe_int (nomark _)) (pss_one (ps_ret (pe_ix (r := rIxL K) ix_list (pe_lst (pa_cons pe_str (pa_cons pe_str (pa_cons pe_str (pa_cons pe_str pa_nil))))) (pe_op op_sub (pv 1) pe_int) (fun _ _ => rfl)))) pss_nil)
  (pss_cons (ps_set (i := 2) sc_law_value.nd rfl (Or.inr rfl) (pe_call G_law_next (hr.mono (by omega)) (by rfl) T.g_law_next T.F_law_next.kp T.b_law_next .nil pass0 (pa_cons (pv 0) (pa_cons pe_int pa_nil))))
  (pss_cons (ps_set (i := 3) sc_law_value.nd rfl (Or.inr rfl) (pe_call G_law_next (hr.mono (by omega)) (by rfl) T.g_law_next T.F_law_next.kp T.b_law_next .nil pass0 (pa_cons (pv 0) (pa_cons pe_int pa_nil))))
  (pss_one (ps_ret (pe_join pe_str (pe_lc (own := [("_law_j", 4)]) rfl sc_law_value.nd (pi_range1 rfl T.n_range (pa_cons (pe_call G_law_next (hr.mono (by omega)) (by rfl) T.g_law_next T.F_law_next.kp T.b_law_next .nil pass0 (pa_cons (pv 0) (pa_cons pe_int pa_nil))) pa_nil)) (blkOk_by (own := [("_law_j", 4)]) (N := ["_law_state", "_law_pick", "_law_start", "_law_step", "_law_j"]) (sc := (defScope s_law_value)) (by decide +kernel)) (fun _ _ _ _ _ => (pg_name (i := 4) sc_law_value.nd rfl (Or.inl rfl))) (fun _ _ _ _ _ => pts_nil) (fun _ _ _ _ _ => (pe_ix ix_str (pe_call0 G_law_characters (hr.mono (by omega)) (by rfl) T.g_law_characters T.F_law_characters.kp T.b_law_characters .nil pass0) (pe_op op_mod (pe_op op_add (pv 2) (pe_op op_mulW (pv 3) (pv 4))) pe_int) (fun _ _ => rfl)))))))))))))), ?_⟩
  rintro ss M Q ⟨p, xs, ds, rfl, rfl, hM, hD, q⟩
  obtain ⟨M0, rfl⟩ : ∃ M0, M = um M0 p (.lst xs) := ⟨M, (um_id hM).symm⟩
  simp only [um_um] at q
  walk_at "k"
  show WS K _ [some (.ref p), none, none, none, none] (um M0 p (.lst xs)) _
  walk_at "e"
  refine a_next hD (by decide) (by decide) fun v ys h0 h1 hD1 => ?_
  walk_at "f"
  refine ite_d (fun h => ?_) (fun h => ?_)
  · walk_at "f"
    have all : ∀ d ∈ List.map PyData.int [0, 1, 2, -1], isVal d = true := by decide +kernel
    exact fun d hd => q d _ (all d hd) hD1
  walk_at "f"
  refine ite_d (fun h4 => ?_) (fun h4 => ?_)
  · walk_at "f"
    refine a_next hD1 (by decide) (by decide) fun x zs x0 x1 hD2 => ?_
    walk_at "f"
    refine a_next hD2 (by decide) (by decide) fun y zs y0 y1 hD3 => ?_
    walk_at "f"
    have e30 : (10 : Int) ^ Int.toNat 30 = 1000000000000000000000000000000 := by decide +kernel
    rw [e30]
    exact sgn_mul x0 x1 (by omega) fun n hn => q (.int n) _ (decide_eq_true hn) hD3
  walk_at "f"
  refine ite_d (fun h5 => ?_) (fun h5 => ?_)
  · walk_at "f"
    refine a_next hD1 (by decide) (by decide) fun x zs x0 x1 hD2 => ?_
    walk_at "f"
    refine a_next hD2 (by decide) (by decide) fun y zs y0 y1 hD3 => ?_
    walk_at "f"
    refine a_next hD3 (by decide) (by decide) fun z zs z0 z1 hD4 => ?_
    walk_at "f"
    have e30 : (10 : Int) ^ Int.toNat 30 = 1000000000000000000000000000000 := by decide +kernel
    rw [e30] at y1
    intro d hd
    have : ∃ n : Int, d = .int n ∧ n.natAbs < 10 ^ 30 := by
      simp only [List.mem_cons, List.not_mem_nil, or_false] at hd
      rcases hd with rfl | rfl | rfl | rfl | rfl <;> exact ⟨_, rfl, by omega⟩
    obtain ⟨n, rfl, hn⟩ := this
    exact sgn_mul x0 x1 hn fun n hn => q (.int n) _ (decide_eq_true hn) hD4
  walk_at "f"
  refine ite_d (fun h6 => ?_) (fun h6 => ?_)
  · walk_at "f"
    have all : ∀ d ∈ [PyData.str "", PyData.str "a", PyData.str "ab", PyData.str "1"], isVal d = true := by decide +kernel
    exact fun d hd => q d _ (all d hd) hD1
  walk_at "f"
  refine a_next hD1 (by decide) (by decide) fun x zs x0 x1 hD2 => ?_
  walk_at "f"
  refine a_next hD2 (by decide) (by decide) fun y zs y0 y1 hD3 => ?_
  walk_at "f"
  refine w_join ?_
  walk_at "f"
  refine ⟨_, rfl, ?_⟩
  refine w_lcGen (p := p) (by decide) (fun d => ∃ z : Str, d = .str z ∧ (z.cps.size = 1 ∧ goodS z = true)) ?_
  walk_at "f"
  refine a_next hD3 (by decide) (by decide) fun n zs n0 n1 hD4 => ?_
  walk_at "f"
  refine ⟨n, M0, zs, rfl, rfl, hD4, by omega, by omega, fun i M2 us hi hu => ?_, fun ds us hu hl hP => ?_⟩
  · walk_at "f"
    refine ⟨rfl, ?_⟩
    walk_at "f"
    refine w2_i (wide_mul (a := 10) (b := 40) (by omega) (by omega) (by decide) (by decide) (by decide)) ?_
    walk_at "f"
    refine w2_ixSAny (by rw [chars_ok.1]; decide) (by omega) (by rw [chars_ok.1]; omega) fun c hc => ?_
    exact ⟨_, us, rfl, rfl, hu, _, rfl, rfl, chars_ok.2 c hc⟩
  · obtain ⟨ys, rfl, hys⟩ := list_enc hP
    refine ⟨ys, rfl, ?_, ?_⟩
    · rw [sum_ones (sep := Str.ofString "") (by decide +kernel) hys]
      rw [List.length_map] at hl
      omega
    · refine q _ _ ?_ hu
      exact good_join (by decide +kernel) (by rw [List.length_map] at hl; omega) hys
end
end K03


set_option Elab.async false
set_option linter.all false
set_option maxRecDepth 100000
set_option  maxHeartbeats 4000000
namespace K03
open PySem PyProof.Rows L2 Ab
local macro_rules | `(tactic| walk_at "len") => `(tactic| first | decide | omega | (simp only [List.length_append, List.length_map, List.length_replicate, List.length_cons, List.length_nil, List.length_take, List.length_drop, List.length_reverse, List.length_range]; omega))
local macro_rules | `(tactic| walk_at "str") => `(tactic| first | decide +kernel | exact goodS_ok (by assumption) | assumption)
local macro_rules | `(tactic| walk_at "1") => `(tactic| (first
  | (with_reducible refine ws_set ?_)
  | (with_reducible refine ws_ret ?_)
  | (with_reducible refine ws_if ?_)
  | (with_reducible refine ws_drop ?_)
  | (with_reducible refine w_op ?_)
  | (with_reducible refine w_un ?_)
  | (with_reducible refine w_int ?_)
  | (with_reducible refine w_bl ?_)
  | (with_reducible refine w_non ?_)
  | (with_reducible refine w_str ?_)
  | (with_reducible refine w_cb ?_)
  | (with_reducible refine w_call ?_)
  | (with_reducible refine w_sl ?_)
  | (with_reducible refine w_tupD ?_)
  | (with_reducible refine w_chain ?_)
  | (with_reducible refine w_andV ?_)
  | (with_reducible refine w_orV ?_)
  | (with_reducible refine w_notV ?_)
  | (with_reducible refine wo_none ?_)
  | (with_reducible refine wo_some ?_)
  | (with_reducible refine wa_cons ?_)
  | (with_reducible refine wa_nil ?_)
  | (with_reducible refine wt_test ?_)
  | (with_reducible refine wt_B ?_)
  | (with_reducible refine wt_and ?_)
  | (with_reducible refine wt_or ?_)
  | (with_reducible refine wt_not ?_)
  | (with_reducible refine wt_yes ?_)
  | (with_reducible refine w2_i0 ?_)
  | (with_reducible refine w2_b0 ?_)
  | (with_reducible refine w1_neg ?_)
  | ((with_reducible refine w2_i ?hc ?_); (case hc => first | decide | exact ⟨by decide, by decide⟩ | exact Or.inl ⟨by decide, by decide⟩ | exact Or.inr ⟨by decide, by decide⟩ | exact ⟨by decide, by decide, by decide⟩ | omega); skip)
  | ((with_reducible refine' w_var ?hv ?_); (case hv => exact rfl); skip)
  | ((with_reducible show W2 _ (rEqD _) (Sl.dat (PyData.int _)) (Sl.dat (PyData.int _)) _ _); (refine w2_eqI ?_))
  | ((with_reducible show W2 _ (rNeD _) (Sl.dat (PyData.int _)) (Sl.dat (PyData.int _)) _ _); (refine w2_neI ?_))
  | ((with_reducible show W2 _ (rEqD _) (Sl.dat (PyData.str _)) (Sl.dat (PyData.str _)) _ _); (refine' w2_eqS ?h1 ?h2 ?_); (case h1 => walk_at "str"); (case h2 => walk_at "str"); skip)
  | ((with_reducible show W2 _ (rNeD _) (Sl.dat (PyData.str _)) (Sl.dat (PyData.str _)) _ _); (refine' w2_neS ?h1 ?h2 ?_); (case h1 => walk_at "str"); (case h2 => walk_at "str"); skip)
  | ((with_reducible show W2 _ (rEqD _) _ _ _ _); (refine w2_eq ?ha ?hb ?_); (case ha => first | exact shaped_int _ | exact shaped_bool _ | exact shaped_none); (case hb => first | exact shaped_int _ | exact shaped_bool _ | exact shaped_none); skip)
  | ((with_reducible show W2 _ (rNeD _) _ _ _ _); (refine w2_ne ?ha ?hb ?_); (case ha => first | exact shaped_int _ | exact shaped_bool _ | exact shaped_none); (case hb => first | exact shaped_int _ | exact shaped_bool _ | exact shaped_none); skip)
  | ((with_reducible show W2 _ _ _ _ _ _); (refine w2_isN ?_))
  | ((with_reducible show W2 _ rIsB _ _ _ _); (refine w2_isB ?_))
  | ((with_reducible show W2 _ rNotB _ _ _ _); (refine w2_notB ?_))
  | ((with_reducible show W2 _ _ _ _ _ _); (refine w2_notN ?_))
  | (with_reducible refine wl_lenE ?_)
  | (with_reducible refine wl_lenD ?_)
  | (with_reducible refine wl_lenTD ?_)
  | (with_reducible refine wl_listE ?_)
  | (with_reducible refine wsl_E ?_)
  | ((with_reducible refine' w2_catE ?hl ?_); (try (case hl => walk_at "len")); skip)
  | ((with_reducible refine' w2_rep1 ?h1 ?h2 ?_); (try (case h1 => first | decide | omega)); (try (case h2 => first | decide | omega)); skip)
  | ((with_reducible show WL _ _ [_] _ _); (refine' wl_len ?hl ?_); (case hl => first | exact lsv_dat | exact lsv_ref um_same | exact lsv_ref (by assumption)); skip)
  | ((with_reducible show WL _ _ [_] _ _); (refine' wl_list ?hl ?_); (case hl => first | exact .inl lsv_dat | exact .inl (lsv_ref (by assumption))); skip)
  | ((with_reducible show WSl _ (rSlL _) _ _ _ _ _); (refine' wsl_lst ?hl ?_); (case hl => first | exact lsv_dat | exact lsv_ref um_same | exact lsv_ref (by assumption)); skip)
  | ((with_reducible show WL _ _ [_] _ _); (refine wl_int ?_))
  | ((with_reducible show WL _ _ [_] _ _); (refine wl_intb ?_))
  | ((with_reducible show WL _ _ [_, _] _ _); (refine wl_min ?_))
  | ((with_reducible first | show W2 _ (rIxL _) (Sl.dat (PyData.list (List.cons _ _))) (Sl.dat (PyData.int _)) _ _ | show W2 _ (rIxL _) (Sl.dat (PyData.list (List.map PyData.int (List.cons _ _)))) (Sl.dat (PyData.int _)) _ _); (refine' w2_ixAny ?h0 ?h1 ?_); (case h0 => omega); (case h1 => first | omega | (simp only [List.length_cons, List.length_nil, List.length_map]; omega)); skip)
  | ((with_reducible show W2 _ (rIxL _) _ _ _ _); (refine' w2_ixL ?hs ?hx ?_); (case hs => first | exact lsv_dat | exact lsv_ref um_same | exact lsv_ref (by assumption)); (try (case hx => exact rfl)); skip)
  | ((with_reducible show W2 _ (rIxT _) _ _ _ _); (refine' w2_ixT ?hx ?_); (case hx => exact rfl); skip)
  | ((with_reducible show WL _ (rIsi _) [_, _] _ _); (refine' wl_isi ?hb ?_); (case hb => first | exact isi_bool _ | exact isi_int _ | exact isi_str _ | exact isi_tuple _ | exact isi_list _); skip)
  | ((with_reducible show W _ (tC (V.ty _)) _ _ _); (refine w_raw ?_))
  | ((with_reducible show W _ (tC (V.ref _)) _ _ _); (refine w_raw ?_))
  | ((with_reducible show WSl _ (rSlA _) _ _ _ _ _); (refine wsl_tup ?_))
  | ((with_reducible show WL _ (rTupS _) [Sl.dat (PyData.list _)] _ _); (refine wl_tuple lsv_dat ?_))
  | ((with_reducible show W2 _ (rCatA _) _ _ _ _); (refine' w2_catT ?hl ?_); (try (case hl => walk_at "len")); skip)
  | ((with_reducible show WL _ _ [_] _ _); (refine' wl_lenT ?hl ?_); (case hl => exact tpv_dat); skip)
  | ((with_reducible refine' w_fldI ?hv ?hM ?c ?n ?l ?_); (case hv => exact rfl); (case hM => first | assumption | exact um_same); (case c => assumption); (case n => assumption); (case l => walk_at "fl"); skip)
  | ((with_reducible refine' w_dgetI ?hv ?hM ?hx ?_); (case hv => exact rfl); (case hM => first | assumption | exact um_same); (case hx => walk_at "wg"); skip)
  | ((with_reducible refine' ws_fldI ?hv ?c ?n ?_); (case hv => exact rfl); (case c => assumption); (case n => assumption); skip)
  | (with_reducible refine ws_next ?_)
  | ((with_reducible show WS _ Ends.nx _ _ _); (refine ws_next ?_))
  | (with_reducible refine ite_t rfl ?_)
  | (with_reducible refine ite_f rfl ?_)
  | ((with_reducible refine' ite_t ?hb ?_); (case hb => decide +kernel); skip)
  | ((with_reducible refine' ite_f ?hb ?_); (case hb => decide +kernel); skip)
  | ((with_reducible show ∃ b : Bool, _ = Sl.bl b ∧ _); (with_reducible refine ⟨_, rfl, ?_⟩))
  | ((with_reducible show ∃ i : Int, _ = Sl.int i ∧ _); (with_reducible refine ⟨_, rfl, ?_⟩))
  | ((with_reducible show List.length _ ≤ 100000 ∧ _); (refine ⟨(by simp), ?_⟩))
  | ((with_reducible show ∃ ds : List PyData, datsOf _ = some ds ∧ _); (refine ⟨_, rfl, ?_⟩))))
local macro_rules | `(tactic| walk_at "e") => `(tactic| repeat (first | (with_reducible refine ws_seq ?_) | (walk_at "1")))
local macro_rules | `(tactic| walk_at "g") => `(tactic| repeat (first | (walk_at "1") | ((with_reducible refine w_lstI (wa_cons ?_)); (repeat (walk_at "1")); (with_reducible show ∃ ns : List Int, itemsI _ = some ns ∧ _); (refine ⟨_, rfl, ?_⟩)) | (with_reducible refine w_lstD ?_)))
local macro_rules | `(tactic| walk_at "f") => `(tactic| repeat (first | (with_reducible refine ws_seq ?_) | (walk_at "1") | ((with_reducible refine w_lstI (wa_cons ?_)); (repeat (walk_at "1")); (with_reducible show ∃ ns : List Int, itemsI _ = some ns ∧ _); (refine ⟨_, rfl, ?_⟩)) | (with_reducible refine w_lstD ?_)))
local macro_rules | `(tactic| walk_at "k") => `(tactic| first | dsimp only [cxOf, Cx.nox, Cx.wish] | skip)

section
variable {P : Program} {w : World} {K : PySem.W.Frag} {mg : Str → Option Value} {base : Heap} {a : AD} {d : FD}
abbrev A_row : ASp := A_gen (fun ds => ∃ n : Int, ds = [.int n] ∧ 0 ≤ n ∧ n ≤ 1000) fun ds d => ∃ row : List Val, d = encR row ∧ okR row ∧ ds = [.int (row.length : Int)]
theorem ok_row (T : Txt K mg a d) : FnOk P w K mg base CX0 3 a.law_row d.law_row ["_law_state", "_law_width"] (conc K A_row) := by
  have G_law_value : FnOk P w K mg base CX0 2 a.law_value d.law_value ["_law_state"] (conc K (A_draw fun d => isVal d = true)) := ok_value T
  refine ab_ok T.F_law_row sc_law_row (fun ss M Q ⟨p, xs, ds, e, ⟨n, e2, _⟩, _⟩ => by subst e e2; rfl) fun cdv Ar outer s H E hr => ⟨_, (pss_one (ps_ret (pe_callTy (r := rTupS K) call_tuple_of (by rfl) T.n_tuple (by decide +kernel) (pa_cons (pe_lc (own := [("_law_k", 2)]) rfl sc_law_row.nd (pi_range1 rfl T.n_range (pa_cons (pv 1) pa_nil)) (blkOk_by (own := [("_law_k", 2)]) (N := ["_law_state", "_law_width", "_law_k"]) (sc := (defScope s_law_row)) (by decide +kernel)) (fun _ _ _ _ _ => (pg_name (i := 2) sc_law_row.nd rfl (Or.inl rfl))) (fun _ _ _ _ _ => pts_nil) (fun _ _ _ _ _ => (pe_call G_law_value (hr.mono (by omega)) (by rfl) T.g_law_value T.F_law_value.kp T.b_law_value .nil pass0 (pa_cons (pv 0) pa_nil)))) pa_nil)))), ?_⟩
  rintro ss M Q ⟨p, xs, ds, rfl, ⟨n, rfl, n0, n1⟩, hM, hD, q⟩
  obtain ⟨M0, rfl⟩ : ∃ M0, M = um M0 p (.lst xs) := ⟨M, (um_id hM).symm⟩
  simp only [um_um] at q
  walk_at "k"
  show WS K _ [some (.ref p), some (.int n), none] (um M0 p (.lst xs)) _
  walk_at "f"
  refine w_lcGen (p := p) (by decide) (fun d => isVal d = true) ?_
  walk_at "f"
  refine ⟨n, M0, xs, rfl, rfl, hD, by omega, by omega, fun i M2 us hi hu => ?_, fun ds us hu hl hP => ?_⟩
  · walk_at "f"
    refine a_gen0 hu rfl fun d zs hP hD => ?_
    exact ⟨d, zs, rfl, rfl, hD, hP⟩
  · obtain ⟨row, rfl, hrow⟩ := list_enc (f := Val.enc) (R := Val.ok) fun d hd => isVal_of (hP d hd)
    walk_at "f"
    rw [List.length_map] at hl
    exact q _ _ ⟨row, rfl, ⟨by omega, hrow⟩, by rw [hl, Int.toNat_of_nonneg n0]⟩ hu
theorem ok_name (T : Txt K mg a d) : FnOk P w K mg base CX0 2 a.law_name d.law_name ["_law_state"] (conc K (A_draw fun d => isName d = true)) := by
  have G_law_next : FnOk P w K mg base CX0 1 a.law_next d.law_next ["_law_state", "_law_limit"] (conc K A_next) := ok_next T
  refine ab_ok T.F_law_name sc_law_name (fun ss M Q ⟨p, xs, ds, e, e2, _⟩ => by subst e e2; rfl) fun cdv Ar outer s H E hr => ⟨_, (pss_one (ps_ret (pe_ix (r := rIxL K) ix_list (pe_lst (pa_cons pe_str (pa_cons pe_str (pa_cons pe_str (pa_cons pe_str (pa_cons pe_str (pa_cons pe_str (pa_cons pe_str (pa_cons pe_str pa_nil))))))))) (pe_call G_law_next (hr.mono (by omega)) (by rfl) T.g_law_next T.F_law_next.kp T.b_law_next .nil pass0 (pa_cons (pv 0) (pa_cons pe_int pa_nil))) (fun _ _ => rfl)))), ?_⟩
  rintro ss M Q ⟨p, xs, ds, rfl, rfl, hM, hD, q⟩
  obtain ⟨M0, rfl⟩ : ∃ M0, M = um M0 p (.lst xs) := ⟨M, (um_id hM).symm⟩
  simp only [um_um] at q
  walk_at "k"
  show WS K _ [some (.ref p)] (um M0 p (.lst xs)) _
  walk_at "f"
  refine a_next hD (by decide) (by decide) fun v ys h0 h1 hD1 => ?_
  walk_at "f"
  have all : ∀ d ∈ [PyData.str "r", PyData.str "r1", PyData.str "r_", PyData.str "longest_name", PyData.str "longest_namf", PyData.str "a", PyData.str "ab", PyData.str "r1x"], isName d = true := by decide +kernel
  exact fun d hd => q d _ (all d hd) hD1
abbrev A_term : ASp := A_draw fun d => ∃ t : Term, d = t.enc ∧ t.ok
theorem ok_term (T : Txt K mg a d) : FnOk P w K mg base CX0 3 a.law_term d.law_term ["_law_state"] (conc K A_term) := by
  have G_law_next : FnOk P w K mg base CX0 1 a.law_next d.law_next ["_law_state", "_law_limit"] (conc K A_next) := ok_next T
  have G_law_name : FnOk P w K mg base CX0 2 a.law_name d.law_name ["_law_state"] (conc K (A_draw fun d => isName d = true)) := ok_name T
  have G_law_value : FnOk P w K mg base CX0 2 a.law_value d.law_value ["_law_state"] (conc K (A_draw fun d => isVal d = true)) := ok_value T
  refine ab_ok T.F_law_term sc_law_term (fun ss M Q ⟨p, xs, ds, e, e2, _⟩ => by subst e e2; rfl) fun cdv Ar outer s H E hr => ?_
  have hu64 := hr.units
  refine ⟨_, (pss_cons (ps_set (i := 1) sc_law_term.nd rfl (Or.inl rfl) (pe_call G_law_next (hr.mono (by omega)) (by rfl) T.g_law_next T.F_law_next.kp T.b_law_next .nil pass0 (pa_cons (pv 0) (pa_cons pe_int pa_nil))))
  (pss_cons (ps_if (pt_cmpR (r := rEqD K) (op_eqD hu64) (pv 1) pe_int (nomark _)) (pss_one (ps_ret (pe_tup (pa_cons pe_str pa_nil)))) pss_nil)
  (pss_cons (ps_if (pt_cmpR (r := rEqD K) (op_eqD hu64) (pv 1) pe_int (nomark _)) (pss_one (ps_ret (pe_tup (pa_cons pe_str (pa_cons (pe_call G_law_value (hr.mono (by omega)) (by rfl) T.g_law_value T.F_law_value.kp T.b_law_value .nil pass0 (pa_cons (pv 0) pa_nil)) pa_nil))))) pss_nil)
  (pss_one (ps_ret (pe_tup (pa_cons pe_str (pa_cons (pe_call G_law_name (hr.mono (by omega)) (by rfl) T.g_law_name T.F_law_name.kp T.b_law_name .nil pass0 (pa_cons (pv 0) pa_nil)) pa_nil)))))))), ?_⟩
  rintro ss M Q ⟨p, xs, ds, rfl, rfl, hM, hD, q⟩
  obtain ⟨M0, rfl⟩ : ∃ M0, M = um M0 p (.lst xs) := ⟨M, (um_id hM).symm⟩
  simp only [um_um] at q
  walk_at "k"
  show WS K _ [some (.ref p), none] (um M0 p (.lst xs)) _
  walk_at "f"
  refine a_next hD (by decide) (by decide) fun v ys h0 h1 hD1 => ?_
  walk_at "f"
  refine ite_d (fun h => ?_) (fun h => ?_)
  · walk_at "f"
    exact q _ _ ⟨.any, rfl, trivial⟩ hD1
  walk_at "f"
  refine ite_d (fun h => ?_) (fun h => ?_)
  · walk_at "f"
    refine a_gen0 hD1 rfl fun d zs hP hD2 => ?_
    obtain ⟨x, rfl, hx⟩ := isVal_of hP
    walk_at "f"
    exact q _ _ ⟨.value x, rfl, hx⟩ hD2
  walk_at "f"
  refine a_gen0 hD1 rfl fun d zs hP hD2 => ?_
  obtain ⟨x, rfl, hx⟩ := isName_of hP
  walk_at "f"
  exact q _ _ ⟨.variable x, rfl, hx⟩ hD2
abbrev A_terms : ASp := A_draw fun d => ∃ t : List Term, d = encT t ∧ okTs t
theorem ok_terms (T : Txt K mg a d) : FnOk P w K mg base CX0 4 a.law_terms d.law_terms ["_law_state"] (conc K A_terms) := by
  have G_law_next : FnOk P w K mg base CX0 1 a.law_next d.law_next ["_law_state", "_law_limit"] (conc K A_next) := ok_next T
  have G_law_term : FnOk P w K mg base CX0 3 a.law_term d.law_term ["_law_state"] (conc K A_term) := ok_term T
  refine ab_ok T.F_law_terms sc_law_terms (fun ss M Q ⟨p, xs, ds, e, e2, _⟩ => by subst e e2; rfl) fun cdv Ar outer s H E hr => ⟨_, (pss_one (ps_ret (pe_callTy (r := rTupS K) call_tuple_of (by rfl) T.n_tuple (by decide +kernel) (pa_cons (pe_lc (own := [("_law_k", 1)]) rfl sc_law_terms.nd (pi_range1 rfl T.n_range (pa_cons (pe_call G_law_next (hr.mono (by omega)) (by rfl) T.g_law_next T.F_law_next.kp T.b_law_next .nil pass0 (pa_cons (pv 0) (pa_cons pe_int pa_nil))) pa_nil)) (blkOk_by (own := [("_law_k", 1)]) (N := ["_law_state", "_law_k"]) (sc := (defScope s_law_terms)) (by decide +kernel)) (fun _ _ _ _ _ => (pg_name (i := 1) sc_law_terms.nd rfl (Or.inl rfl))) (fun _ _ _ _ _ => pts_nil) (fun _ _ _ _ _ => (pe_call G_law_term (hr.mono (by omega)) (by rfl) T.g_law_term T.F_law_term.kp T.b_law_term .nil pass0 (pa_cons (pv 0) pa_nil)))) pa_nil)))), ?_⟩
  rintro ss M Q ⟨p, xs, ds, rfl, rfl, hM, hD, q⟩
  obtain ⟨M0, rfl⟩ : ∃ M0, M = um M0 p (.lst xs) := ⟨M, (um_id hM).symm⟩
  simp only [um_um] at q
  walk_at "k"
  show WS K _ [some (.ref p), none] (um M0 p (.lst xs)) _
  walk_at "f"
  refine w_lcGen (p := p) (by decide) (fun d => ∃ t : Term, d = t.enc ∧ t.ok) ?_
  walk_at "f"
  refine a_next hD (by decide) (by decide) fun n zs n0 n1 hD4 => ?_
  walk_at "f"
  refine ⟨n, M0, zs, rfl, rfl, hD4, by omega, by omega, fun i M2 us hi hu => ?_, fun ds us hu hl hP => ?_⟩
  · walk_at "f"
    refine a_gen0 hu rfl fun d zs hP hD => ?_
    exact ⟨d, zs, rfl, rfl, hD, hP⟩
  · obtain ⟨ts, rfl, hts⟩ := list_enc hP
    walk_at "f"
    rw [List.length_map] at hl
    exact q _ _ ⟨ts, rfl, by omega, hts⟩ hu
abbrev A_lit : ASp := A_draw fun d => ∃ t : Lit, d = t.enc ∧ t.ok
theorem ok_literal (T : Txt K mg a d) : FnOk P w K mg base CX0 5 a.law_literal d.law_literal ["_law_state"] (conc K A_lit) := by
  have G_law_next : FnOk P w K mg base CX0 1 a.law_next d.law_next ["_law_state", "_law_limit"] (conc K A_next) := ok_next T
  have G_law_name : FnOk P w K mg base CX0 2 a.law_name d.law_name ["_law_state"] (conc K (A_draw fun d => isName d = true)) := ok_name T
  have G_law_term : FnOk P w K mg base CX0 3 a.law_term d.law_term ["_law_state"] (conc K A_term) := ok_term T
  have G_law_terms : FnOk P w K mg base CX0 4 a.law_terms d.law_terms ["_law_state"] (conc K A_terms) := ok_terms T
  refine ab_ok T.F_law_literal sc_law_literal (fun ss M Q ⟨p, xs, ds, e, e2, _⟩ => by subst e e2; rfl) fun cdv Ar outer s H E hr => ?_
  have hu64 := hr.units
  refine ⟨_, (pss_cons (ps_set (i := 1) sc_law_literal.nd rfl (Or.inl rfl) (pe_ix (r := rIxL K) ix_list (pe_lst (pa_cons pe_str (pa_cons pe_str (pa_cons pe_str (pa_cons pe_str (pa_cons pe_str (pa_cons pe_str pa_nil))))))) (pe_call G_law_next (hr.mono (by omega)) (by rfl) T.g_law_next T.F_law_next.kp T.b_law_next .nil pass0 (pa_cons (pv 0) (pa_cons pe_int pa_nil))) (fun _ _ => rfl)))
  (pss_cons (ps_if (pt_cmpR (r := rEqD K) (op_eqD hu64) (pv 1) pe_str (nomark _)) (pss_cons (ps_set (i := 2) sc_law_literal.nd rfl (Or.inl rfl) (pe_ix (r := rIxL K) ix_list (pe_lst (pa_cons pe_str (pa_cons pe_str (pa_cons pe_str (pa_cons pe_str (pa_cons pe_str (pa_cons pe_str pa_nil))))))) (pe_call G_law_next (hr.mono (by omega)) (by rfl) T.g_law_next T.F_law_next.kp T.b_law_next .nil pass0 (pa_cons (pv 0) (pa_cons pe_int pa_nil))) (fun _ _ => rfl)))
  (pss_one (ps_ret (pe_tup (pa_cons (pv 1) (pa_cons (pv 2) (pa_cons (pe_call G_law_term (hr.mono (by omega)) (by rfl) T.g_law_term T.F_law_term.kp T.b_law_term .nil pass0 (pa_cons (pv 0) pa_nil)) (pa_cons (pe_call G_law_term (hr.mono (by omega)) (by rfl) T.g_law_term T.F_law_term.kp T.b_law_term .nil pass0 (pa_cons (pv 0) pa_nil)) pa_nil)))))))) pss_nil)
  (pss_cons (ps_if (pt_cmpR (r := rEqD K) (op_eqD hu64) (pv 1) pe_str (nomark _)) (pss_one (ps_ret (pe_tup (pa_cons (pv 1) (pa_cons (pe_call G_law_name (hr.mono (by omega)) (by rfl) T.g_law_name T.F_law_name.kp T.b_law_name .nil pass0 (pa_cons (pv 0) pa_nil)) (pa_cons (pe_ix (r := rIxL K) ix_list (pe_lst (pa_cons pe_str (pa_cons pe_str (pa_cons pe_str pa_nil)))) (pe_call G_law_next (hr.mono (by omega)) (by rfl) T.g_law_next T.F_law_next.kp T.b_law_next .nil pass0 (pa_cons (pv 0) (pa_cons pe_int pa_nil))) (fun _ _ => rfl)) (pa_cons (pe_call G_law_term (hr.mono (by omega)) (by rfl) T.g_law_term T.F_law_term.kp T.b_law_term .nil pass0 (pa_cons (pv 0) pa_nil)) (pa_cons (pe_call G_law_term (hr.mono (by omega)) (by rfl) T.g_law_term T.F_law_term.kp T.b_law_term .nil pass0 (pa_cons (pv 0) pa_nil)) pa_nil)))))))) pss_nil)
  (pss_cons (ps_if (pt_cmpR (r := rEqD K) (op_eqD hu64) (pv 1) pe_str (nomark _)) (pss_one (ps_ret (pe_tup (pa_cons (pv 1) (pa_cons (pe_call G_law_name (hr.mono (by omega)) (by rfl) T.g_law_name T.F_law_name.kp T.b_law_name .nil pass0 (pa_cons (pv 0) pa_nil)) (pa_cons (pe_call G_law_name (hr.mono (by omega)) (by rfl) T.g_law_name T.F_law_name.kp T.b_law_name .nil pass0 (pa_cons (pv 0) pa_nil)) (pa_cons (pe_call G_law_terms (hr.mono (by omega)) (by rfl) T.g_law_terms T.F_law_terms.kp T.b_law_terms .nil pass0 (pa_cons (pv 0) pa_nil)) pa_nil))))))) pss_nil)
  (pss_one (ps_ret (pe_tup (pa_cons (pv 1) (pa_cons (pe_call G_law_name (hr.mono (by omega)) (by rfl) T.g_law_name T.F_law_name.kp T.b_law_name .nil pass0 (pa_cons (pv 0) pa_nil)) (pa_cons (pe_call G_law_terms (hr.mono (by omega)) (by rfl) T.g_law_terms T.F_law_terms.kp T.b_law_terms .nil pass0 (pa_cons (pv 0) pa_nil)) pa_nil)))))))))), ?_⟩
  rintro ss M Q ⟨p, xs, ds, rfl, rfl, hM, hD, q⟩
  obtain ⟨M0, rfl⟩ : ∃ M0, M = um M0 p (.lst xs) := ⟨M, (um_id hM).symm⟩
  simp only [um_um] at q
  walk_at "k"
  show WS K _ [some (.ref p), none, none] (um M0 p (.lst xs)) _
  walk_at "f"
  refine a_next hD (by decide) (by decide) fun v ys h0 h1 hD1 => ?_
  walk_at "f"
  intro f hf
  have hf' : f = .str "fact" ∨ f = .str "not" ∨ f = .str "compare" ∨ f = .str "is" ∨ f = .str "count" := by
    simp only [List.mem_cons, List.not_mem_nil, or_false] at hf
    rcases hf with h | h | h | h | h | h <;> simp [h]
  rcases hf' with rfl | rfl | rfl | rfl | rfl
  · walk_at "f"
    refine a_gen0 hD1 rfl fun d zs hP hD2 => ?_
    obtain ⟨x, rfl, hx⟩ := isName_of hP
    walk_at "f"
    refine a_gen0 hD2 rfl fun d zs hP hD3 => ?_
    obtain ⟨ts, rfl, hts⟩ := hP
    walk_at "f"
    exact q _ _ ⟨.fact x ts, rfl, hx, hts⟩ hD3
  · walk_at "f"
    refine a_gen0 hD1 rfl fun d zs hP hD2 => ?_
    obtain ⟨x, rfl, hx⟩ := isName_of hP
    walk_at "f"
    refine a_gen0 hD2 rfl fun d zs hP hD3 => ?_
    obtain ⟨ts, rfl, hts⟩ := hP
    walk_at "f"
    exact q _ _ ⟨.neg x ts, rfl, hx, hts⟩ hD3
  · walk_at "f"
    refine a_next hD1 (by decide) (by decide) fun v ys h0 h1 hD2 => ?_
    walk_at "f"
    intro o ho
    obtain ⟨op, rfl, hop⟩ : ∃ op : Str, o = .str op ∧ op ∈ opsC := by
      simp only [List.mem_cons, List.not_mem_nil, or_false] at ho
      rcases ho with h | h | h | h | h | h <;> exact ⟨_, h, by simp [opsC]⟩
    walk_at "f"
    refine a_gen0 hD2 rfl fun d zs hP hD3 => ?_
    obtain ⟨x, rfl, hx⟩ := hP
    walk_at "f"
    refine a_gen0 hD3 rfl fun d zs hP hD4 => ?_
    obtain ⟨y, rfl, hy⟩ := hP
    walk_at "f"
    exact q _ _ ⟨.compare op x y, rfl, hop, hx, hy⟩ hD4
  · walk_at "f"
    refine a_gen0 hD1 rfl fun d zs hP hD2 => ?_
    obtain ⟨n, rfl, hn⟩ := isName_of hP
    walk_at "f"
    refine a_next hD2 (by decide) (by decide) fun v ys h0 h1 hD2 => ?_
    walk_at "f"
    intro o ho
    obtain ⟨op, rfl, hop⟩ : ∃ op : Str, o = .str op ∧ op ∈ opsI := by
      simp only [List.mem_cons, List.not_mem_nil, or_false] at ho
      rcases ho with h | h | h <;> exact ⟨_, h, by simp [opsI]⟩
    walk_at "f"
    refine a_gen0 hD2 rfl fun d zs hP hD3 => ?_
    obtain ⟨x, rfl, hx⟩ := hP
    walk_at "f"
    refine a_gen0 hD3 rfl fun d zs hP hD4 => ?_
    obtain ⟨y, rfl, hy⟩ := hP
    walk_at "f"
    exact q _ _ ⟨.is n op x y, rfl, hn, hop, hx, hy⟩ hD4
  · walk_at "f"
    refine a_gen0 hD1 rfl fun d zs hP hD2 => ?_
    obtain ⟨x, rfl, hx⟩ := isName_of hP
    walk_at "f"
    refine a_gen0 hD2 rfl fun d zs hP hD2 => ?_
    obtain ⟨y, rfl, hy⟩ := isName_of hP
    walk_at "f"
    refine a_gen0 hD2 rfl fun d zs hP hD3 => ?_
    obtain ⟨ts, rfl, hts⟩ := hP
    walk_at "f"
    exact q _ _ ⟨.count x y ts, rfl, hx, hy, hts⟩ hD3
abbrev A_body : ASp := A_draw fun d => ∃ t : List Lit, d = encB t ∧ okB t
theorem ok_body (T : Txt K mg a d) : FnOk P w K mg base CX0 6 a.law_body d.law_body ["_law_state"] (conc K A_body) := by
  have G_law_next : FnOk P w K mg base CX0 1 a.law_next d.law_next ["_law_state", "_law_limit"] (conc K A_next) := ok_next T
  have G_law_literal : FnOk P w K mg base CX0 5 a.law_literal d.law_literal ["_law_state"] (conc K A_lit) := ok_literal T
  refine ab_ok T.F_law_body sc_law_body (fun ss M Q ⟨p, xs, ds, e, e2, _⟩ => by subst e e2; rfl) fun cdv Ar outer s H E hr => ⟨_, (pss_one (ps_ret (pe_callTy (r := rTupS K) call_tuple_of (by rfl) T.n_tuple (by decide +kernel) (pa_cons (pe_lc (own := [("_law_k", 1)]) rfl sc_law_body.nd (pi_range1 rfl T.n_range (pa_cons (pe_call G_law_next (hr.mono (by omega)) (by rfl) T.g_law_next T.F_law_next.kp T.b_law_next .nil pass0 (pa_cons (pv 0) (pa_cons pe_int pa_nil))) pa_nil)) (blkOk_by (own := [("_law_k", 1)]) (N := ["_law_state", "_law_k"]) (sc := (defScope s_law_body)) (by decide +kernel)) (fun _ _ _ _ _ => (pg_name (i := 1) sc_law_body.nd rfl (Or.inl rfl))) (fun _ _ _ _ _ => pts_nil) (fun _ _ _ _ _ => (pe_call G_law_literal (hr.mono (by omega)) (by rfl) T.g_law_literal T.F_law_literal.kp T.b_law_literal .nil pass0 (pa_cons (pv 0) pa_nil)))) pa_nil)))), ?_⟩
  rintro ss M Q ⟨p, xs, ds, rfl, rfl, hM, hD, q⟩
  obtain ⟨M0, rfl⟩ : ∃ M0, M = um M0 p (.lst xs) := ⟨M, (um_id hM).symm⟩
  simp only [um_um] at q
  walk_at "k"
  show WS K _ [some (.ref p), none] (um M0 p (.lst xs)) _
  walk_at "f"
  refine w_lcGen (p := p) (by decide) (fun d => ∃ t : Lit, d = t.enc ∧ t.ok) ?_
  walk_at "f"
  refine a_next hD (by decide) (by decide) fun n zs n0 n1 hD4 => ?_
  walk_at "f"
  refine ⟨n, M0, zs, rfl, rfl, hD4, by omega, by omega, fun i M2 us hi hu => ?_, fun ds us hu hl hP => ?_⟩
  · walk_at "f"
    refine a_gen0 hu rfl fun d zs hP hD => ?_
    exact ⟨d, zs, rfl, rfl, hD, hP⟩
  · obtain ⟨ts, rfl, hts⟩ := list_enc hP
    walk_at "f"
    rw [List.length_map] at hl
    exact q _ _ ⟨ts, rfl, by omega, hts⟩ hu
abbrev A_item : ASp := A_draw fun d => ∃ t : Item, d = t.enc ∧ t.ok
theorem ok_item (T : Txt K mg a d) : FnOk P w K mg base CX0 7 a.law_item d.law_item ["_law_state"] (conc K A_item) := by
  have G_law_next : FnOk P w K mg base CX0 1 a.law_next d.law_next ["_law_state", "_law_limit"] (conc K A_next) := ok_next T
  have G_law_name : FnOk P w K mg base CX0 2 a.law_name d.law_name ["_law_state"] (conc K (A_draw fun d => isName d = true)) := ok_name T
  have G_law_row : FnOk P w K mg base CX0 3 a.law_row d.law_row ["_law_state", "_law_width"] (conc K A_row) := ok_row T
  have G_law_terms : FnOk P w K mg base CX0 4 a.law_terms d.law_terms ["_law_state"] (conc K A_terms) := ok_terms T
  have G_law_body : FnOk P w K mg base CX0 6 a.law_body d.law_body ["_law_state"] (conc K A_body) := ok_body T
  refine ab_ok T.F_law_item sc_law_item (fun ss M Q ⟨p, xs, ds, e, e2, _⟩ => by subst e e2; rfl) fun cdv Ar outer s H E hr => ?_
  have hu64 := hr.units
  refine ⟨_, (pss_cons (ps_set (i := 1) sc_law_item.nd rfl (Or.inl rfl) (pe_call G_law_next (hr.mono (by omega)) (by rfl) T.g_law_next T.F_law_next.kp T.b_law_next .nil pass0 (pa_cons (pv 0) (pa_cons pe_int pa_nil))))
  (pss_cons (ps_set (i := 2) sc_law_item.nd rfl (Or.inl rfl) (pe_call G_law_name (hr.mono (by omega)) (by rfl) T.g_law_name T.F_law_name.kp T.b_law_name .nil pass0 (pa_cons (pv 0) pa_nil)))
  (pss_cons (ps_if (pt_cmpR op_lt (pv 1) pe_int (nomark _)) (pss_one (ps_ret (pe_tup (pa_cons pe_str (pa_cons (pv 2) (pa_cons (pe_op op_add pe_int (pe_call G_law_next (hr.mono (by omega)) (by rfl) T.g_law_next T.F_law_next.kp T.b_law_next .nil pass0 (pa_cons (pv 0) (pa_cons pe_int pa_nil)))) pa_nil)))))) pss_nil)
  (pss_cons (ps_if (pt_cmpR op_lt (pv 1) pe_int (nomark _)) (pss_one (ps_ret (pe_tup (pa_cons pe_str (pa_cons (pv 2) (pa_cons (pe_call G_law_row (hr.mono (by omega)) (by rfl) T.g_law_row T.F_law_row.kp T.b_law_row .nil pass0 (pa_cons (pv 0) (pa_cons (pe_op op_add pe_int (pe_call G_law_next (hr.mono (by omega)) (by rfl) T.g_law_next T.F_law_next.kp T.b_law_next .nil pass0 (pa_cons (pv 0) (pa_cons pe_int pa_nil)))) pa_nil))) pa_nil)))))) pss_nil)
  (pss_cons (ps_if (pt_cmpR op_lt (pv 1) pe_int (nomark _)) (pss_one (ps_ret (pe_tup (pa_cons pe_str (pa_cons (pv 2) (pa_cons (pe_call G_law_name (hr.mono (by omega)) (by rfl) T.g_law_name T.F_law_name.kp T.b_law_name .nil pass0 (pa_cons (pv 0) pa_nil)) (pa_cons (pe_call G_law_terms (hr.mono (by omega)) (by rfl) T.g_law_terms T.F_law_terms.kp T.b_law_terms .nil pass0 (pa_cons (pv 0) pa_nil)) (pa_cons (pe_call G_law_body (hr.mono (by omega)) (by rfl) T.g_law_body T.F_law_body.kp T.b_law_body .nil pass0 (pa_cons (pv 0) pa_nil)) pa_nil)))))))) pss_nil)
  (pss_one (ps_ret (pe_tup (pa_cons pe_str (pa_cons (pv 2) (pa_cons (pe_call G_law_body (hr.mono (by omega)) (by rfl) T.g_law_body T.F_law_body.kp T.b_law_body .nil pass0 (pa_cons (pv 0) pa_nil)) pa_nil))))))))))), ?_⟩
  rintro ss M Q ⟨p, xs, ds, rfl, rfl, hM, hD, q⟩
  obtain ⟨M0, rfl⟩ : ∃ M0, M = um M0 p (.lst xs) := ⟨M, (um_id hM).symm⟩
  simp only [um_um] at q
  walk_at "k"
  show WS K _ [some (.ref p), none, none] (um M0 p (.lst xs)) _
  walk_at "f"
  refine a_next hD (by decide) (by decide) fun v ys h0 h1 hD1 => ?_
  walk_at "f"
  refine a_gen0 hD1 rfl fun d zs hP hD2 => ?_
  obtain ⟨n, rfl, hn⟩ := isName_of hP
  walk_at "f"
  refine ite_d (fun h => ?_) (fun h => ?_)
  · walk_at "f"
    refine a_next hD2 (by decide) (by decide) fun x ys x0 x1 hD3 => ?_
    walk_at "f"
    exact q _ _ ⟨.relation n (1 + x), rfl, hn, by omega, by omega⟩ hD3
  walk_at "f"
  refine ite_d (fun h => ?_) (fun h => ?_)
  · walk_at "f"
    refine a_next hD2 (by decide) (by decide) fun x ys x0 x1 hD3 => ?_
    walk_at "f"
    refine a_gen1 hD3 ⟨_, rfl, by omega, by omega⟩ fun d zs hP hD4 => ?_
    obtain ⟨row, rfl, hrow, hw⟩ := hP
    walk_at "f"
    exact q _ _ ⟨.fact n row, rfl, hn, hrow, fun e => by subst e; simp at hw; omega⟩ hD4
  walk_at "f"
  refine ite_d (fun h => ?_) (fun h => ?_)
  · walk_at "f"
    refine a_gen0 hD2 rfl fun d zs hP hD3 => ?_
    obtain ⟨r, rfl, hr'⟩ := isName_of hP
    walk_at "f"
    refine a_gen0 hD3 rfl fun d zs hP hD4 => ?_
    obtain ⟨ts, rfl, hts⟩ := hP
    walk_at "f"
    refine a_gen0 hD4 rfl fun d zs hP hD5 => ?_
    obtain ⟨b, rfl, hb⟩ := hP
    walk_at "f"
    exact q _ _ ⟨.rule n r ts b, rfl, hn, hr', hts, hb⟩ hD5
  walk_at "f"
  refine a_gen0 hD2 rfl fun d zs hP hD5 => ?_
  obtain ⟨b, rfl, hb⟩ := hP
  walk_at "f"
  exact q _ _ ⟨.denial n b, rfl, hn, hb⟩ hD5
end
end K03


set_option Elab.async false
set_option linter.all false
set_option maxRecDepth 100000
set_option  maxHeartbeats 4000000
namespace K03
open PySem PyProof.Rows L2 Ab
local macro_rules | `(tactic| walk_at "len") => `(tactic| first | decide | omega | (simp only [List.length_append, List.length_map, List.length_replicate, List.length_cons, List.length_nil, List.length_take, List.length_drop, List.length_reverse, List.length_range]; omega))
local macro_rules | `(tactic| walk_at "str") => `(tactic| first | decide +kernel | exact goodS_ok (by assumption) | assumption)
local macro_rules | `(tactic| walk_at "1") => `(tactic| (first
  | (with_reducible refine ws_set ?_)
  | (with_reducible refine ws_ret ?_)
  | (with_reducible refine ws_if ?_)
  | (with_reducible refine ws_drop ?_)
  | (with_reducible refine w_op ?_)
  | (with_reducible refine w_un ?_)
  | (with_reducible refine w_int ?_)
  | (with_reducible refine w_bl ?_)
  | (with_reducible refine w_non ?_)
  | (with_reducible refine w_str ?_)
  | (with_reducible refine w_cb ?_)
  | (with_reducible refine w_call ?_)
  | (with_reducible refine w_sl ?_)
  | (with_reducible refine w_tupD ?_)
  | (with_reducible refine w_chain ?_)
  | (with_reducible refine w_andV ?_)
  | (with_reducible refine w_orV ?_)
  | (with_reducible refine w_notV ?_)
  | (with_reducible refine wo_none ?_)
  | (with_reducible refine wo_some ?_)
  | (with_reducible refine wa_cons ?_)
  | (with_reducible refine wa_nil ?_)
  | (with_reducible refine wt_test ?_)
  | (with_reducible refine wt_B ?_)
  | (with_reducible refine wt_and ?_)
  | (with_reducible refine wt_or ?_)
  | (with_reducible refine wt_not ?_)
  | (with_reducible refine wt_yes ?_)
  | (with_reducible refine w2_i0 ?_)
  | (with_reducible refine w2_b0 ?_)
  | (with_reducible refine w1_neg ?_)
  | ((with_reducible refine w2_i ?hc ?_); (case hc => first | decide | exact ⟨by decide, by decide⟩ | exact Or.inl ⟨by decide, by decide⟩ | exact Or.inr ⟨by decide, by decide⟩ | exact ⟨by decide, by decide, by decide⟩ | omega); skip)
  | ((with_reducible refine' w_var ?hv ?_); (case hv => exact rfl); skip)
  | ((with_reducible show W2 _ (rEqD _) (Sl.dat (PyData.int _)) (Sl.dat (PyData.int _)) _ _); (refine w2_eqI ?_))
  | ((with_reducible show W2 _ (rNeD _) (Sl.dat (PyData.int _)) (Sl.dat (PyData.int _)) _ _); (refine w2_neI ?_))
  | ((with_reducible show W2 _ (rEqD _) (Sl.dat (PyData.str _)) (Sl.dat (PyData.str _)) _ _); (refine' w2_eqS ?h1 ?h2 ?_); (case h1 => walk_at "str"); (case h2 => walk_at "str"); skip)
  | ((with_reducible show W2 _ (rNeD _) (Sl.dat (PyData.str _)) (Sl.dat (PyData.str _)) _ _); (refine' w2_neS ?h1 ?h2 ?_); (case h1 => walk_at "str"); (case h2 => walk_at "str"); skip)
  | ((with_reducible show W2 _ (rEqD _) _ _ _ _); (refine w2_eq ?ha ?hb ?_); (case ha => first | exact shaped_int _ | exact shaped_bool _ | exact shaped_none); (case hb => first | exact shaped_int _ | exact shaped_bool _ | exact shaped_none); skip)
  | ((with_reducible show W2 _ (rNeD _) _ _ _ _); (refine w2_ne ?ha ?hb ?_); (case ha => first | exact shaped_int _ | exact shaped_bool _ | exact shaped_none); (case hb => first | exact shaped_int _ | exact shaped_bool _ | exact shaped_none); skip)
  | ((with_reducible show W2 _ _ _ _ _ _); (refine w2_isN ?_))
  | ((with_reducible show W2 _ rIsB _ _ _ _); (refine w2_isB ?_))
  | ((with_reducible show W2 _ rNotB _ _ _ _); (refine w2_notB ?_))
  | ((with_reducible show W2 _ _ _ _ _ _); (refine w2_notN ?_))
  | (with_reducible refine wl_lenE ?_)
  | (with_reducible refine wl_lenD ?_)
  | (with_reducible refine wl_lenTD ?_)
  | (with_reducible refine wl_listE ?_)
  | (with_reducible refine wsl_E ?_)
  | ((with_reducible refine' w2_catE ?hl ?_); (try (case hl => walk_at "len")); skip)
  | ((with_reducible refine' w2_rep1 ?h1 ?h2 ?_); (try (case h1 => first | decide | omega)); (try (case h2 => first | decide | omega)); skip)
  | ((with_reducible show WL _ _ [_] _ _); (refine' wl_len ?hl ?_); (case hl => first | exact lsv_dat | exact lsv_ref um_same | exact lsv_ref (by assumption)); skip)
  | ((with_reducible show WL _ _ [_] _ _); (refine' wl_list ?hl ?_); (case hl => first | exact .inl lsv_dat | exact .inl (lsv_ref (by assumption))); skip)
  | ((with_reducible show WSl _ (rSlL _) _ _ _ _ _); (refine' wsl_lst ?hl ?_); (case hl => first | exact lsv_dat | exact lsv_ref um_same | exact lsv_ref (by assumption)); skip)
  | ((with_reducible show WL _ _ [_] _ _); (refine wl_int ?_))
  | ((with_reducible show WL _ _ [_] _ _); (refine wl_intb ?_))
  | ((with_reducible show WL _ _ [_, _] _ _); (refine wl_min ?_))
  | ((with_reducible first | show W2 _ (rIxL _) (Sl.dat (PyData.list (List.cons _ _))) (Sl.dat (PyData.int _)) _ _ | show W2 _ (rIxL _) (Sl.dat (PyData.list (List.map PyData.int (List.cons _ _)))) (Sl.dat (PyData.int _)) _ _); (refine' w2_ixAny ?h0 ?h1 ?_); (case h0 => omega); (case h1 => first | omega | (simp only [List.length_cons, List.length_nil, List.length_map]; omega)); skip)
  | ((with_reducible show W2 _ (rIxL _) _ _ _ _); (refine' w2_ixL ?hs ?hx ?_); (case hs => first | exact lsv_dat | exact lsv_ref um_same | exact lsv_ref (by assumption)); (try (case hx => exact rfl)); skip)
  | ((with_reducible show W2 _ (rIxT _) _ _ _ _); (refine' w2_ixT ?hx ?_); (case hx => exact rfl); skip)
  | ((with_reducible show WL _ (rIsi _) [_, _] _ _); (refine' wl_isi ?hb ?_); (case hb => first | exact isi_bool _ | exact isi_int _ | exact isi_str _ | exact isi_tuple _ | exact isi_list _); skip)
  | ((with_reducible show W _ (tC (V.ty _)) _ _ _); (refine w_raw ?_))
  | ((with_reducible show W _ (tC (V.ref _)) _ _ _); (refine w_raw ?_))
  | ((with_reducible show WSl _ (rSlA _) _ _ _ _ _); (refine wsl_tup ?_))
  | ((with_reducible show WL _ (rTupS _) [Sl.dat (PyData.list _)] _ _); (refine wl_tuple lsv_dat ?_))
  | ((with_reducible show W2 _ (rCatA _) _ _ _ _); (refine' w2_catT ?hl ?_); (try (case hl => walk_at "len")); skip)
  | ((with_reducible show WL _ _ [_] _ _); (refine' wl_lenT ?hl ?_); (case hl => exact tpv_dat); skip)
  | ((with_reducible refine' w_fldI ?hv ?hM ?c ?n ?l ?_); (case hv => exact rfl); (case hM => first | assumption | exact um_same); (case c => assumption); (case n => assumption); (case l => walk_at "fl"); skip)
  | ((with_reducible refine' w_dgetI ?hv ?hM ?hx ?_); (case hv => exact rfl); (case hM => first | assumption | exact um_same); (case hx => walk_at "wg"); skip)
  | ((with_reducible refine' ws_fldI ?hv ?c ?n ?_); (case hv => exact rfl); (case c => assumption); (case n => assumption); skip)
  | (with_reducible refine ws_next ?_)
  | ((with_reducible show WS _ Ends.nx _ _ _); (refine ws_next ?_))
  | (with_reducible refine ite_t rfl ?_)
  | (with_reducible refine ite_f rfl ?_)
  | ((with_reducible refine' ite_t ?hb ?_); (case hb => decide +kernel); skip)
  | ((with_reducible refine' ite_f ?hb ?_); (case hb => decide +kernel); skip)
  | ((with_reducible show ∃ b : Bool, _ = Sl.bl b ∧ _); (with_reducible refine ⟨_, rfl, ?_⟩))
  | ((with_reducible show ∃ i : Int, _ = Sl.int i ∧ _); (with_reducible refine ⟨_, rfl, ?_⟩))
  | ((with_reducible show List.length _ ≤ 100000 ∧ _); (refine ⟨(by simp), ?_⟩))
  | ((with_reducible show ∃ ds : List PyData, datsOf _ = some ds ∧ _); (refine ⟨_, rfl, ?_⟩))))
local macro_rules | `(tactic| walk_at "e") => `(tactic| repeat (first | (with_reducible refine ws_seq ?_) | (walk_at "1")))
local macro_rules | `(tactic| walk_at "g") => `(tactic| repeat (first | (walk_at "1") | ((with_reducible refine w_lstI (wa_cons ?_)); (repeat (walk_at "1")); (with_reducible show ∃ ns : List Int, itemsI _ = some ns ∧ _); (refine ⟨_, rfl, ?_⟩)) | (with_reducible refine w_lstD ?_)))
local macro_rules | `(tactic| walk_at "f") => `(tactic| repeat (first | (with_reducible refine ws_seq ?_) | (walk_at "1") | ((with_reducible refine w_lstI (wa_cons ?_)); (repeat (walk_at "1")); (with_reducible show ∃ ns : List Int, itemsI _ = some ns ∧ _); (refine ⟨_, rfl, ?_⟩)) | (with_reducible refine w_lstD ?_)))
local macro_rules | `(tactic| walk_at "k") => `(tactic| first | dsimp only [cxOf, Cx.nox, Cx.wish] | skip)

section
variable {P : Program} {w : World} {K : PySem.W.Frag} {mg : Str → Option Value} {base : Heap} {a : AD} {d : FD}
def A_before : ASp := fun ss M Q => ∃ v w : Val, ss = [.dat v.enc, .dat w.enc] ∧ v.ok ∧ w.ok ∧ Q (.bl (vLt v w)) M
theorem ok_before (T : Txt K mg a d) : FnOk P w K mg base CX0 1 a.law_before d.law_before ["_law_first", "_law_second"] (conc K A_before) := by
  refine ab_ok T.F_law_before sc_law_before (fun ss M Q ⟨_, _, e, _⟩ => by subst e; rfl) fun cdv Ar outer s H E hr => ?_
  have hu64 := hr.units
  refine ⟨_, (pss_cons (ps_if (pt_cmpR (r := rNeD K) (op_neD hu64) (pe_callB (r := rIsi K) call_isi (by rfl) T.n_isinstance (by decide +kernel) (pa_cons (pv 0) (pa_cons (pe_bltn (v := .ty "str") (u := .type "str") (by rfl) T.n_str (by decide +kernel) rfl) pa_nil))) (pe_callB (r := rIsi K) call_isi (by rfl) T.n_isinstance (by decide +kernel) (pa_cons (pv 1) (pa_cons (pe_bltn (v := .ty "str") (u := .type "str") (by rfl) T.n_str (by decide +kernel) rfl) pa_nil))) (nomark _)) (pss_one (ps_ret (pe_callB (r := rIsi K) call_isi (by rfl) T.n_isinstance (by decide +kernel) (pa_cons (pv 1) (pa_cons (pe_bltn (v := .ty "str") (u := .type "str") (by rfl) T.n_str (by decide +kernel) rfl) pa_nil))))) pss_nil)
  (pss_one (ps_ret (pe_cmpR (r := rCmp .Lt K) (op_ltD hu64) (pv 0) (pv 1) (nomark _))))), ?_⟩
  rintro ss M Q ⟨v, w, rfl, hv, hw, q⟩
  walk_at "k"
  show WS K _ [some (.dat v.enc), some (.dat w.enc)] M _
  cases v with
  | int x =>
    cases w with
    | int y =>
      walk_at "e"
      refine w2_cmp rfl (shaped_int x) (shaped_int y) ?_
      exact q
    | str y =>
      walk_at "e"
      exact q
  | str x =>
    cases w with
    | int y =>
      walk_at "e"
      exact q
    | str y =>
      walk_at "e"
      refine w2_cmp rfl (shaped_str (goodS_ok hv)) (shaped_str (goodS_ok hw)) ?_
      exact q
def A_order : ASp := fun ss M Q => ∃ x y : List Val, ss = [.dat (encR x), .dat (encR y)] ∧ okR x ∧ okR y ∧ Q (.int (ordR x y)) M
theorem ok_order (T : Txt K mg a d) : FnOk P w K mg base CX0 2 a.law_order d.law_order ["_law_first", "_law_second"] (conc K A_order) := by
  have G_law_before : FnOk P w K mg base CX0 1 a.law_before d.law_before ["_law_first", "_law_second"] (conc K A_before) := ok_before T
  refine ab_ok T.F_law_order sc_law_order (fun ss M Q ⟨_, _, e, _⟩ => by subst e; rfl) fun cdv Ar outer s H E hr => ?_
  have hu64 := hr.units
  refine ⟨_, (pss_cons (ps_for PassesOwn.never rfl (pi_range1 rfl T.n_range (pa_cons (pe_callB (call_min2 rfl) (by rfl) T.n_min (by decide +kernel) (pa_cons (pe_callB (r := rLenS K) call_len_seq (by rfl) T.n_len PySem.boot_len (pa_cons (pv 0) pa_nil)) (pa_cons (pe_callB (r := rLenS K) call_len_seq (by rfl) T.n_len PySem.boot_len (pa_cons (pv 1) pa_nil)) pa_nil))) pa_nil)) (pg_name (i := 2) sc_law_order.nd rfl (Or.inl rfl)) (pss_cons (ps_if (pt_val (pe_call G_law_before (hr.mono (by omega)) (by rfl) T.g_law_before T.F_law_before.kp T.b_law_before .nil pass0 (pa_cons (pe_ix (r := rIxT K) ix_tup (pv 0) (pv 2) (fun _ _ => rfl)) (pa_cons (pe_ix (r := rIxT K) ix_tup (pv 1) (pv 2) (fun _ _ => rfl)) pa_nil)))) (pss_one (ps_ret (pe_un un_neg pe_int))) pss_nil)
  (pss_one (ps_if (pt_val (pe_call G_law_before (hr.mono (by omega)) (by rfl) T.g_law_before T.F_law_before.kp T.b_law_before .nil pass0 (pa_cons (pe_ix (r := rIxT K) ix_tup (pv 1) (pv 2) (fun _ _ => rfl)) (pa_cons (pe_ix (r := rIxT K) ix_tup (pv 0) (pv 2) (fun _ _ => rfl)) pa_nil)))) (pss_one (ps_ret pe_int)) pss_nil))))
  (pss_one (ps_ret (pe_op op_sub (pe_callTy (r := rInt1) call_int1 (by rfl) T.n_int (by decide +kernel) (pa_cons (pe_cmpR op_gt (pe_callB (r := rLenS K) call_len_seq (by rfl) T.n_len PySem.boot_len (pa_cons (pv 0) pa_nil)) (pe_callB (r := rLenS K) call_len_seq (by rfl) T.n_len PySem.boot_len (pa_cons (pv 1) pa_nil)) (nomark _)) pa_nil)) (pe_callTy (r := rInt1) call_int1 (by rfl) T.n_int (by decide +kernel) (pa_cons (pe_cmpR op_lt (pe_callB (r := rLenS K) call_len_seq (by rfl) T.n_len PySem.boot_len (pa_cons (pv 0) pa_nil)) (pe_callB (r := rLenS K) call_len_seq (by rfl) T.n_len PySem.boot_len (pa_cons (pv 1) pa_nil)) (nomark _)) pa_nil)))))), ?_⟩
  rintro ss M Q ⟨x, y, rfl, hx, hy, q⟩
  walk_at "k"
  show WS K _ [some (.dat (encR x)), some (.dat (encR y)), none] M _
  have hx1 := hx.1
  have hy1 := hy.1
  refine ws_seq (ws_forR1 (n := if (y.length : Int) < x.length then (y.length : Int) else x.length) (M1 := M) (by walk_at "e"; exact ⟨by simp, rfl⟩) (by split <;> omega)
    (fun i ρ' M' => ∃ z, ρ' = [some (.dat (encR x)), some (.dat (encR y)), z] ∧ M' = M ∧ ∀ j, j < i → x[j]? = y[j]?) ⟨none, rfl, rfl, fun j h => nomatch h⟩ ?_ ?_)
  · rintro i ρ' M' hi ⟨z, rfl, rfl, he⟩
    have h1 : i < x.length := by split at hi <;> omega
    have h2 : i < y.length := by split at hi <;> omega
    have a1 : atI (x.map Val.enc) (i : Int) = some (x[i].enc) := atI_nat (by rw [List.getElem?_map, List.getElem?_eq_getElem h1]; rfl)
    have a2 : atI (y.map Val.enc) (i : Int) = some (y[i].enc) := atI_nat (by rw [List.getElem?_map, List.getElem?_eq_getElem h2]; rfl)
    have k1 := hx.2 _ (List.getElem_mem h1)
    have k2 := hy.2 _ (List.getElem_mem h2)
    have s1 : x = x.take i ++ x[i] :: x.drop (i + 1) := split_at h1
    have s2 : y = x.take i ++ y[i] :: y.drop (i + 1) := by
      have : x.take i = y.take i := List.ext_getElem? fun j => by
        rw [List.getElem?_take, List.getElem?_take]
        by_cases hj : j < i
        · rw [if_pos hj, if_pos hj, he j hj]
        · rw [if_neg hj, if_neg hj]
      rw [this]
      exact split_at h2
    refine wg_name ?_
    walk_at "e"
    refine w2_ixT a1 ?_
    walk_at "e"
    refine w2_ixT a2 ?_
    walk_at "e"
    refine ⟨x[i], y[i], rfl, k1, k2, ?_⟩
    walk_at "e"
    refine ite_b (fun hb => ?_) (fun hb => ?_)
    · walk_at "e"
      rw [s1, s2, (ordR_at hb).1] at q
      exact q
    walk_at "e"
    refine w2_ixT a2 ?_
    walk_at "e"
    refine w2_ixT a1 ?_
    walk_at "e"
    refine ⟨y[i], x[i], rfl, k2, k1, ?_⟩
    walk_at "e"
    refine ite_b (fun hb2 => ?_) (fun hb2 => ?_)
    · walk_at "e"
      rw [s1, s2, (ordR_at hb2).2] at q
      exact q
    walk_at "e"
    refine ⟨_, rfl, rfl, fun j hj => ?_⟩
    by_cases e : j = i
    · subst e
      rw [List.getElem?_eq_getElem h1, List.getElem?_eq_getElem h2]
      by_cases e : x[j] = y[j]
      · rw [e]
      · have := vLt_tri e
        rw [hb, hb2] at this
        cases this
    · exact he j (by omega)
  · rintro ρ' M' ⟨z, rfl, rfl, he⟩
    walk_at "e"
    have hp := ordR_pre (a := x) (b := y) fun j h1 h2 => he j (by split <;> omega)
    simp only [List.length_map]
    have d1 : decide ((y.length : Int) < (x.length : Int)) = decide (y.length < x.length) := decide_eq_decide.mpr (by omega)
    have d2 : decide ((x.length : Int) < (y.length : Int)) = decide (x.length < y.length) := decide_eq_decide.mpr (by omega)
    rw [d1, d2, ← hp]
    exact q
theorem idx4 {ds : List PyData} {d : PyData} (j : Nat) (h : (ds.take j).all (fun z => !PyData.eqv z d) = true) : ∀ (m : Nat) (z' : PyData), m < j → ds[m]? = some z' → PyData.eqv z' d = false := fun m z' hm hz => by
  have hmem : z' ∈ ds.take j := List.mem_iff_getElem?.mpr ⟨m, by rw [List.getElem?_take, if_pos hm]; exact hz⟩
  have := List.all_eq_true.mp h z' hmem
  simpa using this
def A_law_key : ASp := fun ss M Q => ∃ it : Item, ss = [.dat it.enc] ∧ Q (.dat (keyOf it).enc) M
theorem ok_law_key (T : Txt K mg a d) : FnOk P w K mg base CX0 1 a.law_key d.law_key ["_law_item_here"] (conc K A_law_key) := by
  refine ab_ok T.F_law_key sc_law_key (fun ss M Q ⟨v, e, _⟩ => by subst e; rfl) fun cdv Ar outer s H E hr => ?_
  have hu64 := hr.units
  have hu65 := room65 hr
  refine ⟨_, (pss_cons (ps_set (i := 1) sc_law_key.nd rfl (Or.inl rfl) (pe_bm PySem.F.plainAttrs_list PySem.F.slot_list_index PySem.F.type_list_index (r := rIndexD K) (mt_indexD hu65) (pe_lst (pa_cons pe_str (pa_cons pe_str (pa_cons pe_str (pa_cons pe_str pa_nil))))) (pa_cons (pe_ix (r := rIxT K) ix_tup (pv 0) pe_int (fun _ _ => rfl)) pa_nil)))
  (pss_cons (ps_if (pt_cmpR (r := rEqD K) (op_eqD hu64) (pv 1) pe_int (nomark _)) (pss_one (ps_ret (pe_tup (pa_cons pe_int (pa_cons (pe_ix (r := rIxT K) ix_tup (pv 0) pe_int (fun _ _ => rfl)) (pa_cons (pe_ix (r := rIxT K) ix_tup (pv 0) pe_int (fun _ _ => rfl)) pa_nil)))))) pss_nil)
  (pss_one (ps_ret (pe_tup (pa_cons (pv 1) (pa_cons (pe_ix (r := rIxT K) ix_tup (pv 0) pe_int (fun _ _ => rfl)) (pa_cons (pe_tup pa_nil) pa_nil)))))))), ?_⟩
  rintro ss M Q ⟨it, rfl, q⟩
  walk_at "k"
  show WS K _ [some (.dat it.enc), none] M _
  cases it with
  | relation n x =>
    walk_at "f"
    refine w_bm ?_
    walk_at "f"
    refine ⟨ty_lst lsv_dat, ?_⟩
    walk_at "f"
    refine wm_index (j := 0) (by decide +kernel) (by decide +kernel) rfl (by decide +kernel) (idx4 0 (by decide +kernel)) ?_
    walk_at "f"
    exact q
  | fact n row =>
    walk_at "f"
    refine w_bm ?_
    walk_at "f"
    refine ⟨ty_lst lsv_dat, ?_⟩
    walk_at "f"
    refine wm_index (j := 1) (by decide +kernel) (by decide +kernel) rfl (by decide +kernel) (idx4 1 (by decide +kernel)) ?_
    walk_at "f"
    exact q
  | rule n rel hd b =>
    walk_at "f"
    refine w_bm ?_
    walk_at "f"
    refine ⟨ty_lst lsv_dat, ?_⟩
    walk_at "f"
    refine wm_index (j := 2) (by decide +kernel) (by decide +kernel) rfl (by decide +kernel) (idx4 2 (by decide +kernel)) ?_
    walk_at "f"
    exact q
  | denial n b =>
    walk_at "f"
    refine w_bm ?_
    walk_at "f"
    refine ⟨ty_lst lsv_dat, ?_⟩
    walk_at "f"
    refine wm_index (j := 3) (by decide +kernel) (by decide +kernel) rfl (by decide +kernel) (idx4 3 (by decide +kernel)) ?_
    walk_at "f"
    exact q
def A_key_order2 : ASp := fun ss M Q => ∃ k l : IKey, ss = [.dat k.enc, .dat l.enc] ∧ k.ok ∧ l.ok ∧ Q (.int (ordK k l)) M
theorem ok_law_key_order (T : Txt K mg a d) : FnOk P w K mg base CX0 3 a.law_key_order d.law_key_order ["_law_first", "_law_second"] (conc K A_key_order2) := by
  have G_law_order : FnOk P w K mg base CX0 2 a.law_order d.law_order ["_law_first", "_law_second"] (conc K A_order) := ok_order T
  refine ab_ok T.F_law_key_order sc_law_key_order (fun ss M Q ⟨_, _, e, _⟩ => by subst e; rfl) fun cdv Ar outer s H E hr => ?_
  have hu64 := hr.units
  refine ⟨_, (pss_cons (ps_if (pt_cmpR (r := rNeD K) (op_neD hu64) (pe_slice (r := rSlA K) sl_tupA (pv 0) po_none (po_some pe_int)) (pe_slice (r := rSlA K) sl_tupA (pv 1) po_none (po_some pe_int)) (nomark _)) (pss_one (ps_ret (pe_op op_sub pe_int (pe_op op_mul pe_int (pe_callTy (r := rInt1) call_int1 (by rfl) T.n_int (by decide +kernel) (pa_cons (pe_cmpR (r := rCmp .Lt K) (op_ltD hu64) (pe_slice (r := rSlA K) sl_tupA (pv 0) po_none (po_some pe_int)) (pe_slice (r := rSlA K) sl_tupA (pv 1) po_none (po_some pe_int)) (nomark _)) pa_nil)))))) pss_nil)
  (pss_one (ps_ret (pe_call G_law_order (hr.mono (by omega)) (by rfl) T.g_law_order T.F_law_order.kp T.b_law_order .nil pass0 (pa_cons (pe_ix (r := rIxT K) ix_tup (pv 0) pe_int (fun _ _ => rfl)) (pa_cons (pe_ix (r := rIxT K) ix_tup (pv 1) pe_int (fun _ _ => rfl)) pa_nil)))))), ?_⟩
  rintro ss M Q ⟨k, l, rfl, hk, hl, q⟩
  walk_at "k"
  show WS K _ [some (.dat k.enc), some (.dat l.enc)] M _
  walk_at "e"
  have cut : ∀ x y z : PyData, cutG [x, y, z] none (some 2) = [x, y] := fun _ _ _ => rfl
  have sh : ∀ {k : IKey}, k.ok → SeqAt.shaped (.tuple [.int k.s, .str k.n]) = true := fun h => okD_shaped (n := 1) (okD_mkT (by simp) (okAll_cons okD_int (okAll_cons (okD_good h.1) rfl))) (by decide)
  rw [cut, cut]
  refine w2_ne (sh hk) (sh hl) ?_
  have e1 : PyData.eqv (.tuple [.int k.s, .str k.n]) (.tuple [.int l.s, .str l.n]) = decide (k.s = l.s ∧ k.n = l.n) := by
    have e1 := eqv_int k.s l.s
    have e2 := eqv_str k.n l.n
    simp only [PyData.eqv, PyData.eqvAll, Bool.and_true] at e1 e2 ⊢
    rw [e1, e2]
    by_cases h1 : k.s = l.s <;> by_cases h2 : k.n = l.n <;> simp [h1, h2]
  rw [e1]
  walk_at "e"
  refine ite_n (fun h => ?_) (fun h => ?_)
  · walk_at "e"
    rw [cut, cut]
    have hc : cmpOk (.tuple [.int k.s, .str k.n]) (.tuple [.int l.s, .str l.n]) = true := by
      show cmpOks _ _ = true
      simp only [cmpOks, eqv_int, eqv_str]
      simp [cmpOk]
    refine w2_cmp hc (sh hk) (sh hl) ?_
    have e2 : cmpV .Lt (.tuple [.int k.s, .str k.n]) (.tuple [.int l.s, .str l.n]) = hdLt k l := by
      unfold hdLt
      simp only [cmpV, cmpVs, eqv_int, eqv_str, cmpI, cmpS, cmpN, List.length_cons, List.length_nil]
      by_cases h1 : k.s = l.s
      · have h2 : k.n ≠ l.n := fun e => h ⟨h1, e⟩
        simp [h1, h2]
      · simp [h1]
    rw [e2]
    walk_at "e"
    unfold ordK at q
    rw [if_neg h] at q
    cases hh : hdLt k l with
    | true => rw [hh] at q; exact q
    | false => rw [hh] at q; exact q
  · walk_at "e"
    refine ⟨k.row, l.row, rfl, hk.2, hl.2, ?_⟩
    unfold ordK at q
    rw [if_pos h] at q
    exact q
end
end K03


set_option Elab.async false
set_option linter.all false
set_option maxRecDepth 100000
set_option  maxHeartbeats 4000000
namespace K03
open PySem PyProof.Rows L2 Ab
local macro_rules | `(tactic| walk_at "len") => `(tactic| first | decide | omega | (simp only [List.length_append, List.length_map, List.length_replicate, List.length_cons, List.length_nil, List.length_take, List.length_drop, List.length_reverse, List.length_range]; omega))
local macro_rules | `(tactic| walk_at "str") => `(tactic| first | decide +kernel | exact goodS_ok (by assumption) | assumption)
local macro_rules | `(tactic| walk_at "1") => `(tactic| (first
  | (with_reducible refine ws_set ?_)
  | (with_reducible refine ws_ret ?_)
  | (with_reducible refine ws_if ?_)
  | (with_reducible refine ws_drop ?_)
  | (with_reducible refine w_op ?_)
  | (with_reducible refine w_un ?_)
  | (with_reducible refine w_int ?_)
  | (with_reducible refine w_bl ?_)
  | (with_reducible refine w_non ?_)
  | (with_reducible refine w_str ?_)
  | (with_reducible refine w_cb ?_)
  | (with_reducible refine w_call ?_)
  | (with_reducible refine w_sl ?_)
  | (with_reducible refine w_tupD ?_)
  | (with_reducible refine w_chain ?_)
  | (with_reducible refine w_andV ?_)
  | (with_reducible refine w_orV ?_)
  | (with_reducible refine w_notV ?_)
  | (with_reducible refine wo_none ?_)
  | (with_reducible refine wo_some ?_)
  | (with_reducible refine wa_cons ?_)
  | (with_reducible refine wa_nil ?_)
  | (with_reducible refine wt_test ?_)
  | (with_reducible refine wt_B ?_)
  | (with_reducible refine wt_and ?_)
  | (with_reducible refine wt_or ?_)
  | (with_reducible refine wt_not ?_)
  | (with_reducible refine wt_yes ?_)
  | (with_reducible refine w2_i0 ?_)
  | (with_reducible refine w2_b0 ?_)
  | (with_reducible refine w1_neg ?_)
  | ((with_reducible refine w2_i ?hc ?_); (case hc => first | decide | exact ⟨by decide, by decide⟩ | exact Or.inl ⟨by decide, by decide⟩ | exact Or.inr ⟨by decide, by decide⟩ | exact ⟨by decide, by decide, by decide⟩ | omega); skip)
  | ((with_reducible refine' w_var ?hv ?_); (case hv => exact rfl); skip)
  | ((with_reducible show W2 _ (rEqD _) (Sl.dat (PyData.int _)) (Sl.dat (PyData.int _)) _ _); (refine w2_eqI ?_))
  | ((with_reducible show W2 _ (rNeD _) (Sl.dat (PyData.int _)) (Sl.dat (PyData.int _)) _ _); (refine w2_neI ?_))
  | ((with_reducible show W2 _ (rEqD _) (Sl.dat (PyData.str _)) (Sl.dat (PyData.str _)) _ _); (refine' w2_eqS ?h1 ?h2 ?_); (case h1 => walk_at "str"); (case h2 => walk_at "str"); skip)
  | ((with_reducible show W2 _ (rNeD _) (Sl.dat (PyData.str _)) (Sl.dat (PyData.str _)) _ _); (refine' w2_neS ?h1 ?h2 ?_); (case h1 => walk_at "str"); (case h2 => walk_at "str"); skip)
  | ((with_reducible show W2 _ (rEqD _) _ _ _ _); (refine w2_eq ?ha ?hb ?_); (case ha => first | exact shaped_int _ | exact shaped_bool _ | exact shaped_none); (case hb => first | exact shaped_int _ | exact shaped_bool _ | exact shaped_none); skip)
  | ((with_reducible show W2 _ (rNeD _) _ _ _ _); (refine w2_ne ?ha ?hb ?_); (case ha => first | exact shaped_int _ | exact shaped_bool _ | exact shaped_none); (case hb => first | exact shaped_int _ | exact shaped_bool _ | exact shaped_none); skip)
  | ((with_reducible show W2 _ _ _ _ _ _); (refine w2_isN ?_))
  | ((with_reducible show W2 _ rIsB _ _ _ _); (refine w2_isB ?_))
  | ((with_reducible show W2 _ rNotB _ _ _ _); (refine w2_notB ?_))
  | ((with_reducible show W2 _ _ _ _ _ _); (refine w2_notN ?_))
  | (with_reducible refine wl_lenE ?_)
  | (with_reducible refine wl_lenD ?_)
  | (with_reducible refine wl_lenTD ?_)
  | (with_reducible refine wl_listE ?_)
  | (with_reducible refine wsl_E ?_)
  | ((with_reducible refine' w2_catE ?hl ?_); (try (case hl => walk_at "len")); skip)
  | ((with_reducible refine' w2_rep1 ?h1 ?h2 ?_); (try (case h1 => first | decide | omega)); (try (case h2 => first | decide | omega)); skip)
  | ((with_reducible show WL _ _ [_] _ _); (refine' wl_len ?hl ?_); (case hl => first | exact lsv_dat | exact lsv_ref um_same | exact lsv_ref (by assumption)); skip)
  | ((with_reducible show WL _ _ [_] _ _); (refine' wl_list ?hl ?_); (case hl => first | exact .inl lsv_dat | exact .inl (lsv_ref (by assumption))); skip)
  | ((with_reducible show WSl _ (rSlL _) _ _ _ _ _); (refine' wsl_lst ?hl ?_); (case hl => first | exact lsv_dat | exact lsv_ref um_same | exact lsv_ref (by assumption)); skip)
  | ((with_reducible show WL _ _ [_] _ _); (refine wl_int ?_))
  | ((with_reducible show WL _ _ [_] _ _); (refine wl_intb ?_))
  | ((with_reducible show WL _ _ [_, _] _ _); (refine wl_min ?_))
  | ((with_reducible first | show W2 _ (rIxL _) (Sl.dat (PyData.list (List.cons _ _))) (Sl.dat (PyData.int _)) _ _ | show W2 _ (rIxL _) (Sl.dat (PyData.list (List.map PyData.int (List.cons _ _)))) (Sl.dat (PyData.int _)) _ _); (refine' w2_ixAny ?h0 ?h1 ?_); (case h0 => omega); (case h1 => first | omega | (simp only [List.length_cons, List.length_nil, List.length_map]; omega)); skip)
  | ((with_reducible show W2 _ (rIxL _) _ _ _ _); (refine' w2_ixL ?hs ?hx ?_); (case hs => first | exact lsv_dat | exact lsv_ref um_same | exact lsv_ref (by assumption)); (try (case hx => exact rfl)); skip)
  | ((with_reducible show W2 _ (rIxT _) _ _ _ _); (refine' w2_ixT ?hx ?_); (case hx => exact rfl); skip)
  | ((with_reducible show WL _ (rIsi _) [_, _] _ _); (refine' wl_isi ?hb ?_); (case hb => first | exact isi_bool _ | exact isi_int _ | exact isi_str _ | exact isi_tuple _ | exact isi_list _); skip)
  | ((with_reducible show W _ (tC (V.ty _)) _ _ _); (refine w_raw ?_))
  | ((with_reducible show W _ (tC (V.ref _)) _ _ _); (refine w_raw ?_))
  | ((with_reducible show WSl _ (rSlA _) _ _ _ _ _); (refine wsl_tup ?_))
  | ((with_reducible show WL _ (rTupS _) [Sl.dat (PyData.list _)] _ _); (refine wl_tuple lsv_dat ?_))
  | ((with_reducible show W2 _ (rCatA _) _ _ _ _); (refine' w2_catT ?hl ?_); (try (case hl => walk_at "len")); skip)
  | ((with_reducible show WL _ _ [_] _ _); (refine' wl_lenT ?hl ?_); (case hl => exact tpv_dat); skip)
  | ((with_reducible refine' w_fldI ?hv ?hM ?c ?n ?l ?_); (case hv => exact rfl); (case hM => first | assumption | exact um_same); (case c => assumption); (case n => assumption); (case l => walk_at "fl"); skip)
  | ((with_reducible refine' w_dgetI ?hv ?hM ?hx ?_); (case hv => exact rfl); (case hM => first | assumption | exact um_same); (case hx => walk_at "wg"); skip)
  | ((with_reducible refine' ws_fldI ?hv ?c ?n ?_); (case hv => exact rfl); (case c => assumption); (case n => assumption); skip)
  | (with_reducible refine ws_next ?_)
  | ((with_reducible show WS _ Ends.nx _ _ _); (refine ws_next ?_))
  | (with_reducible refine ite_t rfl ?_)
  | (with_reducible refine ite_f rfl ?_)
  | ((with_reducible refine' ite_t ?hb ?_); (case hb => decide +kernel); skip)
  | ((with_reducible refine' ite_f ?hb ?_); (case hb => decide +kernel); skip)
  | ((with_reducible show ∃ b : Bool, _ = Sl.bl b ∧ _); (with_reducible refine ⟨_, rfl, ?_⟩))
  | ((with_reducible show ∃ i : Int, _ = Sl.int i ∧ _); (with_reducible refine ⟨_, rfl, ?_⟩))
  | ((with_reducible show List.length _ ≤ 100000 ∧ _); (refine ⟨(by simp), ?_⟩))
  | ((with_reducible show ∃ ds : List PyData, datsOf _ = some ds ∧ _); (refine ⟨_, rfl, ?_⟩))))
local macro_rules | `(tactic| walk_at "e") => `(tactic| repeat (first | (with_reducible refine ws_seq ?_) | (walk_at "1")))
local macro_rules | `(tactic| walk_at "g") => `(tactic| repeat (first | (walk_at "1") | ((with_reducible refine w_lstI (wa_cons ?_)); (repeat (walk_at "1")); (with_reducible show ∃ ns : List Int, itemsI _ = some ns ∧ _); (refine ⟨_, rfl, ?_⟩)) | (with_reducible refine w_lstD ?_)))
local macro_rules | `(tactic| walk_at "f") => `(tactic| repeat (first | (with_reducible refine ws_seq ?_) | (walk_at "1") | ((with_reducible refine w_lstI (wa_cons ?_)); (repeat (walk_at "1")); (with_reducible show ∃ ns : List Int, itemsI _ = some ns ∧ _); (refine ⟨_, rfl, ?_⟩)) | (with_reducible refine w_lstD ?_)))
local macro_rules | `(tactic| walk_at "k") => `(tactic| first | dsimp only [cxOf, Cx.nox, Cx.wish] | skip)

/-! a State as it stands -/
structure SA where
  o : Addr
  dx : Addr
  r : Addr
  f : Addr
  u : Addr
  n : Addr
  fa : List (Str × Addr)
def SA.sFa (A : SA) (x : List (Str × Addr)) : SA := { A with fa := x }
def SA.sF (A : SA) (x : Addr) : SA := { A with f := x }
def sfld (A : SA) : List (Str × Sl) := [("relations", .raw (.ref A.r)), ("facts", .raw (.ref A.f)), ("rules", .raw (.ref A.u)), ("denials", .raw (.ref A.n))]
theorem sl_r (A : SA) : (sfld A).lookup ("relations" : Str) = some (.raw (.ref A.r) : Sl) := by kernel_rfl
theorem sl_f (A : SA) : (sfld A).lookup ("facts" : Str) = some (.raw (.ref A.f) : Sl) := by kernel_rfl
theorem sl_u (A : SA) : (sfld A).lookup ("rules" : Str) = some (.raw (.ref A.u) : Sl) := by kernel_rfl
theorem sl_n (A : SA) : (sfld A).lookup ("denials" : Str) = some (.raw (.ref A.n) : Sl) := by kernel_rfl
theorem sp_f (A : SA) (x : Addr) : putS "facts" (.raw (.ref x)) (sfld A) = sfld (A.sF x) := by kernel_rfl
def rowsM (rs : List (List Val)) : MO := .lst (rs.map fun r => .dat (encR r))
def kvR (c : Ct) : List (Key × Sl) := c.rel.map fun p => ((.inr p.1 : Key), .int p.2)
def kvF (A : SA) : List (Key × Sl) := A.fa.map fun p => ((.inr p.1 : Key), .raw (.ref p.2))
def kvU (c : Ct) : List (Key × Sl) := c.rul.map fun p => ((.inr p.1 : Key), .dat p.2.enc)
def kvN (c : Ct) : List (Key × Sl) := c.den.map fun p => ((.inr p.1 : Key), .dat (encB p.2))
structure SeAt (C : Addr) (M : MH) (A : SA) (c : Ct) : Prop where
  ho : M A.o = some (.ins C A.dx (sfld A))
  hr : M A.r = some (.dK (kvR c))
  hf : M A.f = some (.dK (kvF A))
  hu : M A.u = some (.dK (kvU c))
  hn : M A.n = some (.dK (kvN c))
  ne : A.r ≠ A.f ∧ A.r ≠ A.u ∧ A.r ≠ A.n ∧ A.f ≠ A.u ∧ A.f ≠ A.n ∧ A.u ≠ A.n
  keys : A.fa.map (·.1) = c.fac.map (·.1)
  rows : ∀ n a, valG A.fa n = some a → M a = some (rowsM (rowsOf c n))
  inj : ∀ n n' a, valG A.fa n = some a → valG A.fa n' = some a → n = n'
def SA.own (A : SA) (b : Addr) : Prop := b = A.o ∨ b = A.r ∨ b = A.f ∨ b = A.u ∨ b = A.n ∨ ∃ n, valG A.fa n = some b
/-- all but the state's own stands as it stood, and is none of the state's new own -/
def SFr (M M' : MH) (A A' : SA) : Prop := A'.o = A.o ∧ ∀ b u, M b = some u → ¬ A.own b → M' b = some u ∧ ¬ A'.own b
theorem SFr.refl {M : MH} {A : SA} : SFr M M A A := ⟨rfl, fun b u hb hn => ⟨hb, hn⟩⟩
theorem SFr.trans {M M' M2 : MH} {A A' A2 : SA} (h : SFr M M' A A') (h' : SFr M' M2 A' A2) : SFr M M2 A A2 := ⟨h'.1.trans h.1, fun b u hb hn => by
  obtain ⟨h1, h2⟩ := h.2 b u hb hn
  exact h'.2 b u h1 h2⟩
section
variable {C : Addr} {M M' : MH} {A A' : SA} {c : Ct}
theorem SeAt.emp (h : SeAt C M A c) {n : Str} (e : valG A.fa n = none) : rowsOf c n = [] := by
  have h1 := valG_isSome n A.fa
  have h2 := valG_isSome n c.fac
  rw [e, h.keys, ← h2] at h1
  unfold rowsOf
  cases hv : valG c.fac n with
  | none => rfl
  | some x => rw [hv] at h1; cases h1
/-- where the rows stand nothing else of the state does -/
theorem SeAt.off (h : SeAt C M A c) {n : Str} {a : Addr} (e : valG A.fa n = some a) : a ≠ A.o ∧ a ≠ A.r ∧ a ≠ A.f ∧ a ≠ A.u ∧ a ≠ A.n := by
  have hr := h.rows n a e
  refine ⟨fun z => ?_, fun z => ?_, fun z => ?_, fun z => ?_, fun z => ?_⟩
  · rw [z, h.ho] at hr; cases hr
  · rw [z, h.hr] at hr; cases hr
  · rw [z, h.hf] at hr; cases hr
  · rw [z, h.hu] at hr; cases hr
  · rw [z, h.hn] at hr; cases hr
theorem SeAt.oo (h : SeAt C M A c) : A.r ≠ A.o ∧ A.f ≠ A.o ∧ A.u ≠ A.o ∧ A.n ≠ A.o := by
  have ho := h.ho
  refine ⟨fun z => ?_, fun z => ?_, fun z => ?_, fun z => ?_⟩
  · rw [← z, h.hr] at ho; cases ho
  · rw [← z, h.hf] at ho; cases ho
  · rw [← z, h.hu] at ho; cases ho
  · rw [← z, h.hn] at ho; cases ho
theorem SeAt.new (h : SeAt C M A c) {b : Addr} (hb : M b = none) : ¬ A.own b := fun z => by
  rcases z with rfl | rfl | rfl | rfl | rfl | ⟨n, e⟩
  · rw [h.ho] at hb; cases hb
  · rw [h.hr] at hb; cases hb
  · rw [h.hf] at hb; cases hb
  · rw [h.hu] at hb; cases hb
  · rw [h.hn] at hb; cases hb
  · rw [h.rows n b e] at hb; cases hb
/-- what is none of its own may change -/
theorem SeAt.um (h : SeAt C M A c) {b : Addr} {x : MO} (hb : ¬ A.own b) : SeAt C (Ab.um M b x) A c := by
  have k : ∀ a, A.own a → a ≠ b := fun a ha e => hb (e ▸ ha)
  refine ⟨?_, ?_, ?_, ?_, ?_, h.ne, h.keys, fun n a e => ?_, h.inj⟩
  · rw [um_ne (k _ (.inl rfl))]; exact h.ho
  · rw [um_ne (k _ (.inr (.inl rfl)))]; exact h.hr
  · rw [um_ne (k _ (.inr (.inr (.inl rfl))))]; exact h.hf
  · rw [um_ne (k _ (.inr (.inr (.inr (.inl rfl)))))]; exact h.hu
  · rw [um_ne (k _ (.inr (.inr (.inr (.inr (.inl rfl))))))]; exact h.hn
  · rw [um_ne (k _ (.inr (.inr (.inr (.inr (.inr ⟨n, e⟩))))))]; exact h.rows n a e
theorem SFr.um {b : Addr} {x : MO} (hb : A.own b) : SFr M (Ab.um M b x) A A := ⟨rfl, fun a u ha hn => ⟨by rw [um_ne fun e => hn (by rw [e]; exact hb)]; exact ha, hn⟩⟩
theorem SFr.umN {b : Addr} {x : MO} (hb : M b = none) : SFr M (Ab.um M b x) A A := ⟨rfl, fun a u ha hn => ⟨by rw [um_ne fun e => by rw [e, hb] at ha; cases ha]; exact ha, hn⟩⟩
theorem SeAt.setR (h : SeAt C M A c) (x : List (Str × Int)) : SeAt C (Ab.um M A.r (.dK (kvR (c.sRel x)))) A (c.sRel x) := by
  obtain ⟨n1, n2, n3, n4, n5, n6⟩ := h.ne
  obtain ⟨o1, o2, o3, o4⟩ := h.oo
  exact ⟨by rw [um_ne o1.symm]; exact h.ho, um_same, by rw [um_ne n1.symm]; exact h.hf, by rw [um_ne n2.symm]; exact h.hu, by rw [um_ne n3.symm]; exact h.hn, h.ne, h.keys, fun n a e => by rw [um_ne (h.off e).2.1]; exact h.rows n a e, h.inj⟩
theorem SeAt.setU (h : SeAt C M A c) (x : List (Str × Rul)) : SeAt C (Ab.um M A.u (.dK (kvU (c.sRul x)))) A (c.sRul x) := by
  obtain ⟨n1, n2, n3, n4, n5, n6⟩ := h.ne
  obtain ⟨o1, o2, o3, o4⟩ := h.oo
  exact ⟨by rw [um_ne o3.symm]; exact h.ho, by rw [um_ne n2]; exact h.hr, by rw [um_ne n4]; exact h.hf, um_same, by rw [um_ne n6.symm]; exact h.hn, h.ne, h.keys, fun n a e => by rw [um_ne (h.off e).2.2.2.1]; exact h.rows n a e, h.inj⟩
theorem SeAt.setN (h : SeAt C M A c) (x : List (Str × List Lit)) : SeAt C (Ab.um M A.n (.dK (kvN (c.sDen x)))) A (c.sDen x) := by
  obtain ⟨n1, n2, n3, n4, n5, n6⟩ := h.ne
  obtain ⟨o1, o2, o3, o4⟩ := h.oo
  exact ⟨by rw [um_ne o4.symm]; exact h.ho, by rw [um_ne n3]; exact h.hr, by rw [um_ne n5]; exact h.hf, by rw [um_ne n6]; exact h.hu, um_same, h.ne, h.keys, fun n a e => by rw [um_ne (h.off e).2.2.2.2]; exact h.rows n a e, h.inj⟩
theorem keys_val {α β : Type} : ∀ {xs : List (Str × α)} {ys : List (Str × β)} {n : Str}, xs.map (·.1) = ys.map (·.1) → (valG xs n).isSome = (valG ys n).isSome := fun {xs ys n} e => by
  rw [valG_isSome, valG_isSome, e]
/-- rows at a name that stands -/
theorem SeAt.setRow (h : SeAt C M A c) {n : Str} {a : Addr} (e : valG A.fa n = some a) (rs : List (List Val)) : SeAt C (Ab.um M a (rowsM rs)) A (c.sFac (putG c.fac n rs)) := by
  obtain ⟨k1, k2, k3, k4, k5⟩ := h.off e
  have hk : n ∈ c.fac.map (·.1) := by
    have := valG_isSome n c.fac
    rw [← keys_val h.keys, e] at this
    exact of_decide_eq_true this.symm
  refine ⟨by rw [um_ne k1.symm]; exact h.ho, by rw [um_ne k2.symm]; exact h.hr, by rw [um_ne k3.symm]; exact h.hf, by rw [um_ne k4.symm]; exact h.hu, by rw [um_ne k5.symm]; exact h.hn, h.ne, ?_, fun n' a' e' => ?_, h.inj⟩
  · rw [h.keys]
    show _ = (putG c.fac n rs).map (·.1)
    rw [putG_keys, if_pos hk]
  · show Ab.um M a (rowsM rs) a' = some (rowsM ((valG (putG c.fac n rs) n').getD []))
    rw [valG_put]
    by_cases en : n = n'
    · subst en
      rw [e] at e'
      cases e'
      rw [if_pos rfl]
      exact um_same
    · have ea : a' ≠ a := fun z => en (h.inj n n' a e (z ▸ e'))
      rw [if_neg en, um_ne ea]
      exact h.rows n' a' e'
/-- rows at a name that is new -/
theorem SeAt.newRow (h : SeAt C M A c) {n : Str} {p : Addr} (e : valG A.fa n = none) (hp : M p = none) (rs : List (List Val)) : SeAt C (Ab.um (Ab.um M p (rowsM rs)) A.f (.dK (kvF (A.sFa (putG A.fa n p))))) (A.sFa (putG A.fa n p)) (c.sFac (putG c.fac n rs)) := by
  obtain ⟨n1, n2, n3, n4, n5, n6⟩ := h.ne
  obtain ⟨o1, o2, o3, o4⟩ := h.oo
  have hk := h.new hp
  have k : ∀ a, A.own a → a ≠ p := fun a ha e => hk (e ▸ ha)
  refine ⟨?_, ?_, um_same, ?_, ?_, h.ne, ?_, fun n' a' e' => ?_, fun n1 n2 a e1 e2 => ?_⟩
  · show Ab.um _ A.f _ A.o = _
    rw [um_ne o2.symm, um_ne (k _ (.inl rfl))]; exact h.ho
  · show Ab.um _ A.f _ A.r = _
    rw [um_ne n1, um_ne (k _ (.inr (.inl rfl)))]; exact h.hr
  · show Ab.um _ A.f _ A.u = _
    rw [um_ne n4.symm, um_ne (k _ (.inr (.inr (.inr (.inl rfl)))))]; exact h.hu
  · show Ab.um _ A.f _ A.n = _
    rw [um_ne n5.symm, um_ne (k _ (.inr (.inr (.inr (.inr (.inl rfl))))))]; exact h.hn
  · show (putG A.fa n p).map (·.1) = (putG c.fac n rs).map (·.1)
    rw [putG_keys, putG_keys, h.keys]
  · have e' : valG (putG A.fa n p) n' = some a' := e'
    show Ab.um _ A.f _ a' = some (rowsM ((valG (putG c.fac n rs) n').getD []))
    rw [valG_put] at e' ⊢
    by_cases en : n = n'
    · subst en
      rw [if_pos rfl] at e' ⊢
      cases e'
      rw [um_ne fun z => k _ (.inr (.inr (.inl rfl))) z.symm]
      exact um_same
    · rw [if_neg en] at e' ⊢
      rw [um_ne (h.off e').2.2.1, um_ne (k _ (.inr (.inr (.inr (.inr (.inr ⟨n', e'⟩))))))]
      exact h.rows n' a' e'
  · have e1 : valG (putG A.fa n p) n1 = some a := e1
    have e2 : valG (putG A.fa n p) n2 = some a := e2
    rw [valG_put] at e1 e2
    by_cases en1 : n = n1
    · by_cases en2 : n = n2
      · exact en1.symm.trans en2
      · rw [if_pos en1] at e1
        rw [if_neg en2] at e2
        cases e1
        exact absurd rfl (k _ (.inr (.inr (.inr (.inr (.inr ⟨n2, e2⟩))))))
    · by_cases en2 : n = n2
      · rw [if_neg en1] at e1
        rw [if_pos en2] at e2
        cases e2
        exact absurd rfl (k _ (.inr (.inr (.inr (.inr (.inr ⟨n1, e1⟩))))))
      · rw [if_neg en1] at e1
        rw [if_neg en2] at e2
        exact h.inj n1 n2 a e1 e2
end

end K03


set_option Elab.async false
set_option linter.all false
set_option maxRecDepth 100000
set_option  maxHeartbeats 4000000
namespace K03
open PySem PyProof.Rows L2 Ab
local macro_rules | `(tactic| walk_at "len") => `(tactic| first | decide | omega | (simp only [List.length_append, List.length_map, List.length_replicate, List.length_cons, List.length_nil, List.length_take, List.length_drop, List.length_reverse, List.length_range]; omega))
local macro_rules | `(tactic| walk_at "str") => `(tactic| first | decide +kernel | exact goodS_ok (by assumption) | assumption)
local macro_rules | `(tactic| walk_at "1") => `(tactic| (first
  | (with_reducible refine ws_set ?_)
  | (with_reducible refine ws_ret ?_)
  | (with_reducible refine ws_if ?_)
  | (with_reducible refine ws_drop ?_)
  | (with_reducible refine w_op ?_)
  | (with_reducible refine w_un ?_)
  | (with_reducible refine w_int ?_)
  | (with_reducible refine w_bl ?_)
  | (with_reducible refine w_non ?_)
  | (with_reducible refine w_str ?_)
  | (with_reducible refine w_cb ?_)
  | (with_reducible refine w_call ?_)
  | (with_reducible refine w_sl ?_)
  | (with_reducible refine w_tupD ?_)
  | (with_reducible refine w_chain ?_)
  | (with_reducible refine w_andV ?_)
  | (with_reducible refine w_orV ?_)
  | (with_reducible refine w_notV ?_)
  | (with_reducible refine wo_none ?_)
  | (with_reducible refine wo_some ?_)
  | (with_reducible refine wa_cons ?_)
  | (with_reducible refine wa_nil ?_)
  | (with_reducible refine wt_test ?_)
  | (with_reducible refine wt_B ?_)
  | (with_reducible refine wt_and ?_)
  | (with_reducible refine wt_or ?_)
  | (with_reducible refine wt_not ?_)
  | (with_reducible refine wt_yes ?_)
  | (with_reducible refine w2_i0 ?_)
  | (with_reducible refine w2_b0 ?_)
  | (with_reducible refine w1_neg ?_)
  | ((with_reducible refine w2_i ?hc ?_); (case hc => first | decide | exact ⟨by decide, by decide⟩ | exact Or.inl ⟨by decide, by decide⟩ | exact Or.inr ⟨by decide, by decide⟩ | exact ⟨by decide, by decide, by decide⟩ | omega); skip)
  | ((with_reducible refine' w_var ?hv ?_); (case hv => exact rfl); skip)
  | ((with_reducible show W2 _ (rEqD _) (Sl.dat (PyData.int _)) (Sl.dat (PyData.int _)) _ _); (refine w2_eqI ?_))
  | ((with_reducible show W2 _ (rNeD _) (Sl.dat (PyData.int _)) (Sl.dat (PyData.int _)) _ _); (refine w2_neI ?_))
  | ((with_reducible show W2 _ (rEqD _) (Sl.dat (PyData.str _)) (Sl.dat (PyData.str _)) _ _); (refine' w2_eqS ?h1 ?h2 ?_); (case h1 => walk_at "str"); (case h2 => walk_at "str"); skip)
  | ((with_reducible show W2 _ (rNeD _) (Sl.dat (PyData.str _)) (Sl.dat (PyData.str _)) _ _); (refine' w2_neS ?h1 ?h2 ?_); (case h1 => walk_at "str"); (case h2 => walk_at "str"); skip)
  | ((with_reducible show W2 _ (rEqD _) _ _ _ _); (refine w2_eq ?ha ?hb ?_); (case ha => first | exact shaped_int _ | exact shaped_bool _ | exact shaped_none); (case hb => first | exact shaped_int _ | exact shaped_bool _ | exact shaped_none); skip)
  | ((with_reducible show W2 _ (rNeD _) _ _ _ _); (refine w2_ne ?ha ?hb ?_); (case ha => first | exact shaped_int _ | exact shaped_bool _ | exact shaped_none); (case hb => first | exact shaped_int _ | exact shaped_bool _ | exact shaped_none); skip)
  | ((with_reducible show W2 _ _ _ _ _ _); (refine w2_isN ?_))
  | ((with_reducible show W2 _ rIsB _ _ _ _); (refine w2_isB ?_))
  | ((with_reducible show W2 _ rNotB _ _ _ _); (refine w2_notB ?_))
  | ((with_reducible show W2 _ _ _ _ _ _); (refine w2_notN ?_))
  | (with_reducible refine wl_lenE ?_)
  | (with_reducible refine wl_lenD ?_)
  | (with_reducible refine wl_lenTD ?_)
  | (with_reducible refine wl_listE ?_)
  | (with_reducible refine wsl_E ?_)
  | ((with_reducible refine' w2_catE ?hl ?_); (try (case hl => walk_at "len")); skip)
  | ((with_reducible refine' w2_rep1 ?h1 ?h2 ?_); (try (case h1 => first | decide | omega)); (try (case h2 => first | decide | omega)); skip)
  | ((with_reducible show WL _ _ [_] _ _); (refine' wl_len ?hl ?_); (case hl => first | exact lsv_dat | exact lsv_ref um_same | exact lsv_ref (by assumption)); skip)
  | ((with_reducible show WL _ _ [_] _ _); (refine' wl_list ?hl ?_); (case hl => first | exact .inl lsv_dat | exact .inl (lsv_ref (by assumption))); skip)
  | ((with_reducible show WSl _ (rSlL _) _ _ _ _ _); (refine' wsl_lst ?hl ?_); (case hl => first | exact lsv_dat | exact lsv_ref um_same | exact lsv_ref (by assumption)); skip)
  | ((with_reducible show WL _ _ [_] _ _); (refine wl_int ?_))
  | ((with_reducible show WL _ _ [_] _ _); (refine wl_intb ?_))
  | ((with_reducible show WL _ _ [_, _] _ _); (refine wl_min ?_))
  | ((with_reducible first | show W2 _ (rIxL _) (Sl.dat (PyData.list (List.cons _ _))) (Sl.dat (PyData.int _)) _ _ | show W2 _ (rIxL _) (Sl.dat (PyData.list (List.map PyData.int (List.cons _ _)))) (Sl.dat (PyData.int _)) _ _); (refine' w2_ixAny ?h0 ?h1 ?_); (case h0 => omega); (case h1 => first | omega | (simp only [List.length_cons, List.length_nil, List.length_map]; omega)); skip)
  | ((with_reducible show W2 _ (rIxL _) _ _ _ _); (refine' w2_ixL ?hs ?hx ?_); (case hs => first | exact lsv_dat | exact lsv_ref um_same | exact lsv_ref (by assumption)); (try (case hx => exact rfl)); skip)
  | ((with_reducible show W2 _ (rIxT _) _ _ _ _); (refine' w2_ixT ?hx ?_); (case hx => exact rfl); skip)
  | ((with_reducible show WL _ (rIsi _) [_, _] _ _); (refine' wl_isi ?hb ?_); (case hb => first | exact isi_bool _ | exact isi_int _ | exact isi_str _ | exact isi_tuple _ | exact isi_list _); skip)
  | ((with_reducible show W _ (tC (V.ty _)) _ _ _); (refine w_raw ?_))
  | ((with_reducible show W _ (tC (V.ref _)) _ _ _); (refine w_raw ?_))
  | ((with_reducible show WSl _ (rSlA _) _ _ _ _ _); (refine wsl_tup ?_))
  | ((with_reducible show WL _ (rTupS _) [Sl.dat (PyData.list _)] _ _); (refine wl_tuple lsv_dat ?_))
  | ((with_reducible show W2 _ (rCatA _) _ _ _ _); (refine' w2_catT ?hl ?_); (try (case hl => walk_at "len")); skip)
  | ((with_reducible show WL _ _ [_] _ _); (refine' wl_lenT ?hl ?_); (case hl => exact tpv_dat); skip)
  | ((with_reducible refine' w_fldI ?hv ?hM ?c ?n ?l ?_); (case hv => exact rfl); (case hM => first | assumption | exact um_same); (case c => assumption); (case n => assumption); (case l => walk_at "fl"); skip)
  | ((with_reducible refine' w_dgetI ?hv ?hM ?hx ?_); (case hv => exact rfl); (case hM => first | assumption | exact um_same); (case hx => walk_at "wg"); skip)
  | ((with_reducible refine' ws_fldI ?hv ?c ?n ?_); (case hv => exact rfl); (case c => assumption); (case n => assumption); skip)
  | (with_reducible refine ws_next ?_)
  | ((with_reducible show WS _ Ends.nx _ _ _); (refine ws_next ?_))
  | (with_reducible refine ite_t rfl ?_)
  | (with_reducible refine ite_f rfl ?_)
  | ((with_reducible refine' ite_t ?hb ?_); (case hb => decide +kernel); skip)
  | ((with_reducible refine' ite_f ?hb ?_); (case hb => decide +kernel); skip)
  | ((with_reducible show ∃ b : Bool, _ = Sl.bl b ∧ _); (with_reducible refine ⟨_, rfl, ?_⟩))
  | ((with_reducible show ∃ i : Int, _ = Sl.int i ∧ _); (with_reducible refine ⟨_, rfl, ?_⟩))
  | ((with_reducible show List.length _ ≤ 100000 ∧ _); (refine ⟨(by simp), ?_⟩))
  | ((with_reducible show ∃ ds : List PyData, datsOf _ = some ds ∧ _); (refine ⟨_, rfl, ?_⟩))))
local macro_rules | `(tactic| walk_at "e") => `(tactic| repeat (first | (with_reducible refine ws_seq ?_) | (walk_at "1")))
local macro_rules | `(tactic| walk_at "g") => `(tactic| repeat (first | (walk_at "1") | ((with_reducible refine w_lstI (wa_cons ?_)); (repeat (walk_at "1")); (with_reducible show ∃ ns : List Int, itemsI _ = some ns ∧ _); (refine ⟨_, rfl, ?_⟩)) | (with_reducible refine w_lstD ?_)))
local macro_rules | `(tactic| walk_at "f") => `(tactic| repeat (first | (with_reducible refine ws_seq ?_) | (walk_at "1") | ((with_reducible refine w_lstI (wa_cons ?_)); (repeat (walk_at "1")); (with_reducible show ∃ ns : List Int, itemsI _ = some ns ∧ _); (refine ⟨_, rfl, ?_⟩)) | (with_reducible refine w_lstD ?_)))
local macro_rules | `(tactic| walk_at "k") => `(tactic| first | dsimp only [cxOf, Cx.nox, Cx.wish] | skip)

local macro_rules | `(tactic| walk_at "fl") => `(tactic| with_reducible first | exact sl_r _ | exact sl_f _ | exact sl_u _ | exact sl_n _)

section
variable {P : Program} {w : World} {K : PySem.W.Frag} {mg : Str → Option Value} {base : Heap} {a : AD} {d : FD}
/-! has, put -/
theorem any_rows (rs : List (List Val)) (row : List Val) : ((rs.map encR).any fun z => PyData.eqv z (encR row)) = decide (row ∈ rs) := by
  induction rs with
  | nil => simp
  | cons r rs ih =>
    rw [List.map_cons, List.any_cons, ih, eqv_row]
    by_cases e : r = row
    · subst e; simp
    · have : ¬ row = r := fun z => e z.symm
      simp [e, this]
theorem rows_shaped {rs : List (List Val)} (h : ∀ r ∈ rs, okR r ∧ r ≠ []) (hl : rs.length ≤ 1000) : SeqAt.shaped (.list (rs.map encR)) = true := okD_shaped (n := 2) (okD_mkL (by rw [List.length_map]; omega) (okAll_of fun d hd => by
  obtain ⟨r, hr, rfl⟩ := List.mem_map.mp hd
  exact okR_okD (n := 0) (h r hr).1)) (by decide)
def A_has (C : Addr) : ASp := fun ss M Q => ∃ A c n row, ss = [.raw (.ref (SA.o A)), .str n, .dat (encR row)] ∧ SeAt C M A c ∧ CtOk c ∧ okR row ∧ Q (.bl (decide (row ∈ rowsOf c n))) M
theorem ok_has (T : Txt K mg a d) : FnOk P w K mg base CX0 1 a.State_has d.State_has ["self", "relation", "row"] (conc K (A_has a.State)) := by
  have cl := T.cl_State
  have n1 := T.na_State_facts
  refine ab_ok T.F_State_has sc_State_has (fun ss M Q ⟨A, c, n, row, e, _⟩ => by subst e; rfl) fun cdv Ar outer s H E hr => ?_
  have hu64 := hr.units
  have hu65 := room65 hr
  refine ⟨_, (pss_one (ps_ret (pe_cmpR (r := rInD K) (op_inD hu65) (pv 2) (pe_dget2 (hu1 hu64) (pe_fld (pv 0) rfl) (pv 1) (pe_lst pa_nil) ⟨rfl, rfl, rfl, rfl⟩) (by rfl)))), ?_⟩
  rintro ss M Q ⟨A, c, n, row, rfl, h, hc, hrow, q⟩
  walk_at "k"
  show WS K _ [some (.raw (.ref A.o)), some (.str n), some (.dat (encR row))] M _
  have ho := h.ho
  have sr : SeqAt.shaped (encR row) = true := okD_shaped (okR_okD (n := 0) hrow) (by decide)
  refine ws_ret (w_op (w_var rfl (w_dget2 (w_fldI rfl ho cl n1 (sl_f _) ⟨⟨_, dcv_ref h.hf⟩, w_var rfl (w_lstD (wa_nil ⟨[], rfl, by simp, _, .inr n, dcv_ref h.hf, rfl, ?_⟩))⟩))))
  unfold kvF
  rw [valG_inr (fun p : Addr => Sl.raw (.ref p))]
  cases e : valG A.fa n with
  | none =>
    refine w2_inL (ds := []) lsv_dat sr (by decide +kernel) ?_
    rw [h.emp e] at q
    simpa using q
  | some p =>
    obtain ⟨h1, h2⟩ := hc.row (n := n)
    have hp := h.rows n p e
    refine w2_inL (ds := (rowsOf c n).map encR) (lsv_ref (by rw [List.map_map]; exact hp)) sr (rows_shaped h1 h2) ?_
    rw [any_rows]
    exact q
def A_put (C : Addr) : ASp := fun ss M Q => ∃ A c it, ss = [.raw (.ref (SA.o A)), .dat (Item.enc it)] ∧ SeAt C M A c ∧ CtOk c ∧ it.ok ∧ ∀ M' A', SeAt C M' A' (c.put it) → SFr M M' A A' → Q .non M'
theorem kvG_len {β γ : Type} (kvs : List (Str × β)) (f : Str × β → γ) : (kvs.map f).length = kvs.length := List.length_map ..
theorem ok_put (T : Txt K mg a d) : FnOk P w K mg base CX0 2 a.State_put d.State_put ["self", "item"] (conc K (A_put a.State)) := by
  have cl := T.cl_State
  have n1 := T.na_State_relations
  have n2 := T.na_State_facts
  have n3 := T.na_State_rules
  have n4 := T.na_State_denials
  have G_State_has : FnOk P w K mg base CX0 1 a.State_has d.State_has ["self", "relation", "row"] (conc K (A_has a.State)) := ok_has T
  refine ab_ok T.F_State_put sc_State_put (fun ss M Q ⟨A, c, it, e, _⟩ => by subst e; rfl) fun cdv Ar outer s H E hr => ?_
  have hu64 := hr.units
  refine ⟨_, (pss_cons (ps_asg (pe_slice (r := rSlA K) sl_tupA (pv 1) po_none (po_some pe_int)) (pg_tupK (K := K) (n := 2) rfl rfl (pgs_cons (pg_name (i := 2) sc_State_put.nd rfl (Or.inl rfl)) (pgs_cons (pg_name (i := 3) sc_State_put.nd rfl (Or.inl rfl)) pgs_nil))))
  (pss_one (ps_if (pt_cmpR (r := rEqD K) (op_eqD hu64) (pv 2) pe_str (nomark _)) (pss_one (ps_dput (hu1 hu64) (pe_fld (pv 0) rfl) (pv 3) (pe_ix (r := rIxT K) ix_tup (pv 1) pe_int (fun _ _ => rfl)) rfl)) (pss_one (ps_if (pt_cmpR (r := rEqD K) (op_eqD hu64) (pv 2) pe_str (nomark _)) (pss_one (ps_dput (hu1 hu64) (pe_fld (pv 0) rfl) (pv 3) (pe_slice (r := rSlA K) sl_tupA (pv 1) (po_some pe_int) po_none) rfl)) (pss_one (ps_if (pt_cmpR (r := rEqD K) (op_eqD hu64) (pv 2) pe_str (nomark _)) (pss_one (ps_dput (hu1 hu64) (pe_fld (pv 0) rfl) (pv 3) (pe_ix (r := rIxT K) ix_tup (pv 1) pe_int (fun _ _ => rfl)) rfl)) (pss_one (ps_if (pt_not (pt_val (pe_meth (pv 0) T.cl_State T.m_State_has G_State_has (hr.mono (by omega)) T.b_State_has .nil pass0 (pa_cons (pv 3) (pa_cons (pe_ix (r := rIxT K) ix_tup (pv 1) pe_int (fun _ _ => rfl)) pa_nil))))) (pss_one (ps_expr (pe_bm PySem.F.plainAttrs_list PySem.F.slot_list_append PySem.F.type_list_append mt_append (pe_dsetd (pe_fld (pv 0) rfl) (pv 3) (pe_lst pa_nil) ⟨rfl, rfl, rfl, rfl⟩) (pa_cons (pe_ix (r := rIxT K) ix_tup (pv 1) pe_int (fun _ _ => rfl)) pa_nil)))) pss_nil))))))))), ?_⟩
  rintro ss M Q ⟨A, c, it, rfl, h, hc, hit, q⟩
  walk_at "k"
  show WS K _ [some (.raw (.ref A.o)), some (.dat it.enc), none, none] M _
  have ho := h.ho
  cases it with
  | relation n x =>
    refine ws_seq (ws_asg ?_)
    walk_at "f"
    refine wg_tup rfl rfl (wgs_cons (wg_name (wgs_cons (wg_name (wgs_nil ?_)))))
    walk_at "f"
    refine ws_dput ?_
    walk_at "f"
    refine ⟨A.r, kvR c, .inr n, rfl, rfl, h.hr, by unfold kvR; rw [List.length_map]; have := hc.sz.1; omega, ?_⟩
    have h2 := h.setR (putG c.rel n x)
    have e : putG (kvR c) (.inr n) (.int x) = kvR (c.sRel (putG c.rel n x)) := putG_inr (fun i : Int => Sl.int i) n x c.rel
    rw [e]
    exact q _ A h2 (SFr.um (.inr (.inl rfl)))
  | rule n rel hd b =>
    refine ws_seq (ws_asg ?_)
    walk_at "f"
    refine wg_tup rfl rfl (wgs_cons (wg_name (wgs_cons (wg_name (wgs_nil ?_)))))
    walk_at "f"
    refine ws_dput ?_
    walk_at "f"
    refine ⟨A.u, kvU c, .inr n, rfl, rfl, h.hu, by unfold kvU; rw [List.length_map]; have := hc.sz.2.2.1; omega, ?_⟩
    have h2 := h.setU (putG c.rul n ⟨rel, hd, b⟩)
    have e : putG (kvU c) (.inr n) (.dat (Rul.enc ⟨rel, hd, b⟩)) = kvU (c.sRul (putG c.rul n ⟨rel, hd, b⟩)) := putG_inr (fun r : Rul => Sl.dat r.enc) n _ c.rul
    rw [← e] at h2
    exact q _ A h2 (SFr.um (.inr (.inr (.inr (.inl rfl)))))
  | denial n b =>
    refine ws_seq (ws_asg ?_)
    walk_at "f"
    refine wg_tup rfl rfl (wgs_cons (wg_name (wgs_cons (wg_name (wgs_nil ?_)))))
    walk_at "f"
    refine ws_dput ?_
    walk_at "f"
    refine ⟨A.n, kvN c, .inr n, rfl, rfl, h.hn, by unfold kvN; rw [List.length_map]; have := hc.sz.2.2.2; omega, ?_⟩
    have h2 := h.setN (putG c.den n b)
    have e : putG (kvN c) (.inr n) (.dat (encB b)) = kvN (c.sDen (putG c.den n b)) := putG_inr (fun r : List Lit => Sl.dat (encB r)) n _ c.den
    rw [← e] at h2
    exact q _ A h2 (SFr.um (.inr (.inr (.inr (.inr (.inl rfl))))))
  | fact n row =>
    refine ws_seq (ws_asg ?_)
    walk_at "f"
    refine wg_tup rfl rfl (wgs_cons (wg_name (wgs_cons (wg_name (wgs_nil ?_)))))
    walk_at "f"
    refine w_meth (w_var rfl ⟨A.o, A.dx, sfld A, rfl, ho, by kernel_rfl, wa_cons (w_var rfl (wa_cons (w_op (w_var rfl (w_int (w2_ixT rfl (wa_nil ⟨A, c, n, row, rfl, h, hc, hit.2.1, ?_⟩))))))) ⟩)
    walk_at "f"
    refine ite_n (fun hin => ?_) (fun hin => ?_)
    · have ec : c.put (.fact n row) = c.sFac (putG c.fac n (rowsOf c n ++ [row])) := if_neg hin
      rw [ec] at q
      walk_at "f"
      refine w_bm (w_dsetd (w_fldI rfl ho cl n2 (sl_f _) ⟨A.f, rfl, ⟨_, h.hf⟩, w_var rfl (w_lstM (wa_nil ⟨by simp, fun p hp => ?_⟩))⟩))
      have hk := h.new hp
      have fp : Ab.um M p (.lst []) A.f = some (.dK (kvF A)) := by rw [um_ne fun z => hk (.inr (.inr (.inl z.symm)))]; exact h.hf
      have ev : valG (kvF A) (.inr n) = (valG A.fa n).map fun p => Sl.raw (.ref p) := valG_inr (fun p : Addr => Sl.raw (.ref p)) n A.fa
      refine ⟨kvF A, .inr n, fp, rfl, by unfold kvF; rw [List.length_map, ← List.length_map (f := (·.1)), h.keys, List.length_map]; have := hc.sz.2.1; omega, fun x hx => ?_, fun hx => ?_⟩
      · rw [ev] at hx
        cases ea : valG A.fa n with
        | none => rw [ea] at hx; cases hx
        | some a0 =>
          rw [ea] at hx
          cases hx
          have h1 := h.um (x := .lst []) hk
          have hr1 := h1.rows n a0 ea
          refine ⟨ty_lst (lsv_ref hr1), ?_⟩
          walk_at "f"
          refine wm_append hr1 (by rw [List.length_map]; have := (hc.row (n := n)).2; omega) ?_
          have h2 := h1.setRow ea (rowsOf c n ++ [row])
          refine q _ A (by unfold rowsM at h2; rw [List.map_append] at h2; exact h2) ((SFr.umN hp).trans (SFr.um (.inr (.inr (.inr (.inr (.inr ⟨n, ea⟩)))))))
      · rw [ev] at hx
        have ea : valG A.fa n = none := by
          cases ea : valG A.fa n with
          | none => rfl
          | some a0 => rw [ea] at hx; cases hx
        have pf : p ≠ A.f := fun z => hk (.inr (.inr (.inl z)))
        have hp1 : Ab.um (Ab.um M p (.lst [])) A.f (.dK (putG (kvF A) (.inr n) (.raw (.ref p)))) p = some (.lst []) := by rw [um_ne pf]; exact um_same
        refine ⟨ty_lst (lsv_ref hp1), ?_⟩
        walk_at "f"
        refine wm_append hp1 (by simp) ?_
        have er : rowsOf c n = [] := h.emp ea
        have h2 := h.newRow ea hp (rowsOf c n ++ [row])
        have ek : kvF (A.sFa (putG A.fa n p)) = putG (kvF A) (.inr n) (.raw (.ref p)) := (putG_inr (fun p : Addr => Sl.raw (.ref p)) n p A.fa).symm
        rw [ek, er] at h2
        rw [er] at q
        have em : Ab.um (Ab.um (Ab.um M p (.lst [])) A.f (.dK (putG (kvF A) (.inr n) (.raw (.ref p))))) p (.lst ([] ++ [.dat (encR row)])) = Ab.um (Ab.um M p (rowsM ([] ++ [row]))) A.f (.dK (putG (kvF A) (.inr n) (.raw (.ref p)))) := by
          rw [um_comm pf, um_um, um_comm (Ne.symm pf)]
          rfl
        rw [em]
        refine q _ _ h2 ⟨rfl, fun b u hb hn => ?_⟩
        have b1 : b ≠ p := fun z => by rw [z, hp] at hb; cases hb
        have b2 : b ≠ A.f := fun z => hn (.inr (.inr (.inl z)))
        refine ⟨by rw [um_ne b2, um_ne b1]; exact hb, fun z => ?_⟩
        rcases z with z | z | z | z | z | ⟨n', z⟩
        · exact hn (.inl z)
        · exact hn (.inr (.inl z))
        · exact hn (.inr (.inr (.inl z)))
        · exact hn (.inr (.inr (.inr (.inl z))))
        · exact hn (.inr (.inr (.inr (.inr (.inl z)))))
        · have z : valG (putG A.fa n p) n' = some b := z
          rw [valG_put] at z
          by_cases en : n = n'
          · rw [if_pos en] at z
            cases z
            exact b1 rfl
          · rw [if_neg en] at z
            exact hn (.inr (.inr (.inr (.inr (.inr ⟨n', z⟩)))))
    · have ec : c.put (.fact n row) = c := if_pos hin
      rw [ec] at q
      walk_at "f"
      exact q _ A h SFr.refl

end
end K03


set_option Elab.async false
set_option linter.all false
set_option maxRecDepth 100000
set_option  maxHeartbeats 4000000
namespace K03
open PySem PyProof.Rows L2 Ab
local macro_rules | `(tactic| walk_at "len") => `(tactic| first | decide | omega | (simp only [List.length_append, List.length_map, List.length_replicate, List.length_cons, List.length_nil, List.length_take, List.length_drop, List.length_reverse, List.length_range]; omega))
local macro_rules | `(tactic| walk_at "str") => `(tactic| first | decide +kernel | exact goodS_ok (by assumption) | assumption)
local macro_rules | `(tactic| walk_at "1") => `(tactic| (first
  | (with_reducible refine ws_set ?_)
  | (with_reducible refine ws_ret ?_)
  | (with_reducible refine ws_if ?_)
  | (with_reducible refine ws_drop ?_)
  | (with_reducible refine w_op ?_)
  | (with_reducible refine w_un ?_)
  | (with_reducible refine w_int ?_)
  | (with_reducible refine w_bl ?_)
  | (with_reducible refine w_non ?_)
  | (with_reducible refine w_str ?_)
  | (with_reducible refine w_cb ?_)
  | (with_reducible refine w_call ?_)
  | (with_reducible refine w_sl ?_)
  | (with_reducible refine w_tupD ?_)
  | (with_reducible refine w_chain ?_)
  | (with_reducible refine w_andV ?_)
  | (with_reducible refine w_orV ?_)
  | (with_reducible refine w_notV ?_)
  | (with_reducible refine wo_none ?_)
  | (with_reducible refine wo_some ?_)
  | (with_reducible refine wa_cons ?_)
  | (with_reducible refine wa_nil ?_)
  | (with_reducible refine wt_test ?_)
  | (with_reducible refine wt_B ?_)
  | (with_reducible refine wt_and ?_)
  | (with_reducible refine wt_or ?_)
  | (with_reducible refine wt_not ?_)
  | (with_reducible refine wt_yes ?_)
  | (with_reducible refine w2_i0 ?_)
  | (with_reducible refine w2_b0 ?_)
  | (with_reducible refine w1_neg ?_)
  | ((with_reducible refine w2_i ?hc ?_); (case hc => first | decide | exact ⟨by decide, by decide⟩ | exact Or.inl ⟨by decide, by decide⟩ | exact Or.inr ⟨by decide, by decide⟩ | exact ⟨by decide, by decide, by decide⟩ | omega); skip)
  | ((with_reducible refine' w_var ?hv ?_); (case hv => exact rfl); skip)
  | ((with_reducible show W2 _ (rEqD _) (Sl.dat (PyData.int _)) (Sl.dat (PyData.int _)) _ _); (refine w2_eqI ?_))
  | ((with_reducible show W2 _ (rNeD _) (Sl.dat (PyData.int _)) (Sl.dat (PyData.int _)) _ _); (refine w2_neI ?_))
  | ((with_reducible show W2 _ (rEqD _) (Sl.dat (PyData.str _)) (Sl.dat (PyData.str _)) _ _); (refine' w2_eqS ?h1 ?h2 ?_); (case h1 => walk_at "str"); (case h2 => walk_at "str"); skip)
  | ((with_reducible show W2 _ (rNeD _) (Sl.dat (PyData.str _)) (Sl.dat (PyData.str _)) _ _); (refine' w2_neS ?h1 ?h2 ?_); (case h1 => walk_at "str"); (case h2 => walk_at "str"); skip)
  | ((with_reducible show W2 _ (rEqD _) _ _ _ _); (refine w2_eq ?ha ?hb ?_); (case ha => first | exact shaped_int _ | exact shaped_bool _ | exact shaped_none); (case hb => first | exact shaped_int _ | exact shaped_bool _ | exact shaped_none); skip)
  | ((with_reducible show W2 _ (rNeD _) _ _ _ _); (refine w2_ne ?ha ?hb ?_); (case ha => first | exact shaped_int _ | exact shaped_bool _ | exact shaped_none); (case hb => first | exact shaped_int _ | exact shaped_bool _ | exact shaped_none); skip)
  | ((with_reducible show W2 _ _ _ _ _ _); (refine w2_isN ?_))
  | ((with_reducible show W2 _ rIsB _ _ _ _); (refine w2_isB ?_))
  | ((with_reducible show W2 _ rNotB _ _ _ _); (refine w2_notB ?_))
  | ((with_reducible show W2 _ _ _ _ _ _); (refine w2_notN ?_))
  | (with_reducible refine wl_lenE ?_)
  | (with_reducible refine wl_lenD ?_)
  | (with_reducible refine wl_lenTD ?_)
  | (with_reducible refine wl_listE ?_)
  | (with_reducible refine wsl_E ?_)
  | ((with_reducible refine' w2_catE ?hl ?_); (try (case hl => walk_at "len")); skip)
  | ((with_reducible refine' w2_rep1 ?h1 ?h2 ?_); (try (case h1 => first | decide | omega)); (try (case h2 => first | decide | omega)); skip)
  | ((with_reducible show WL _ _ [_] _ _); (refine' wl_len ?hl ?_); (case hl => first | exact lsv_dat | exact lsv_ref um_same | exact lsv_ref (by assumption)); skip)
  | ((with_reducible show WL _ _ [_] _ _); (refine' wl_list ?hl ?_); (case hl => first | exact .inl lsv_dat | exact .inl (lsv_ref (by assumption))); skip)
  | ((with_reducible show WSl _ (rSlL _) _ _ _ _ _); (refine' wsl_lst ?hl ?_); (case hl => first | exact lsv_dat | exact lsv_ref um_same | exact lsv_ref (by assumption)); skip)
  | ((with_reducible show WL _ _ [_] _ _); (refine wl_int ?_))
  | ((with_reducible show WL _ _ [_] _ _); (refine wl_intb ?_))
  | ((with_reducible show WL _ _ [_, _] _ _); (refine wl_min ?_))
  | ((with_reducible first | show W2 _ (rIxL _) (Sl.dat (PyData.list (List.cons _ _))) (Sl.dat (PyData.int _)) _ _ | show W2 _ (rIxL _) (Sl.dat (PyData.list (List.map PyData.int (List.cons _ _)))) (Sl.dat (PyData.int _)) _ _); (refine' w2_ixAny ?h0 ?h1 ?_); (case h0 => omega); (case h1 => first | omega | (simp only [List.length_cons, List.length_nil, List.length_map]; omega)); skip)
  | ((with_reducible show W2 _ (rIxL _) _ _ _ _); (refine' w2_ixL ?hs ?hx ?_); (case hs => first | exact lsv_dat | exact lsv_ref um_same | exact lsv_ref (by assumption)); (try (case hx => exact rfl)); skip)
  | ((with_reducible show W2 _ (rIxT _) _ _ _ _); (refine' w2_ixT ?hx ?_); (case hx => exact rfl); skip)
  | ((with_reducible show WL _ (rIsi _) [_, _] _ _); (refine' wl_isi ?hb ?_); (case hb => first | exact isi_bool _ | exact isi_int _ | exact isi_str _ | exact isi_tuple _ | exact isi_list _); skip)
  | ((with_reducible show W _ (tC (V.ty _)) _ _ _); (refine w_raw ?_))
  | ((with_reducible show W _ (tC (V.ref _)) _ _ _); (refine w_raw ?_))
  | ((with_reducible show WSl _ (rSlA _) _ _ _ _ _); (refine wsl_tup ?_))
  | ((with_reducible show WL _ (rTupS _) [Sl.dat (PyData.list _)] _ _); (refine wl_tuple lsv_dat ?_))
  | ((with_reducible show W2 _ (rCatA _) _ _ _ _); (refine' w2_catT ?hl ?_); (try (case hl => walk_at "len")); skip)
  | ((with_reducible show WL _ _ [_] _ _); (refine' wl_lenT ?hl ?_); (case hl => exact tpv_dat); skip)
  | ((with_reducible refine' w_fldI ?hv ?hM ?c ?n ?l ?_); (case hv => exact rfl); (case hM => first | assumption | exact um_same); (case c => assumption); (case n => assumption); (case l => walk_at "fl"); skip)
  | ((with_reducible refine' w_dgetI ?hv ?hM ?hx ?_); (case hv => exact rfl); (case hM => first | assumption | exact um_same); (case hx => walk_at "wg"); skip)
  | ((with_reducible refine' ws_fldI ?hv ?c ?n ?_); (case hv => exact rfl); (case c => assumption); (case n => assumption); skip)
  | (with_reducible refine ws_next ?_)
  | ((with_reducible show WS _ Ends.nx _ _ _); (refine ws_next ?_))
  | (with_reducible refine ite_t rfl ?_)
  | (with_reducible refine ite_f rfl ?_)
  | ((with_reducible refine' ite_t ?hb ?_); (case hb => decide +kernel); skip)
  | ((with_reducible refine' ite_f ?hb ?_); (case hb => decide +kernel); skip)
  | ((with_reducible show ∃ b : Bool, _ = Sl.bl b ∧ _); (with_reducible refine ⟨_, rfl, ?_⟩))
  | ((with_reducible show ∃ i : Int, _ = Sl.int i ∧ _); (with_reducible refine ⟨_, rfl, ?_⟩))
  | ((with_reducible show List.length _ ≤ 100000 ∧ _); (refine ⟨(by simp), ?_⟩))
  | ((with_reducible show ∃ ds : List PyData, datsOf _ = some ds ∧ _); (refine ⟨_, rfl, ?_⟩))))
local macro_rules | `(tactic| walk_at "e") => `(tactic| repeat (first | (with_reducible refine ws_seq ?_) | (walk_at "1")))
local macro_rules | `(tactic| walk_at "g") => `(tactic| repeat (first | (walk_at "1") | ((with_reducible refine w_lstI (wa_cons ?_)); (repeat (walk_at "1")); (with_reducible show ∃ ns : List Int, itemsI _ = some ns ∧ _); (refine ⟨_, rfl, ?_⟩)) | (with_reducible refine w_lstD ?_)))
local macro_rules | `(tactic| walk_at "f") => `(tactic| repeat (first | (with_reducible refine ws_seq ?_) | (walk_at "1") | ((with_reducible refine w_lstI (wa_cons ?_)); (repeat (walk_at "1")); (with_reducible show ∃ ns : List Int, itemsI _ = some ns ∧ _); (refine ⟨_, rfl, ?_⟩)) | (with_reducible refine w_lstD ?_)))
local macro_rules | `(tactic| walk_at "k") => `(tactic| first | dsimp only [cxOf, Cx.nox, Cx.wish] | skip)

local macro_rules | `(tactic| walk_at "fl") => `(tactic| with_reducible first | exact sl_r _ | exact sl_f _ | exact sl_u _ | exact sl_n _)

section
variable {P : Program} {w : World} {K : PySem.W.Frag} {mg : Str → Option Value} {base : Heap} {a : AD} {d : FD}
/-! tidy -/
def A_tidy (C : Addr) : ASp := fun ss M Q => ∃ A c, ss = [.raw (.ref (SA.o A))] ∧ SeAt C M A c ∧ CtOk c ∧ Ct.small c ∧ ∀ M' A', SeAt C M' A' c.tidy → SFr M M' A A' → Q .non M'
/-- the new dict of facts as it grows -/
structure Grow (M2 M' : MH) (fa : List (Str × Addr)) (fc : List (Str × List (List Val))) : Prop where
  ext : ∀ b u, M2 b = some u → M' b = some u
  keys : fa.map (·.1) = fc.map (·.1)
  rows : ∀ n a, valG fa n = some a → M2 a = none ∧ M' a = some (rowsM ((valG fc n).getD []))
  inj : ∀ n n' a, valG fa n = some a → valG fa n' = some a → n = n'
theorem Grow.step {M2 M' : MH} {fa : List (Str × Addr)} {fc : List (Str × List (List Val))} (h : Grow M2 M' fa fc) {p : Addr} (hp : M' p = none) (n : Str) (rs : List (List Val)) : Grow M2 (Ab.um M' p (rowsM rs)) (putG fa n p) (putG fc n rs) := by
  have p2 : M2 p = none := by
    cases e : M2 p with
    | none => rfl
    | some u => rw [h.ext p u e] at hp; cases hp
  have ne : ∀ {m a}, valG fa m = some a → a ≠ p := fun e z => by rw [← z, (h.rows _ _ e).2] at hp; cases hp
  refine ⟨fun b u hb => by rw [um_ne fun z => by rw [z, p2] at hb; cases hb]; exact h.ext b u hb, ?_, fun m a e => ?_, fun m m' a e e' => ?_⟩
  · rw [putG_keys, putG_keys, h.keys]
  · rw [valG_put] at e ⊢
    by_cases en : n = m
    · rw [if_pos en] at e ⊢
      cases e
      exact ⟨p2, um_same⟩
    · rw [if_neg en] at e ⊢
      exact ⟨(h.rows m a e).1, by rw [um_ne (ne e)]; exact (h.rows m a e).2⟩
  · rw [valG_put] at e e'
    by_cases en : n = m
    · by_cases en' : n = m'
      · exact en.symm.trans en'
      · rw [if_pos en] at e
        rw [if_neg en'] at e'
        cases e
        exact absurd rfl (ne e')
    · by_cases en' : n = m'
      · rw [if_neg en] at e
        rw [if_pos en'] at e'
        cases e'
        exact absurd rfl (ne e)
      · rw [if_neg en] at e
        rw [if_neg en'] at e'
        exact h.inj m m' a e e'
theorem ok_tidy (T : Txt K mg a d) : FnOk P w K mg base CX0 5 a.State_tidy d.State_tidy ["self"] (conc K (A_tidy a.State)) := by
  have cl := T.cl_State
  have n1 := T.na_State_relations
  have n2 := T.na_State_facts
  have G_row_key : FnOk P w K mg base CX0 2 a.row_key d.row_key ["row"] (conc K A_row_key) := ok_row_key T
  refine ab_ok T.F_State_tidy sc_State_tidy (fun ss M Q ⟨A, c, e, _⟩ => by subst e; rfl) fun cdv Ar outer s H E hr => ?_
  have hu64 := hr.units
  refine ⟨_, (pss_cons (ps_set (i := 1) sc_State_tidy.nd rfl (Or.inl rfl) (pe_callB (r := rSortedS K) cr_sortedS (by rfl) T.n_sorted (by decide +kernel) (pa_cons (pe_op (r := rCatL K) op_catL (pe_callTy (r := rListDk) (call_listD rfl) (by rfl) T.n_list (by decide +kernel) (pa_cons (pe_fld (pv 0) rfl) pa_nil)) (pe_lock (pe_lc (own := [("name", 2)]) rfl sc_State_tidy.nd (pi_keys (pe_fld (pv 0) rfl)) (blkOk_by (own := [("name", 2)]) (N := ["self", "names", "name"]) (sc := (defScope s_State_tidy)) (by decide +kernel)) (fun _ _ _ _ _ => (pg_name (i := 2) sc_State_tidy.nd rfl (Or.inl rfl))) (fun _ _ _ _ _ => pts_one (pt_cmpR op_gt (pe_callB (r := rLenS K) call_len_seq (by rfl) T.n_len PySem.boot_len (pa_cons (pe_dget (hu1 hu64) (pe_fldK (K := K) rfl (pv 0) rfl) (pv 2) (fun _ _ => rfl)) pa_nil)) pe_int (nomark _))) (fun _ _ _ _ _ => (pv 2))))) pa_nil)))
  (pss_one (ps_fld (pv 0) (pe_dc (own := [("name", 2)]) rfl sc_State_tidy.nd (pi_list (pv 1)) (blkOk_by (own := [("name", 2)]) (N := ["self", "names", "name"]) (sc := (defScope s_State_tidy)) (by decide +kernel)) (fun _ _ _ _ _ => (pg_name (i := 2) sc_State_tidy.nd rfl (Or.inl rfl))) (fun _ _ _ _ _ => pts_nil) (fun _ _ _ _ _ => (pv 2)) (fun _ _ _ _ _ => (pe_callBK (cr_sortFK (K := K) rfl G_row_key (hr.mono (by omega)) T.b_row_key) (by rfl) T.n_sorted (by decide +kernel) (pa_cons (pe_dget2 (hu1 hu64) (pe_fldK (K := K) rfl (pv 0) rfl) (pv 2) (pe_lst pa_nil) ⟨rfl, rfl, rfl, rfl⟩) pa_nil) (pk_cons (pe_glob (v := .ref a.row_key) (by rfl) T.g_row_key rfl) pk_nil)))) rfl))), ?_⟩
  rintro ss M Q ⟨A, c, rfl, h, hc, hs, q⟩
  walk_at "k"
  show WS K _ [some (.raw (.ref A.o)), none, none] M _
  have ho := h.ho
  have hfl : A.fa.length = c.fac.length := by rw [← List.length_map (f := (·.1)), h.keys, List.length_map]
  refine ws_seq (ws_set (w_cb (wa_cons (w_op (w_cb (wa_cons (w_fldI rfl ho cl n1 (sl_r _) (wa_nil (wl_listD (dcv_ref h.hr) fun p hp => ?_)))))))))
  have hk := h.new hp
  have h1 := h.um (x := .lst ((kvR c).map fun q => kS q.1)) hk
  have hp1 : Ab.um M p (.lst ((kvR c).map fun q => kS q.1)) p = some (.lst ((c.rel.map fun q => PyData.str q.1).map .dat)) := by
    rw [um_same]
    unfold kvR
    rw [List.map_map, List.map_map]
    rfl
  have f1 : SFr M (Ab.um M p (.lst ((kvR c).map fun q => kS q.1))) A A := SFr.umN hp
  generalize Ab.um M p (.lst ((kvR c).map fun q => kS q.1)) = M1 at h1 hp1 f1
  refine w_lock h1.hf fun od v => ?_
  have hoM : ∀ o, Ab.um M1 A.f o A.o = some (.ins a.State A.dx (sfld A)) := fun o => by rw [um_ne h1.oo.2.1.symm]; exact h1.ho
  refine w_lc (by decide) (wi_keys (w_fldI rfl (hoM _) cl n2 (sl_f _) ⟨A.f, od, v, kvF A, rfl, um_same, fun i acc M' => M' = Ab.um M1 A.f (.frz od v (.dK (kvF A))) ∧ acc = (((c.fac.map (·.1)).take i).filter fun n => decide (0 < (rowsOf c n).length)).map PyData.str, ⟨rfl, by rw [List.take_zero]; rfl⟩, fun i acc M' _ ⟨e, _⟩ D o hD => ?_, ?_, ?_⟩))
  · subst e
    have : A.f ≠ D := fun z => by rw [← z, um_same] at hD; cases hD
    show Ab.um _ D o A.f = _
    rw [um_ne this, um_same]
  · rintro i acc M' D hi ⟨rfl, rfl⟩ hD
    have hi1 : i < A.fa.length := by unfold kvF at hi; rw [List.length_map] at hi; exact hi
    have hi2 : i < (c.fac.map (·.1)).length := by rw [List.length_map, ← hfl]; exact hi1
    have en : (A.fa[i]).1 = (c.fac.map (·.1))[i] := by
      have z : (A.fa.map (·.1))[i]? = (c.fac.map (·.1))[i]? := by rw [h.keys]
      rw [List.getElem?_map, List.getElem?_eq_getElem hi1, List.getElem?_eq_getElem hi2] at z
      exact Option.some.inj z
    generalize hn : (c.fac.map (·.1))[i] = n at en
    have gi : ((kvF A).map fun q => kS q.1).getD i .non = .str n := by
      rw [List.getD_eq_getElem?_getD, List.getElem?_map]
      unfold kvF
      rw [List.getElem?_map, List.getElem?_eq_getElem hi1]
      show kS (.inr A.fa[i].1) = _
      rw [en]
      rfl
    obtain ⟨ad, hv⟩ : ∃ ad, valG A.fa n = some ad := by
      have z := valG_isSome n A.fa
      have hm : n ∈ A.fa.map (·.1) := List.mem_map.mpr ⟨_, List.getElem_mem hi1, en⟩
      rw [decide_eq_true hm] at z
      cases hv : valG A.fa n with
      | none => rw [hv] at z; cases z
      | some ad => exact ⟨ad, rfl⟩
    have hrow := h1.rows n ad hv
    have nD : ∀ b u, M1 b = some u → b ≠ D := fun b u hb z => by
      have : Ab.um M1 A.f (.frz od v (.dK (kvF A))) b = none := by rw [z]; exact hD
      by_cases e : b = A.f
      · rw [e, um_same] at this; cases this
      · rw [um_ne e, hb] at this; cases this
    dsimp only
    rw [gi]
    have hoD : Ab.um (Ab.um M1 A.f (.frz od v (.dK (kvF A)))) D (.lst ((((((c.fac.map (·.1)).take i).filter fun n => decide (0 < (rowsOf c n).length)).map PyData.str)).map .dat)) A.o = some (.ins a.State A.dx (sfld A)) := by rw [um_ne (nD _ _ h1.ho)]; exact hoM _
    have hfD : Ab.um (Ab.um M1 A.f (.frz od v (.dK (kvF A)))) D (.lst ((((((c.fac.map (·.1)).take i).filter fun n => decide (0 < (rowsOf c n).length)).map PyData.str)).map .dat)) A.f = some (.frz od v (.dK (kvF A))) := by rw [um_ne (nD _ _ h1.hf)]; exact um_same
    have hrD : Ab.um (Ab.um M1 A.f (.frz od v (.dK (kvF A)))) D (.lst ((((((c.fac.map (·.1)).take i).filter fun n => decide (0 < (rowsOf c n).length)).map PyData.str)).map .dat)) ad = some (rowsM (rowsOf c n)) := by rw [um_ne (nD _ _ hrow), um_ne (h1.off hv).2.2.1]; exact hrow
    refine wt_test (w_op (w_cb (wa_cons (w_dget (w_fldI rfl hoD cl n2 (sl_f _) (w_var rfl ⟨kvF A, .inr n, .raw (.ref ad), dcv_frz hfD, rfl, ?_, wa_nil (wl_len (lsv_ref hrD) ?_)⟩))))))
    · have ev : valG (kvF A) (.inr n) = (valG A.fa n).map fun p => Sl.raw (.ref p) := valG_inr (fun p : Addr => Sl.raw (.ref p)) n A.fa
      rw [ev, hv]
      rfl
    rw [List.length_map]
    walk_at "f"
    refine ite_d (fun hpos => ?_) (fun hpos => ?_)
    · refine w_var rfl ⟨_, _, rfl, rfl, hD, ?_, rfl, ?_⟩
      · rw [List.length_map]
        have := List.length_filter_le (fun n => decide (0 < (rowsOf c n).length)) ((c.fac.map (·.1)).take i)
        rw [List.length_take] at this
        have := hc.sz.2.1
        omega
      · have hp' : 0 < (rowsOf c n).length := by omega
        rw [List.take_succ_eq_append_getElem hi2, List.filter_append, List.map_append, hn, List.filter_cons, if_pos (decide_eq_true hp')]
        rfl
    · refine ⟨_, rfl, hD, rfl, ?_⟩
      rw [List.take_succ_eq_append_getElem hi2, List.filter_append, List.map_append, hn, List.filter_cons, if_neg fun z => hpos (by have := of_decide_eq_true z; omega)]
      simp
  rintro acc M' ⟨rfl, rfl⟩
  refine ⟨um_same, ?_⟩
  rw [um_um, um_id h1.hf]
  rw [show (kvF A).length = (c.fac.map (·.1)).length by unfold kvF; rw [List.length_map, List.length_map, hfl], List.take_length]
  refine w2_cat (lsv_ref hp1) lsv_dat ?_ ?_
  · rw [List.length_map, List.length_map]
    have := List.length_filter_le (fun n => decide (0 < (rowsOf c n).length)) (c.fac.map (·.1))
    rw [List.length_map] at this
    have := hc.sz.1
    have := hc.sz.2.1
    omega
  generalize hys : c.rel.map (·.1) ++ (c.fac.map (·.1)).filter (fun n => decide (0 < (rowsOf c n).length)) = ys
  have ey : (c.rel.map fun q => PyData.str q.1) ++ ((c.fac.map (·.1)).filter fun n => decide (0 < (rowsOf c n).length)).map PyData.str = ys.map PyData.str := by rw [← hys, List.map_append, List.map_map]; rfl
  have hyl : ys.length < 64 := by
    rw [← hys, List.length_append, List.length_map]
    have := List.length_filter_le (fun n => decide (0 < (rowsOf c n).length)) (c.fac.map (·.1))
    rw [List.length_map] at this
    have := hs.1
    omega
  rw [ey]
  have el : LsV K (.dat (.list (ys.map PyData.str))) M1 (ys.map fun y => .str y) := by
    have : (ys.map PyData.str).map Sl.dat = ys.map fun y => Sl.str y := by rw [List.map_map]; rfl
    rw [← this]
    exact lsv_dat
  refine wa_nil (wl_sortedS el hyl fun p2 hp2 => ?_)
  have en : sortT ys = c.names := by rw [← hys]; rfl
  have hk2 := h1.new hp2
  have h2 := h1.um (x := .lst ((sortT ys).map fun y => .str y)) hk2
  have hp3 : Ab.um M1 p2 (.lst ((sortT ys).map fun y => .str y)) p2 = some (.lst (c.names.map fun y => .str y)) := by rw [um_same, en]
  have f2 : SFr M (Ab.um M1 p2 (.lst ((sortT ys).map fun y => .str y))) A A := f1.trans (SFr.umN hp2)
  generalize Ab.um M1 p2 (.lst ((sortT ys).map fun y => .str y)) = M2 at h2 hp3 f2
  show WS K _ [some (.raw (.ref A.o)), some (.raw (.ref p2)), none] M2 _
  refine ws_fldI rfl cl n2 ?_
  refine w_dc (wi_list (w_var rfl ⟨_, lsv_ref hp3, fun i acc M' => ∃ fa, acc = (fa.map fun p : Str × Addr => ((.inr p.1 : Key), Sl.raw (.ref p.2))) ∧ Grow M2 M' fa (mergeG [] ((c.names.take i).map fun n => (n, sortR (rowsOf c n)))), ⟨[], rfl, fun _ _ h => h, rfl, fun _ _ e => (nomatch e), fun _ _ _ e => (nomatch e)⟩, fun i acc M' _ ⟨fa, _, g⟩ D o hD => ?_, ?_, ?_⟩))
  · have := g.ext _ _ hp3
    exact lsv_ref (by rw [um_ne fun z => by rw [z, hD] at this; cases this]; exact this)
  · rintro i acc M' D hi ⟨fa, rfl, g⟩ hD
    have hi' : i < c.names.length := by rw [List.length_map] at hi; exact hi
    have gi : (c.names.map fun y => Sl.str y).getD i .non = .str c.names[i] := by rw [List.getD_eq_getElem?_getD, List.getElem?_map, List.getElem?_eq_getElem hi']; rfl
    refine ⟨fun ρ => ρ.set 2 (some (.str c.names[i])), ?_, ?_⟩
    · show LcT _ _ _ ((c.names.map fun y => Sl.str y).getD i .non) _
      rw [gi]
      exact lct_name (by decide)
    have hn : c.names.take (i + 1) = c.names.take i ++ [c.names[i]] := List.take_succ_eq_append_getElem hi'
    generalize c.names[i] = n at gi hn
    have nD : ∀ b u, M2 b = some u → b ≠ D := fun b u hb z => by rw [← z, g.ext b u hb] at hD; cases hD
    have exD : ∀ b u, M2 b = some u → Ab.um M' D (.dK (fa.map fun p : Str × Addr => ((.inr p.1 : Key), Sl.raw (.ref p.2)))) b = some u := fun b u hb => by rw [um_ne (nD b u hb)]; exact g.ext b u hb
    refine wt_yes ?_
    rw [if_pos rfl]
    refine w_var rfl ?_
    refine w_sortF (O := rowO) (kf := rkey) (T := .type "tuple") (wa_cons (w_dget2 (w_fldI rfl (exD _ _ h2.ho) cl n2 (sl_f _) ⟨⟨_, dcv_ref (exD _ _ h2.hf)⟩, w_var rfl (w_lstD (wa_nil ⟨[], rfl, by simp, kvF A, .inr n, dcv_ref (exD _ _ h2.hf), rfl, wa_nil (wa_cons (w_raw (wa_nil ⟨_, rowsOf c n, fun r => .dat (encR r), ([] : List Val), rfl, rfl, ?_, fit_rows (hc.row (n := n)).1, ?_, ?_⟩)))⟩))⟩)))
    · have ev : valG (kvF A) (.inr n) = (valG A.fa n).map fun p => Sl.raw (.ref p) := valG_inr (fun p : Addr => Sl.raw (.ref p)) n A.fa
      rw [ev]
      cases hv : valG A.fa n with
      | none =>
        rw [h2.emp hv]
        exact lsv_dat
      | some ad => exact lsv_ref (exD _ _ (h2.rows n ad hv))
    · intro r hr QA qa
      have := ((hc.row (n := n)).1 r hr).1.1
      exact ⟨r, rfl, by omega, qa⟩
    · intro p3 hp3'
      have pD : p3 ≠ D := fun z => by rw [z, um_same] at hp3'; cases hp3'
      have hpM : M' p3 = none := by rw [um_ne pD] at hp3'; exact hp3'
      refine ⟨.inr n, Ab.um M' p3 (rowsM (sortR (rowsOf c n))), rfl, um_comm pD.symm, by rw [um_ne (Ne.symm pD)]; exact hD, ?_, putG fa n p3, putG_inr (fun p : Addr => Sl.raw (.ref p)) n p3 fa, ?_⟩
      · rw [List.length_map]
        have e1 : fa.length = (fa.map (·.1)).length := (List.length_map ..).symm
        rw [e1, g.keys, List.length_map]
        have := mergeG_len ((c.names.take i).map fun n => (n, sortR (rowsOf c n))) []
        rw [List.length_map, List.length_take] at this
        have : c.names.length = ys.length := by rw [← en]; exact (List.mergeSort_perm _ _).length_eq
        simp only [List.length_nil] at *
        omega
      · rw [hn, List.map_append]
        have z := g.step hpM n (sortR (rowsOf c n))
        rw [show ([n].map fun n => (n, sortR (rowsOf c n))) = [(n, sortR (rowsOf c n))] from rfl, mergeG_snoc]
        exact z
  rintro acc M' D ⟨fa, rfl, g⟩ hD
  rw [List.length_map, List.take_length] at g
  have D2 : M2 D = none := by
    cases e : M2 D with
    | none => rfl
    | some u => rw [g.ext D u e] at hD; cases hD
  have nD : ∀ b u, M2 b = some u → b ≠ D := fun b u hb z => by rw [z, D2] at hb; cases hb
  have exD : ∀ b u, M2 b = some u → Ab.um M' D (.dK (fa.map fun p : Str × Addr => ((.inr p.1 : Key), Sl.raw (.ref p.2)))) b = some u := fun b u hb => by rw [um_ne (nD b u hb)]; exact g.ext b u hb
  refine ⟨A.dx, sfld A, exD _ _ h2.ho, by show 4 < 1000; decide, ?_⟩
  rw [sp_f]
  have hoD : D ≠ A.o := fun z => nD _ _ h2.ho z.symm
  have ex : ∀ b u, M2 b = some u → b ≠ A.o → Ab.um (Ab.um M' D (.dK (fa.map fun p : Str × Addr => ((.inr p.1 : Key), Sl.raw (.ref p.2))))) A.o (.ins a.State A.dx (sfld (A.sF D))) b = some u := fun b u hb hn => by rw [um_ne hn]; exact exD b u hb
  obtain ⟨m1, m2, m3, m4, m5, m6⟩ := h2.ne
  obtain ⟨o1, o2, o3, o4⟩ := h2.oo
  refine q _ ((A.sF D).sFa fa) ⟨um_same, ex _ _ h2.hr o1, ?_, ex _ _ h2.hu o3, ex _ _ h2.hn o4, ⟨fun z => nD _ _ h2.hr z, m2, m3, fun z => nD _ _ h2.hu z.symm, fun z => nD _ _ h2.hn z.symm, m6⟩, g.keys, fun n ad e => ?_, g.inj⟩ ⟨rfl, fun b u hb hn => ?_⟩
  · show Ab.um _ A.o _ D = _
    rw [um_ne hoD, um_same]
    rfl
  · obtain ⟨z1, z2⟩ := g.rows n ad e
    have ne1 : ad ≠ A.o := fun z => by rw [z, h2.ho] at z1; cases z1
    have ne2 : ad ≠ D := fun z => by rw [z, hD] at z2; cases z2
    rw [um_ne ne1, um_ne ne2]
    exact z2
  · have hb2 := (f2.2 b u hb hn).1
    have ne1 : b ≠ A.o := fun z => hn (.inl z)
    refine ⟨ex b u hb2 ne1, fun z => ?_⟩
    rcases z with z | z | z | z | z | ⟨n', z⟩
    · exact hn (.inl z)
    · exact hn (.inr (.inl z))
    · exact nD _ _ hb2 z
    · exact hn (.inr (.inr (.inr (.inl z))))
    · exact hn (.inr (.inr (.inr (.inr (.inl z)))))
    · have := (g.rows n' b z).1
      rw [hb2] at this
      cases this

end
end K03


set_option Elab.async false
set_option linter.all false
set_option maxRecDepth 100000
set_option  maxHeartbeats 4000000
namespace K03
open PySem PyProof.Rows L2 Ab
local macro_rules | `(tactic| walk_at "len") => `(tactic| first | decide | omega | (simp only [List.length_append, List.length_map, List.length_replicate, List.length_cons, List.length_nil, List.length_take, List.length_drop, List.length_reverse, List.length_range]; omega))
local macro_rules | `(tactic| walk_at "str") => `(tactic| first | decide +kernel | exact goodS_ok (by assumption) | assumption)
local macro_rules | `(tactic| walk_at "1") => `(tactic| (first
  | (with_reducible refine ws_set ?_)
  | (with_reducible refine ws_ret ?_)
  | (with_reducible refine ws_if ?_)
  | (with_reducible refine ws_drop ?_)
  | (with_reducible refine w_op ?_)
  | (with_reducible refine w_un ?_)
  | (with_reducible refine w_int ?_)
  | (with_reducible refine w_bl ?_)
  | (with_reducible refine w_non ?_)
  | (with_reducible refine w_str ?_)
  | (with_reducible refine w_cb ?_)
  | (with_reducible refine w_call ?_)
  | (with_reducible refine w_sl ?_)
  | (with_reducible refine w_tupD ?_)
  | (with_reducible refine w_chain ?_)
  | (with_reducible refine w_andV ?_)
  | (with_reducible refine w_orV ?_)
  | (with_reducible refine w_notV ?_)
  | (with_reducible refine wo_none ?_)
  | (with_reducible refine wo_some ?_)
  | (with_reducible refine wa_cons ?_)
  | (with_reducible refine wa_nil ?_)
  | (with_reducible refine wt_test ?_)
  | (with_reducible refine wt_B ?_)
  | (with_reducible refine wt_and ?_)
  | (with_reducible refine wt_or ?_)
  | (with_reducible refine wt_not ?_)
  | (with_reducible refine wt_yes ?_)
  | (with_reducible refine w2_i0 ?_)
  | (with_reducible refine w2_b0 ?_)
  | (with_reducible refine w1_neg ?_)
  | ((with_reducible refine w2_i ?hc ?_); (case hc => first | decide | exact ⟨by decide, by decide⟩ | exact Or.inl ⟨by decide, by decide⟩ | exact Or.inr ⟨by decide, by decide⟩ | exact ⟨by decide, by decide, by decide⟩ | omega); skip)
  | ((with_reducible refine' w_var ?hv ?_); (case hv => exact rfl); skip)
  | ((with_reducible show W2 _ (rEqD _) (Sl.dat (PyData.int _)) (Sl.dat (PyData.int _)) _ _); (refine w2_eqI ?_))
  | ((with_reducible show W2 _ (rNeD _) (Sl.dat (PyData.int _)) (Sl.dat (PyData.int _)) _ _); (refine w2_neI ?_))
  | ((with_reducible show W2 _ (rEqD _) (Sl.dat (PyData.str _)) (Sl.dat (PyData.str _)) _ _); (refine' w2_eqS ?h1 ?h2 ?_); (case h1 => walk_at "str"); (case h2 => walk_at "str"); skip)
  | ((with_reducible show W2 _ (rNeD _) (Sl.dat (PyData.str _)) (Sl.dat (PyData.str _)) _ _); (refine' w2_neS ?h1 ?h2 ?_); (case h1 => walk_at "str"); (case h2 => walk_at "str"); skip)
  | ((with_reducible show W2 _ (rEqD _) _ _ _ _); (refine w2_eq ?ha ?hb ?_); (case ha => first | exact shaped_int _ | exact shaped_bool _ | exact shaped_none); (case hb => first | exact shaped_int _ | exact shaped_bool _ | exact shaped_none); skip)
  | ((with_reducible show W2 _ (rNeD _) _ _ _ _); (refine w2_ne ?ha ?hb ?_); (case ha => first | exact shaped_int _ | exact shaped_bool _ | exact shaped_none); (case hb => first | exact shaped_int _ | exact shaped_bool _ | exact shaped_none); skip)
  | ((with_reducible show W2 _ _ _ _ _ _); (refine w2_isN ?_))
  | ((with_reducible show W2 _ rIsB _ _ _ _); (refine w2_isB ?_))
  | ((with_reducible show W2 _ rNotB _ _ _ _); (refine w2_notB ?_))
  | ((with_reducible show W2 _ _ _ _ _ _); (refine w2_notN ?_))
  | (with_reducible refine wl_lenE ?_)
  | (with_reducible refine wl_lenD ?_)
  | (with_reducible refine wl_lenTD ?_)
  | (with_reducible refine wl_listE ?_)
  | (with_reducible refine wsl_E ?_)
  | ((with_reducible refine' w2_catE ?hl ?_); (try (case hl => walk_at "len")); skip)
  | ((with_reducible refine' w2_rep1 ?h1 ?h2 ?_); (try (case h1 => first | decide | omega)); (try (case h2 => first | decide | omega)); skip)
  | ((with_reducible show WL _ _ [_] _ _); (refine' wl_len ?hl ?_); (case hl => first | exact lsv_dat | exact lsv_ref um_same | exact lsv_ref (by assumption)); skip)
  | ((with_reducible show WL _ _ [_] _ _); (refine' wl_list ?hl ?_); (case hl => first | exact .inl lsv_dat | exact .inl (lsv_ref (by assumption))); skip)
  | ((with_reducible show WSl _ (rSlL _) _ _ _ _ _); (refine' wsl_lst ?hl ?_); (case hl => first | exact lsv_dat | exact lsv_ref um_same | exact lsv_ref (by assumption)); skip)
  | ((with_reducible show WL _ _ [_] _ _); (refine wl_int ?_))
  | ((with_reducible show WL _ _ [_] _ _); (refine wl_intb ?_))
  | ((with_reducible show WL _ _ [_, _] _ _); (refine wl_min ?_))
  | ((with_reducible first | show W2 _ (rIxL _) (Sl.dat (PyData.list (List.cons _ _))) (Sl.dat (PyData.int _)) _ _ | show W2 _ (rIxL _) (Sl.dat (PyData.list (List.map PyData.int (List.cons _ _)))) (Sl.dat (PyData.int _)) _ _); (refine' w2_ixAny ?h0 ?h1 ?_); (case h0 => omega); (case h1 => first | omega | (simp only [List.length_cons, List.length_nil, List.length_map]; omega)); skip)
  | ((with_reducible show W2 _ (rIxL _) _ _ _ _); (refine' w2_ixL ?hs ?hx ?_); (case hs => first | exact lsv_dat | exact lsv_ref um_same | exact lsv_ref (by assumption)); (try (case hx => exact rfl)); skip)
  | ((with_reducible show W2 _ (rIxT _) _ _ _ _); (refine' w2_ixT ?hx ?_); (case hx => exact rfl); skip)
  | ((with_reducible show WL _ (rIsi _) [_, _] _ _); (refine' wl_isi ?hb ?_); (case hb => first | exact isi_bool _ | exact isi_int _ | exact isi_str _ | exact isi_tuple _ | exact isi_list _); skip)
  | ((with_reducible show W _ (tC (V.ty _)) _ _ _); (refine w_raw ?_))
  | ((with_reducible show W _ (tC (V.ref _)) _ _ _); (refine w_raw ?_))
  | ((with_reducible show WSl _ (rSlA _) _ _ _ _ _); (refine wsl_tup ?_))
  | ((with_reducible show WL _ (rTupS _) [Sl.dat (PyData.list _)] _ _); (refine wl_tuple lsv_dat ?_))
  | ((with_reducible show W2 _ (rCatA _) _ _ _ _); (refine' w2_catT ?hl ?_); (try (case hl => walk_at "len")); skip)
  | ((with_reducible show WL _ _ [_] _ _); (refine' wl_lenT ?hl ?_); (case hl => exact tpv_dat); skip)
  | ((with_reducible refine' w_fldI ?hv ?hM ?c ?n ?l ?_); (case hv => exact rfl); (case hM => first | assumption | exact um_same); (case c => assumption); (case n => assumption); (case l => walk_at "fl"); skip)
  | ((with_reducible refine' w_dgetI ?hv ?hM ?hx ?_); (case hv => exact rfl); (case hM => first | assumption | exact um_same); (case hx => walk_at "wg"); skip)
  | ((with_reducible refine' ws_fldI ?hv ?c ?n ?_); (case hv => exact rfl); (case c => assumption); (case n => assumption); skip)
  | (with_reducible refine ws_next ?_)
  | ((with_reducible show WS _ Ends.nx _ _ _); (refine ws_next ?_))
  | (with_reducible refine ite_t rfl ?_)
  | (with_reducible refine ite_f rfl ?_)
  | ((with_reducible refine' ite_t ?hb ?_); (case hb => decide +kernel); skip)
  | ((with_reducible refine' ite_f ?hb ?_); (case hb => decide +kernel); skip)
  | ((with_reducible show ∃ b : Bool, _ = Sl.bl b ∧ _); (with_reducible refine ⟨_, rfl, ?_⟩))
  | ((with_reducible show ∃ i : Int, _ = Sl.int i ∧ _); (with_reducible refine ⟨_, rfl, ?_⟩))
  | ((with_reducible show List.length _ ≤ 100000 ∧ _); (refine ⟨(by simp), ?_⟩))
  | ((with_reducible show ∃ ds : List PyData, datsOf _ = some ds ∧ _); (refine ⟨_, rfl, ?_⟩))))
local macro_rules | `(tactic| walk_at "e") => `(tactic| repeat (first | (with_reducible refine ws_seq ?_) | (walk_at "1")))
local macro_rules | `(tactic| walk_at "g") => `(tactic| repeat (first | (walk_at "1") | ((with_reducible refine w_lstI (wa_cons ?_)); (repeat (walk_at "1")); (with_reducible show ∃ ns : List Int, itemsI _ = some ns ∧ _); (refine ⟨_, rfl, ?_⟩)) | (with_reducible refine w_lstD ?_)))
local macro_rules | `(tactic| walk_at "f") => `(tactic| repeat (first | (with_reducible refine ws_seq ?_) | (walk_at "1") | ((with_reducible refine w_lstI (wa_cons ?_)); (repeat (walk_at "1")); (with_reducible show ∃ ns : List Int, itemsI _ = some ns ∧ _); (refine ⟨_, rfl, ?_⟩)) | (with_reducible refine w_lstD ?_)))
local macro_rules | `(tactic| walk_at "k") => `(tactic| first | dsimp only [cxOf, Cx.nox, Cx.wish] | skip)

local macro_rules | `(tactic| walk_at "fl") => `(tactic| with_reducible first | exact sl_r _ | exact sl_f _ | exact sl_u _ | exact sl_n _)

section
variable {P : Program} {w : World} {K : PySem.W.Frag} {mg : Str → Option Value} {base : Heap} {a : AD} {d : FD}
/-! all_items -/
def A_items (C : Addr) : ASp := fun ss M Q => ∃ A c, ss = [.raw (.ref (SA.o A))] ∧ SeAt C M A c ∧ CtOk c ∧ Ct.small c ∧ ∀ M' p, M p = none → M' p = some (.lst (c.items.map fun it => .dat it.enc)) → (∀ b u, M b = some u → M' b = some u) → Q (.raw (.ref p)) M'
/-- the list of the items as it grows -/
structure Exs (M N : MH) (D : Addr) (its : List Item) : Prop where
  fr : M D = none
  at_ : N D = some (.lst (its.map fun it => .dat it.enc))
  ext : ∀ b u, M b = some u → N b = some u
theorem Exs.new {M N : MH} {D : Addr} {its : List Item} (h : Exs M N D its) {p : Addr} {x : MO} (hp : N p = none) : Exs M (Ab.um N p x) D its := ⟨h.fr, by rw [um_ne fun z => by rw [← z, h.at_] at hp; cases hp]; exact h.at_, fun b u hb => by rw [um_ne fun z => by rw [← z, h.ext b u hb] at hp; cases hp]; exact h.ext b u hb⟩
theorem Exs.put {M N : MH} {D : Addr} {its : List Item} (h : Exs M N D its) (more : List Item) : Exs M (Ab.um N D (.lst ((its ++ more).map fun it => .dat it.enc))) D (its ++ more) := ⟨h.fr, um_same, fun b u hb => by rw [um_ne fun z => by rw [z, h.fr] at hb; cases hb]; exact h.ext b u hb⟩
theorem SeAt.ext {C : Addr} {M N : MH} {A : SA} {c : Ct} (h : SeAt C M A c) (e : ∀ b u, M b = some u → N b = some u) : SeAt C N A c := ⟨e _ _ h.ho, e _ _ h.hr, e _ _ h.hf, e _ _ h.hu, e _ _ h.hn, h.ne, h.keys, fun n a z => e _ _ (h.rows n a z), h.inj⟩
theorem ok_items (T : Txt K mg a d) : FnOk P w K mg base CX0 1 a.State_all_items d.State_all_items ["self"] (conc K (A_items a.State)) := by
  have cl := T.cl_State
  have n1 := T.na_State_relations
  have n2 := T.na_State_facts
  have n3 := T.na_State_rules
  have n4 := T.na_State_denials
  refine ab_ok T.F_State_all_items sc_State_all_items (fun ss M Q ⟨A, c, e, _⟩ => by subst e; rfl) fun cdv Ar outer s H E hr => ?_
  have hu64 := hr.units
  refine ⟨_, (pss_cons (ps_setLc (i := 1) (own := [("name", 2)]) rfl sc_State_all_items.nd rfl rfl (sw_true rfl rfl rfl (by decide +kernel)) (pi_list (pe_callB (r := rSortedDk) (call_sortedD rfl) (by rfl) T.n_sorted (by decide +kernel) (pa_cons (pe_fld (pv 0) rfl) pa_nil))) (blkOk_by (own := [("name", 2)]) (N := ["self", "items", "name", "row"]) (sc := (defScope s_State_all_items)) (by decide +kernel)) (fun _ _ _ _ _ => (pg_name (i := 2) sc_State_all_items.nd rfl (Or.inl rfl))) (fun _ _ _ _ _ => pts_nil) (fun _ _ _ _ _ => (pe_tup (pa_cons pe_str (pa_cons (pv 2) (pa_cons (pe_dget (hu1 hu64) (pe_fldK (K := K) rfl (pv 0) rfl) (pv 2) (fun _ _ => rfl)) pa_nil))))))
  (pss_cons (ps_for PassesOwn.never rfl (pi_list (pe_callB (r := rSortedDk) (call_sortedD rfl) (by rfl) T.n_sorted (by decide +kernel) (pa_cons (pe_fld (pv 0) rfl) pa_nil))) (pg_name (i := 2) sc_State_all_items.nd rfl (Or.inr rfl)) (pss_one (ps_expr (pe_bm PySem.F.plainAttrs_list PySem.F.slot_list_extend PySem.F.type_list_extend mt_extend (pv 1) (pa_cons (pe_lc (own := [("row", 3)]) rfl sc_State_all_items.nd (pi_list (pe_dget (hu1 hu64) (pe_fld (pv 0) rfl) (pv 2) (fun _ _ => rfl))) (blkOk_by (own := [("row", 3)]) (N := ["self", "items", "name", "row"]) (sc := (defScope s_State_all_items)) (by decide +kernel)) (fun _ _ _ _ _ => (pg_name (i := 3) sc_State_all_items.nd rfl (Or.inl rfl))) (fun _ _ _ _ _ => pts_nil) (fun _ _ _ _ _ => (pe_tup (pa_cons pe_str (pa_cons (pv 2) (pa_cons (pv 3) pa_nil)))))) pa_nil)))))
  (pss_cons (ps_expr (pe_bm PySem.F.plainAttrs_list PySem.F.slot_list_extend PySem.F.type_list_extend mt_extend (pv 1) (pa_cons (pe_lc (own := [("name", 2)]) rfl sc_State_all_items.nd (pi_list (pe_callB (r := rSortedDk) (call_sortedD rfl) (by rfl) T.n_sorted (by decide +kernel) (pa_cons (pe_fld (pv 0) rfl) pa_nil))) (blkOk_by (own := [("name", 2)]) (N := ["self", "items", "name", "row"]) (sc := (defScope s_State_all_items)) (by decide +kernel)) (fun _ _ _ _ _ => (pg_name (i := 2) sc_State_all_items.nd rfl (Or.inl rfl))) (fun _ _ _ _ _ => pts_nil) (fun _ _ _ _ _ => (pe_op (r := rCatA K) op_catA (pe_tup (pa_cons pe_str (pa_cons (pv 2) pa_nil))) (pe_dget (hu1 hu64) (pe_fldK (K := K) rfl (pv 0) rfl) (pv 2) (fun _ _ => rfl))))) pa_nil)))
  (pss_cons (ps_expr (pe_bm PySem.F.plainAttrs_list PySem.F.slot_list_extend PySem.F.type_list_extend mt_extend (pv 1) (pa_cons (pe_lc (own := [("name", 2)]) rfl sc_State_all_items.nd (pi_list (pe_callB (r := rSortedDk) (call_sortedD rfl) (by rfl) T.n_sorted (by decide +kernel) (pa_cons (pe_fld (pv 0) rfl) pa_nil))) (blkOk_by (own := [("name", 2)]) (N := ["self", "items", "name", "row"]) (sc := (defScope s_State_all_items)) (by decide +kernel)) (fun _ _ _ _ _ => (pg_name (i := 2) sc_State_all_items.nd rfl (Or.inl rfl))) (fun _ _ _ _ _ => pts_nil) (fun _ _ _ _ _ => (pe_tup (pa_cons pe_str (pa_cons (pv 2) (pa_cons (pe_dget (hu1 hu64) (pe_fldK (K := K) rfl (pv 0) rfl) (pv 2) (fun _ _ => rfl)) pa_nil)))))) pa_nil)))
  (pss_one (ps_ret (pv 1))))))), ?_⟩
  rintro ss M Q ⟨A, c, rfl, h, hc, hs, q⟩
  walk_at "k"
  show WS K _ [some (.raw (.ref A.o)), none, none, none] M _
  have hfl : A.fa.length = c.fac.length := by rw [← List.length_map (f := (·.1)), h.keys, List.length_map]
  obtain ⟨s1, s2, s3⟩ := hs
  have kR : (kvR c).map (·.1) = (c.rel.map (·.1)).map Sum.inr := by unfold kvR; rw [List.map_map, List.map_map]; rfl
  have kF : (kvF A).map (·.1) = (c.fac.map (·.1)).map Sum.inr := by rw [← h.keys]; unfold kvF; rw [List.map_map, List.map_map]; rfl
  have kU : (kvU c).map (·.1) = (c.rul.map (·.1)).map Sum.inr := by unfold kvU; rw [List.map_map, List.map_map]; rfl
  have kN : (kvN c).map (·.1) = (c.den.map (·.1)).map Sum.inr := by unfold kvN; rw [List.map_map, List.map_map]; rfl
  refine ws_seq (ws_set (w_lcP (by decide) (w_cb (wa_cons (w_fldI rfl h.ho cl n1 (sl_r _) (wa_nil (wl_sortedD (dcv_ref h.hr) kR (by rw [List.length_map]; omega) fun p hp => ?_)))))))
  have h1 : SeAt a.State (Ab.um M p (.lst ((sortT (c.rel.map (·.1))).map fun y => .str y))) A c := h.um (h.new hp)
  have hl1 : Ab.um M p (.lst ((sortT (c.rel.map (·.1))).map fun y => .str y)) p = some (.lst ((sortT (c.rel.map (·.1))).map fun y => .str y)) := um_same
  have x1 : ∀ b u, M b = some u → Ab.um M p (.lst ((sortT (c.rel.map (·.1))).map fun y => .str y)) b = some u := fun b u hb => by rw [um_ne fun z => by rw [z, hp] at hb; cases hb]; exact hb
  generalize Ab.um M p (.lst ((sortT (c.rel.map (·.1))).map fun y => .str y)) = M1 at h1 hl1 x1
  have sl1 := sortT_len (c.rel.map (·.1))
  rw [List.length_map] at sl1
  refine ⟨_, fun i => (Item.relation ((sortT (c.rel.map (·.1))).getD i "") ((valG c.rel ((sortT (c.rel.map (·.1))).getD i "")).getD 0)).enc, lsv_ref hl1, by rw [List.length_map]; omega, fun i D o hi hD => ?_, fun D hD => ?_⟩
  · have hi' : i < (sortT (c.rel.map (·.1))).length := by rw [List.length_map] at hi; exact hi
    have gi : ((sortT (c.rel.map (·.1))).map fun y => Sl.str y).getD i .non = .str ((sortT (c.rel.map (·.1))).getD i "") := by rw [List.getD_eq_getElem?_getD, List.getElem?_map, List.getD_eq_getElem?_getD, List.getElem?_eq_getElem hi']; rfl
    have hm : (sortT (c.rel.map (·.1))).getD i "" ∈ c.rel.map (·.1) := by rw [← sortT_mem, List.getD_eq_getElem?_getD, List.getElem?_eq_getElem hi']; exact List.getElem_mem hi'
    dsimp only
    rw [gi]
    generalize (sortT (c.rel.map (·.1))).getD i "" = n at hm
    obtain ⟨x, hx⟩ := valG_of hm
    have h2 := h1.um (x := o) (h1.new hD)
    refine w_tupD (wa_cons (w_str (wa_cons (w_var rfl (wa_cons (w_dget (w_fldI rfl h2.ho cl n1 (sl_r _) (w_var rfl ⟨kvR c, .inr n, .int x, dcv_ref h2.hr, rfl, ?_, wa_nil ⟨_, rfl, by simp, ?_, rfl⟩⟩))))))))
    · have := valG_inr (fun i : Int => Sl.int i) n c.rel
      rw [hx] at this
      exact this
    · rw [hx]
      rfl
  have E1 : Exs M (Ab.um M1 D (.lst ((List.range ((sortT (c.rel.map (·.1))).map fun y => Sl.str y).length).map fun i => .dat (Item.relation ((sortT (c.rel.map (·.1))).getD i "") ((valG c.rel ((sortT (c.rel.map (·.1))).getD i "")).getD 0)).enc))) D ((sortT (c.rel.map (·.1))).map fun n => .relation n ((valG c.rel n).getD 0)) := by
    refine ⟨?_, ?_, fun b u hb => ?_⟩
    · cases e : M D with
      | none => rfl
      | some u => rw [x1 D u e] at hD; cases hD
    · rw [um_same, List.length_map, range_map (fun n => Sl.dat (Item.relation n ((valG c.rel n).getD 0)).enc) "", List.map_map]
      rfl
    · rw [um_ne fun z => by rw [← z, x1 b u hb] at hD; cases hD]
      exact x1 b u hb
  generalize hI1 : (sortT (c.rel.map (·.1))).map (fun n => Item.relation n ((valG c.rel n).getD 0)) = I1 at E1
  have l1 : I1.length < 64 := by rw [← hI1, List.length_map]; omega
  generalize Ab.um M1 D _ = N1 at E1
  show WS K _ [some (.raw (.ref A.o)), some (.raw (.ref D)), none, none] N1 _
  have h2 := h.ext E1.ext
  refine ws_seq (ws_for (wi_list (w_cb (wa_cons (w_fldI rfl h2.ho cl n2 (sl_f _) (wa_nil (wl_sortedD (dcv_ref h2.hf) kF (by rw [List.length_map]; omega) fun p2 hp2 => ?_)))))))
  have E2 := E1.new (x := .lst ((sortT (c.fac.map (·.1))).map fun y => .str y)) hp2
  have hl2 : Ab.um N1 p2 (.lst ((sortT (c.fac.map (·.1))).map fun y => .str y)) p2 = some (.lst ((sortT (c.fac.map (·.1))).map fun y => .str y)) := um_same
  have pD : p2 ≠ D := fun z => by rw [z, E1.at_] at hp2; cases hp2
  generalize Ab.um N1 p2 (.lst ((sortT (c.fac.map (·.1))).map fun y => .str y)) = N2 at E2 hl2
  have sl2 := sortT_len (c.fac.map (·.1))
  rw [List.length_map] at sl2
  refine ⟨_, lsv_ref hl2, fun i ρ' M' => (∃ y2, ρ' = [some (.raw (.ref A.o)), some (.raw (.ref D)), y2, none]) ∧ M' p2 = some (.lst ((sortT (c.fac.map (·.1))).map fun y => .str y)) ∧ Exs M M' D (I1 ++ ((sortT (c.fac.map (·.1))).take i).flatMap (facI c)), ⟨⟨none, rfl⟩, hl2, by rw [List.take_zero, List.flatMap_nil, List.append_nil]; exact E2⟩, fun i ρ' M' _ ⟨_, e, _⟩ => lsv_ref e, ?_, ?_⟩
  · rintro i ρ' M' hi ⟨⟨y2, rfl⟩, hl, Ex⟩
    have hi' : i < (sortT (c.fac.map (·.1))).length := by rw [List.length_map] at hi; exact hi
    have gi : ((sortT (c.fac.map (·.1))).map fun y => Sl.str y).getD i .non = .str (sortT (c.fac.map (·.1)))[i] := by rw [List.getD_eq_getElem?_getD, List.getElem?_map, List.getElem?_eq_getElem hi']; rfl
    have hm : (sortT (c.fac.map (·.1)))[i] ∈ c.fac.map (·.1) := sortT_mem.mp (List.getElem_mem hi')
    have hn : (sortT (c.fac.map (·.1))).take (i + 1) = (sortT (c.fac.map (·.1))).take i ++ [(sortT (c.fac.map (·.1)))[i]] := List.take_succ_eq_append_getElem hi'
    dsimp only
    rw [gi]
    generalize (sortT (c.fac.map (·.1)))[i] = n at hm hn
    obtain ⟨ad, hv⟩ := valG_of (kvs := A.fa) (n := n) (by rw [h.keys]; exact hm)
    have h3 := h.ext Ex.ext
    have hrow := h3.rows n ad hv
    have ev : valG (kvF A) (.inr n) = some (.raw (.ref ad)) := by
      have := valG_inr (fun p : Addr => Sl.raw (.ref p)) n A.fa
      rw [hv] at this
      exact this
    refine wg_name (ws_drop (w_bm (w_var rfl ⟨ty_lst (lsv_ref Ex.at_), wa_cons (w_lcP (by decide) (w_dget (w_fldI rfl h3.ho cl n2 (sl_f _) (w_var rfl ⟨kvF A, .inr n, _, dcv_ref h3.hf, rfl, ev, _, fun i => (Item.fact n ((rowsOf c n).getD i [])).enc, lsv_ref hrow, by rw [List.length_map]; have := (hc.row (n := n)).2; omega, fun j D2 o hj hD2 => ?_, fun D2 hD2 => ?_⟩))))⟩)))
    · have hj' : j < (rowsOf c n).length := by rw [List.length_map] at hj; exact hj
      have gj : ((rowsOf c n).map fun r => Sl.dat (encR r)).getD j .non = .dat (encR ((rowsOf c n).getD j [])) := by rw [List.getD_eq_getElem?_getD, List.getElem?_map, List.getD_eq_getElem?_getD, List.getElem?_eq_getElem hj']; rfl
      rw [gj]
      refine w_tupD (wa_cons (w_str (wa_cons (w_var rfl (wa_cons (w_var rfl (wa_nil ⟨_, rfl, by simp, rfl, rfl⟩)))))))
    · have e2 : (List.range ((rowsOf c n).map fun r => Sl.dat (encR r)).length).map (fun i => Sl.dat (Item.fact n ((rowsOf c n).getD i [])).enc) = (facI c n).map fun it => .dat it.enc := by
        rw [List.length_map, range_map (fun r => Sl.dat (Item.fact n r).enc) []]
        unfold facI
        rw [List.map_map]
        rfl
      rw [e2]
      have Ex2 := Ex.new (x := .lst ((facI c n).map fun it => .dat it.enc)) hD2
      have hne : D2 ≠ D := fun z => by rw [z, Ex.at_] at hD2; cases hD2
      refine wa_nil (wm_extend Ex2.at_ um_same ?_ ?_)
      · rw [List.length_map, List.length_map, List.length_append]
        have := flat_len hc ((sortT (c.fac.map (·.1))).take i)
        rw [List.length_take] at this
        have := (hc.row (n := n)).2
        unfold facI at *
        rw [List.length_map]
        omega
      · rw [← List.map_append]
        have Ex3 := Ex2.put (facI c n)
        refine ⟨⟨_, rfl⟩, ?_, ?_⟩
        · rw [um_ne pD, um_ne fun z => by rw [← z, hl] at hD2; cases hD2]
          exact hl
        · rw [hn, List.flatMap_append, ← List.append_assoc]
          have : [n].flatMap (facI c) = facI c n := by simp
          rw [this]
          exact Ex3
  rintro ρ' N3 ⟨⟨y2, rfl⟩, _, E3⟩
  rw [List.length_map, List.take_length] at E3
  have l2 := flat_len hc (sortT (c.fac.map (·.1)))
  generalize hI2 : I1 ++ (sortT (c.fac.map (·.1))).flatMap (facI c) = I2 at E3
  have l2' : I2.length ≤ 64 + 1000 * 64 := by rw [← hI2, List.length_append]; omega
  have h3 := h.ext E3.ext
  have sl3 := sortT_len (c.rul.map (·.1))
  rw [List.length_map] at sl3
  refine ws_seq (ws_drop (w_bm (w_var rfl ⟨ty_lst (lsv_ref E3.at_), wa_cons (w_lcP (by decide) (w_cb (wa_cons (w_fldI rfl h3.ho cl n3 (sl_u _) (wa_nil (wl_sortedD (dcv_ref h3.hu) kU (by rw [List.length_map]; omega) fun p3 hp3 => ?_))))))⟩)))
  have E4 := E3.new (x := .lst ((sortT (c.rul.map (·.1))).map fun y => .str y)) hp3
  have hl4 : Ab.um N3 p3 (.lst ((sortT (c.rul.map (·.1))).map fun y => .str y)) p3 = some (.lst ((sortT (c.rul.map (·.1))).map fun y => .str y)) := um_same
  generalize Ab.um N3 p3 (.lst ((sortT (c.rul.map (·.1))).map fun y => .str y)) = N4 at E4 hl4
  have h4 := h.ext E4.ext
  refine ⟨_, fun i => (rulI c ((sortT (c.rul.map (·.1))).getD i "")).enc, lsv_ref hl4, by rw [List.length_map]; omega, fun i D2 o hi hD => ?_, fun D2 hD => ?_⟩
  · have hi' : i < (sortT (c.rul.map (·.1))).length := by rw [List.length_map] at hi; exact hi
    have gi : ((sortT (c.rul.map (·.1))).map fun y => Sl.str y).getD i .non = .str ((sortT (c.rul.map (·.1))).getD i "") := by rw [List.getD_eq_getElem?_getD, List.getElem?_map, List.getD_eq_getElem?_getD, List.getElem?_eq_getElem hi']; rfl
    have hm : (sortT (c.rul.map (·.1))).getD i "" ∈ c.rul.map (·.1) := by rw [← sortT_mem, List.getD_eq_getElem?_getD, List.getElem?_eq_getElem hi']; exact List.getElem_mem hi'
    dsimp only
    rw [gi]
    generalize (sortT (c.rul.map (·.1))).getD i "" = n at hm
    obtain ⟨x, hx⟩ := valG_of hm
    have h5 := h4.um (x := o) (h4.new hD)
    refine w_op (w_tupD (wa_cons (w_str (wa_cons (w_var rfl (wa_nil ⟨_, rfl, by simp, w_dget (w_fldI rfl h5.ho cl n3 (sl_u _) (w_var rfl ⟨kvU c, .inr n, .dat x.enc, dcv_ref h5.hu, rfl, ?_, w2_catT (by simp) ⟨?_, rfl⟩⟩))⟩))))))
    · have := valG_inr (fun r : Rul => Sl.dat r.enc) n c.rul
      rw [hx] at this
      exact this
    · unfold rulI
      rw [hx]
      rfl
  have e5 : (List.range ((sortT (c.rul.map (·.1))).map fun y => Sl.str y).length).map (fun i => Sl.dat (rulI c ((sortT (c.rul.map (·.1))).getD i "")).enc) = ((sortT (c.rul.map (·.1))).map (rulI c)).map fun it => .dat it.enc := by
    rw [List.length_map, range_map (fun r => Sl.dat (rulI c r).enc) "", List.map_map]
    rfl
  rw [e5]
  have E5 := E4.new (x := .lst (((sortT (c.rul.map (·.1))).map (rulI c)).map fun it => .dat it.enc)) hD
  refine wa_nil (wm_extend E5.at_ um_same (by rw [List.length_map, List.length_map, List.length_map]; omega) ?_)
  rw [← List.map_append]
  have E6 := E5.put ((sortT (c.rul.map (·.1))).map (rulI c))
  generalize Ab.um (Ab.um N4 D2 (.lst (((sortT (c.rul.map (·.1))).map (rulI c)).map fun it => .dat it.enc))) D (.lst ((I2 ++ (sortT (c.rul.map (·.1))).map (rulI c)).map fun it => .dat it.enc)) = N6 at E6
  generalize hI3 : I2 ++ (sortT (c.rul.map (·.1))).map (rulI c) = I3 at E6
  have l3 : I3.length ≤ 64 + 1000 * 64 + 64 := by rw [← hI3, List.length_append, List.length_map]; omega
  have h6 := h.ext E6.ext
  have sl4 := sortT_len (c.den.map (·.1))
  rw [List.length_map] at sl4
  refine ws_seq (ws_drop (w_bm (w_var rfl ⟨ty_lst (lsv_ref E6.at_), wa_cons (w_lcP (by decide) (w_cb (wa_cons (w_fldI rfl h6.ho cl n4 (sl_n _) (wa_nil (wl_sortedD (dcv_ref h6.hn) kN (by rw [List.length_map]; omega) fun p4 hp4 => ?_))))))⟩)))
  have E7 := E6.new (x := .lst ((sortT (c.den.map (·.1))).map fun y => .str y)) hp4
  have hl7 : Ab.um N6 p4 (.lst ((sortT (c.den.map (·.1))).map fun y => .str y)) p4 = some (.lst ((sortT (c.den.map (·.1))).map fun y => .str y)) := um_same
  generalize Ab.um N6 p4 (.lst ((sortT (c.den.map (·.1))).map fun y => .str y)) = N7 at E7 hl7
  have h7 := h.ext E7.ext
  refine ⟨_, fun i => (Item.denial ((sortT (c.den.map (·.1))).getD i "") ((valG c.den ((sortT (c.den.map (·.1))).getD i "")).getD [])).enc, lsv_ref hl7, by rw [List.length_map]; omega, fun i D2 o hi hD => ?_, fun D2 hD => ?_⟩
  · have hi' : i < (sortT (c.den.map (·.1))).length := by rw [List.length_map] at hi; exact hi
    have gi : ((sortT (c.den.map (·.1))).map fun y => Sl.str y).getD i .non = .str ((sortT (c.den.map (·.1))).getD i "") := by rw [List.getD_eq_getElem?_getD, List.getElem?_map, List.getD_eq_getElem?_getD, List.getElem?_eq_getElem hi']; rfl
    have hm : (sortT (c.den.map (·.1))).getD i "" ∈ c.den.map (·.1) := by rw [← sortT_mem, List.getD_eq_getElem?_getD, List.getElem?_eq_getElem hi']; exact List.getElem_mem hi'
    dsimp only
    rw [gi]
    generalize (sortT (c.den.map (·.1))).getD i "" = n at hm
    obtain ⟨x, hx⟩ := valG_of hm
    have h8 := h7.um (x := o) (h7.new hD)
    refine w_tupD (wa_cons (w_str (wa_cons (w_var rfl (wa_cons (w_dget (w_fldI rfl h8.ho cl n4 (sl_n _) (w_var rfl ⟨kvN c, .inr n, .dat (encB x), dcv_ref h8.hn, rfl, ?_, wa_nil ⟨_, rfl, by simp, ?_, rfl⟩⟩))))))))
    · have := valG_inr (fun r : List Lit => Sl.dat (encB r)) n c.den
      rw [hx] at this
      exact this
    · rw [hx]
      rfl
  have e8 : (List.range ((sortT (c.den.map (·.1))).map fun y => Sl.str y).length).map (fun i => Sl.dat (Item.denial ((sortT (c.den.map (·.1))).getD i "") ((valG c.den ((sortT (c.den.map (·.1))).getD i "")).getD [])).enc) = ((sortT (c.den.map (·.1))).map fun n => Item.denial n ((valG c.den n).getD [])).map fun it => .dat it.enc := by
    rw [List.length_map, range_map (fun n => Sl.dat (Item.denial n ((valG c.den n).getD [])).enc) "", List.map_map]
    rfl
  rw [e8]
  have E8 := E7.new (x := .lst (((sortT (c.den.map (·.1))).map fun n => Item.denial n ((valG c.den n).getD [])).map fun it => .dat it.enc)) hD
  refine wa_nil (wm_extend E8.at_ um_same (by rw [List.length_map, List.length_map, List.length_map]; omega) ?_)
  rw [← List.map_append]
  have E9 := E8.put ((sortT (c.den.map (·.1))).map fun n => Item.denial n ((valG c.den n).getD []))
  refine ws_ret (w_var rfl (q _ D E9.fr ?_ E9.ext))
  have : I3 ++ (sortT (c.den.map (·.1))).map (fun n => Item.denial n ((valG c.den n).getD [])) = c.items := by
    rw [← hI3, ← hI2, ← hI1]
    rfl
  rw [← this]
  exact E9.at_

end
end K03


set_option Elab.async false
set_option linter.all false
set_option maxRecDepth 100000
set_option  maxHeartbeats 4000000
namespace K03
open PySem PyProof.Rows L2 Ab
local macro_rules | `(tactic| walk_at "len") => `(tactic| first | decide | omega | (simp only [List.length_append, List.length_map, List.length_replicate, List.length_cons, List.length_nil, List.length_take, List.length_drop, List.length_reverse, List.length_range]; omega))
local macro_rules | `(tactic| walk_at "str") => `(tactic| first | decide +kernel | exact goodS_ok (by assumption) | assumption)
local macro_rules | `(tactic| walk_at "1") => `(tactic| (first
  | (with_reducible refine ws_set ?_)
  | (with_reducible refine ws_ret ?_)
  | (with_reducible refine ws_if ?_)
  | (with_reducible refine ws_drop ?_)
  | (with_reducible refine w_op ?_)
  | (with_reducible refine w_un ?_)
  | (with_reducible refine w_int ?_)
  | (with_reducible refine w_bl ?_)
  | (with_reducible refine w_non ?_)
  | (with_reducible refine w_str ?_)
  | (with_reducible refine w_cb ?_)
  | (with_reducible refine w_call ?_)
  | (with_reducible refine w_sl ?_)
  | (with_reducible refine w_tupD ?_)
  | (with_reducible refine w_chain ?_)
  | (with_reducible refine w_andV ?_)
  | (with_reducible refine w_orV ?_)
  | (with_reducible refine w_notV ?_)
  | (with_reducible refine wo_none ?_)
  | (with_reducible refine wo_some ?_)
  | (with_reducible refine wa_cons ?_)
  | (with_reducible refine wa_nil ?_)
  | (with_reducible refine wt_test ?_)
  | (with_reducible refine wt_B ?_)
  | (with_reducible refine wt_and ?_)
  | (with_reducible refine wt_or ?_)
  | (with_reducible refine wt_not ?_)
  | (with_reducible refine wt_yes ?_)
  | (with_reducible refine w2_i0 ?_)
  | (with_reducible refine w2_b0 ?_)
  | (with_reducible refine w1_neg ?_)
  | ((with_reducible refine w2_i ?hc ?_); (case hc => first | decide | exact ⟨by decide, by decide⟩ | exact Or.inl ⟨by decide, by decide⟩ | exact Or.inr ⟨by decide, by decide⟩ | exact ⟨by decide, by decide, by decide⟩ | omega); skip)
  | ((with_reducible refine' w_var ?hv ?_); (case hv => exact rfl); skip)
  | ((with_reducible show W2 _ (rEqD _) (Sl.dat (PyData.int _)) (Sl.dat (PyData.int _)) _ _); (refine w2_eqI ?_))
  | ((with_reducible show W2 _ (rNeD _) (Sl.dat (PyData.int _)) (Sl.dat (PyData.int _)) _ _); (refine w2_neI ?_))
  | ((with_reducible show W2 _ (rEqD _) (Sl.dat (PyData.str _)) (Sl.dat (PyData.str _)) _ _); (refine' w2_eqS ?h1 ?h2 ?_); (case h1 => walk_at "str"); (case h2 => walk_at "str"); skip)
  | ((with_reducible show W2 _ (rNeD _) (Sl.dat (PyData.str _)) (Sl.dat (PyData.str _)) _ _); (refine' w2_neS ?h1 ?h2 ?_); (case h1 => walk_at "str"); (case h2 => walk_at "str"); skip)
  | ((with_reducible show W2 _ (rEqD _) _ _ _ _); (refine w2_eq ?ha ?hb ?_); (case ha => first | exact shaped_int _ | exact shaped_bool _ | exact shaped_none); (case hb => first | exact shaped_int _ | exact shaped_bool _ | exact shaped_none); skip)
  | ((with_reducible show W2 _ (rNeD _) _ _ _ _); (refine w2_ne ?ha ?hb ?_); (case ha => first | exact shaped_int _ | exact shaped_bool _ | exact shaped_none); (case hb => first | exact shaped_int _ | exact shaped_bool _ | exact shaped_none); skip)
  | ((with_reducible show W2 _ _ _ _ _ _); (refine w2_isN ?_))
  | ((with_reducible show W2 _ rIsB _ _ _ _); (refine w2_isB ?_))
  | ((with_reducible show W2 _ rNotB _ _ _ _); (refine w2_notB ?_))
  | ((with_reducible show W2 _ _ _ _ _ _); (refine w2_notN ?_))
  | (with_reducible refine wl_lenE ?_)
  | (with_reducible refine wl_lenD ?_)
  | (with_reducible refine wl_lenTD ?_)
  | (with_reducible refine wl_listE ?_)
  | (with_reducible refine wsl_E ?_)
  | ((with_reducible refine' w2_catE ?hl ?_); (try (case hl => walk_at "len")); skip)
  | ((with_reducible refine' w2_rep1 ?h1 ?h2 ?_); (try (case h1 => first | decide | omega)); (try (case h2 => first | decide | omega)); skip)
  | ((with_reducible show WL _ _ [_] _ _); (refine' wl_len ?hl ?_); (case hl => first | exact lsv_dat | exact lsv_ref um_same | exact lsv_ref (by assumption)); skip)
  | ((with_reducible show WL _ _ [_] _ _); (refine' wl_list ?hl ?_); (case hl => first | exact .inl lsv_dat | exact .inl (lsv_ref (by assumption))); skip)
  | ((with_reducible show WSl _ (rSlL _) _ _ _ _ _); (refine' wsl_lst ?hl ?_); (case hl => first | exact lsv_dat | exact lsv_ref um_same | exact lsv_ref (by assumption)); skip)
  | ((with_reducible show WL _ _ [_] _ _); (refine wl_int ?_))
  | ((with_reducible show WL _ _ [_] _ _); (refine wl_intb ?_))
  | ((with_reducible show WL _ _ [_, _] _ _); (refine wl_min ?_))
  | ((with_reducible first | show W2 _ (rIxL _) (Sl.dat (PyData.list (List.cons _ _))) (Sl.dat (PyData.int _)) _ _ | show W2 _ (rIxL _) (Sl.dat (PyData.list (List.map PyData.int (List.cons _ _)))) (Sl.dat (PyData.int _)) _ _); (refine' w2_ixAny ?h0 ?h1 ?_); (case h0 => omega); (case h1 => first | omega | (simp only [List.length_cons, List.length_nil, List.length_map]; omega)); skip)
  | ((with_reducible show W2 _ (rIxL _) _ _ _ _); (refine' w2_ixL ?hs ?hx ?_); (case hs => first | exact lsv_dat | exact lsv_ref um_same | exact lsv_ref (by assumption)); (try (case hx => exact rfl)); skip)
  | ((with_reducible show W2 _ (rIxT _) _ _ _ _); (refine' w2_ixT ?hx ?_); (case hx => exact rfl); skip)
  | ((with_reducible show WL _ (rIsi _) [_, _] _ _); (refine' wl_isi ?hb ?_); (case hb => first | exact isi_bool _ | exact isi_int _ | exact isi_str _ | exact isi_tuple _ | exact isi_list _); skip)
  | ((with_reducible show W _ (tC (V.ty _)) _ _ _); (refine w_raw ?_))
  | ((with_reducible show W _ (tC (V.ref _)) _ _ _); (refine w_raw ?_))
  | ((with_reducible show WSl _ (rSlA _) _ _ _ _ _); (refine wsl_tup ?_))
  | ((with_reducible show WL _ (rTupS _) [Sl.dat (PyData.list _)] _ _); (refine wl_tuple lsv_dat ?_))
  | ((with_reducible show W2 _ (rCatA _) _ _ _ _); (refine' w2_catT ?hl ?_); (try (case hl => walk_at "len")); skip)
  | ((with_reducible show WL _ _ [_] _ _); (refine' wl_lenT ?hl ?_); (case hl => exact tpv_dat); skip)
  | ((with_reducible refine' w_fldI ?hv ?hM ?c ?n ?l ?_); (case hv => exact rfl); (case hM => first | assumption | exact um_same); (case c => assumption); (case n => assumption); (case l => walk_at "fl"); skip)
  | ((with_reducible refine' w_dgetI ?hv ?hM ?hx ?_); (case hv => exact rfl); (case hM => first | assumption | exact um_same); (case hx => walk_at "wg"); skip)
  | ((with_reducible refine' ws_fldI ?hv ?c ?n ?_); (case hv => exact rfl); (case c => assumption); (case n => assumption); skip)
  | (with_reducible refine ws_next ?_)
  | ((with_reducible show WS _ Ends.nx _ _ _); (refine ws_next ?_))
  | (with_reducible refine ite_t rfl ?_)
  | (with_reducible refine ite_f rfl ?_)
  | ((with_reducible refine' ite_t ?hb ?_); (case hb => decide +kernel); skip)
  | ((with_reducible refine' ite_f ?hb ?_); (case hb => decide +kernel); skip)
  | ((with_reducible show ∃ b : Bool, _ = Sl.bl b ∧ _); (with_reducible refine ⟨_, rfl, ?_⟩))
  | ((with_reducible show ∃ i : Int, _ = Sl.int i ∧ _); (with_reducible refine ⟨_, rfl, ?_⟩))
  | ((with_reducible show List.length _ ≤ 100000 ∧ _); (refine ⟨(by simp), ?_⟩))
  | ((with_reducible show ∃ ds : List PyData, datsOf _ = some ds ∧ _); (refine ⟨_, rfl, ?_⟩))))
local macro_rules | `(tactic| walk_at "e") => `(tactic| repeat (first | (with_reducible refine ws_seq ?_) | (walk_at "1")))
local macro_rules | `(tactic| walk_at "g") => `(tactic| repeat (first | (walk_at "1") | ((with_reducible refine w_lstI (wa_cons ?_)); (repeat (walk_at "1")); (with_reducible show ∃ ns : List Int, itemsI _ = some ns ∧ _); (refine ⟨_, rfl, ?_⟩)) | (with_reducible refine w_lstD ?_)))
local macro_rules | `(tactic| walk_at "f") => `(tactic| repeat (first | (with_reducible refine ws_seq ?_) | (walk_at "1") | ((with_reducible refine w_lstI (wa_cons ?_)); (repeat (walk_at "1")); (with_reducible show ∃ ns : List Int, itemsI _ = some ns ∧ _); (refine ⟨_, rfl, ?_⟩)) | (with_reducible refine w_lstD ?_)))
local macro_rules | `(tactic| walk_at "k") => `(tactic| first | dsimp only [cxOf, Cx.nox, Cx.wish] | skip)

local macro_rules | `(tactic| walk_at "fl") => `(tactic| with_reducible first | exact sl_r _ | exact sl_f _ | exact sl_u _ | exact sl_n _)

section
variable {P : Program} {w : World} {K : PySem.W.Frag} {mg : Str → Option Value} {base : Heap} {a : AD} {d : FD}
/-! __init__, copy -/
theorem si_0 (x : Sl) : putS "relations" x [] = ([("relations", x)] : List (Str × Sl)) := by kernel_rfl
theorem si_1 (x0 x : Sl) : putS "facts" x [("relations", x0)] = ([("relations", x0), ("facts", x)] : List (Str × Sl)) := by kernel_rfl
theorem si_2 (x0 x1 x : Sl) : putS "rules" x [("relations", x0), ("facts", x1)] = ([("relations", x0), ("facts", x1), ("rules", x)] : List (Str × Sl)) := by kernel_rfl
theorem si_3 (x0 x1 x2 x : Sl) : putS "denials" x [("relations", x0), ("facts", x1), ("rules", x2)] = ([("relations", x0), ("facts", x1), ("rules", x2), ("denials", x)] : List (Str × Sl)) := by kernel_rfl
/-- what a new state is told of -/
def NewAt (C : Addr) (M M' : MH) (o : Addr) (c : Ct) : Prop := ∃ A : SA, A.o = o ∧ SeAt C M' A c ∧ ∀ b u, M b = some u → b ≠ o → M' b = some u ∧ ¬ A.own b
def A_initL (C : Addr) (K : PySem.W.Frag) : ASp := fun ss M Q => ∃ o dx s its, ss = [.raw (.ref o), s] ∧ M o = some (.ins C dx []) ∧ LsV K s M (List.map (fun it => Sl.dat (Item.enc it)) its) ∧ InitOk its ∧ ∀ M', NewAt C M M' o (puts its).tidy → Q .non M'
def A_initT (C e0 : Addr) : ASp := fun ss M Q => ∃ o dx, ss = [.raw (.ref o), .raw (.ref e0)] ∧ M o = some (.ins C dx []) ∧ ∀ M', NewAt C M M' o (puts []).tidy → Q .non M'
theorem lsv_fr {F : PySem.W.Frag} {s : Sl} {xs : List Sl} {M M' : MH} (h : LsV F s M xs) (e : ∀ b ys, M b = some (.lst ys) → M' b = some (.lst ys)) : LsV F s M' xs := by
  rcases h with h | ⟨a, z, h⟩ | h
  · exact .inl h
  · exact .inr (.inl ⟨a, z, e _ _ h⟩)
  · exact .inr (.inr h)
section
variable {C : Addr} {M N : MH} {o dx : Addr}
/-- the four dicts are laid -/
theorem ws_four (T : Txt K mg a d) {ρ : Rho} {tb : TS} {P0 : AE} (hv : ρ[0]? = some (some (.raw (.ref o)))) (hM : M o = some (.ins a.State dx []))
    (q : ∀ N, NewAt a.State M N o ct0 → (∃ A : SA, A.o = o ∧ SeAt a.State N A ct0) → WS (KX.pure K) tb ρ N P0) :
    WS (KX.pure K) (tSeq (sFld K (tVar 0) tDNewK "relations") (tSeq (sFld K (tVar 0) tDNewK "facts") (tSeq (sFld K (tVar 0) tDNewK "rules") (tSeq (sFld K (tVar 0) tDNewK "denials") tb)))) ρ M P0 := by
  have cl := T.cl_State
  have n1 := T.na_State_relations
  have n2 := T.na_State_facts
  have n3 := T.na_State_rules
  have n4 := T.na_State_denials
  obtain ⟨nx, rt, bk, ct⟩ := P0
  refine ws_seq (ws_fldI hv cl n1 (w_dnew fun p1 h1 => ?_))
  have o1 : p1 ≠ o := fun z => by rw [z, hM] at h1; cases h1
  refine ⟨dx, [], by rw [um_ne o1.symm]; exact hM, by decide, ?_⟩
  rw [si_0]
  refine ws_seq (ws_fldI hv cl n2 (w_dnew fun p2 h2 => ?_))
  have o2 : p2 ≠ o := fun z => by rw [z, um_same] at h2; cases h2
  have h2' : Ab.um M p1 (.dK []) p2 = none := by rw [um_ne o2] at h2; exact h2
  have n21 : p2 ≠ p1 := fun z => by rw [z, um_same] at h2'; cases h2'
  refine ⟨dx, _, by rw [um_ne o2.symm]; exact um_same, by simp, ?_⟩
  rw [si_1]
  refine ws_seq (ws_fldI hv cl n3 (w_dnew fun p3 h3 => ?_))
  have o3 : p3 ≠ o := fun z => by rw [z, um_same] at h3; cases h3
  rw [um_ne o3] at h3
  have n32 : p3 ≠ p2 := fun z => by rw [z, um_same] at h3; cases h3
  rw [um_ne n32, um_ne o3] at h3
  have n31 : p3 ≠ p1 := fun z => by rw [z, um_same] at h3; cases h3
  refine ⟨dx, _, by rw [um_ne o3.symm]; exact um_same, by simp, ?_⟩
  rw [si_2]
  refine ws_seq (ws_fldI hv cl n4 (w_dnew fun p4 h4 => ?_))
  have o4 : p4 ≠ o := fun z => by rw [z, um_same] at h4; cases h4
  rw [um_ne o4] at h4
  have n43 : p4 ≠ p3 := fun z => by rw [z, um_same] at h4; cases h4
  rw [um_ne n43, um_ne o4] at h4
  have n42 : p4 ≠ p2 := fun z => by rw [z, um_same] at h4; cases h4
  rw [um_ne n42, um_ne o4] at h4
  have n41 : p4 ≠ p1 := fun z => by rw [z, um_same] at h4; cases h4
  refine ⟨dx, _, by rw [um_ne o4.symm]; exact um_same, by simp, ?_⟩
  rw [si_3]
  rw [um_ne n21, ] at h2'
  rw [um_ne n31] at h3
  rw [um_ne n41] at h4
  generalize hN : Ab.um (Ab.um (Ab.um (Ab.um (Ab.um (Ab.um (Ab.um (Ab.um M p1 (.dK [])) o (.ins a.State dx [("relations", .raw (.ref p1))])) p2 (.dK [])) o (.ins a.State dx [("relations", .raw (.ref p1)), ("facts", .raw (.ref p2))])) p3 (.dK [])) o (.ins a.State dx [("relations", .raw (.ref p1)), ("facts", .raw (.ref p2)), ("rules", .raw (.ref p3))])) p4 (.dK [])) o (.ins a.State dx [("relations", .raw (.ref p1)), ("facts", .raw (.ref p2)), ("rules", .raw (.ref p3)), ("denials", .raw (.ref p4))]) = N
  have hs : SeAt a.State N ⟨o, dx, p1, p2, p3, p4, []⟩ ct0 := by
    rw [← hN]
    refine ⟨um_same, ?_, ?_, ?_, ?_, ⟨n21.symm, n31.symm, n41.symm, n32.symm, n42.symm, n43.symm⟩, rfl, fun _ _ e => (nomatch e), fun _ _ _ e => (nomatch e)⟩
    · show Ab.um _ o _ p1 = _
      rw [um_ne o1, um_ne n41.symm, um_ne o1, um_ne n31.symm, um_ne o1, um_ne n21.symm, um_ne o1, um_same]
      rfl
    · show Ab.um _ o _ p2 = _
      rw [um_ne o2, um_ne n42.symm, um_ne o2, um_ne n32.symm, um_ne o2, um_same]
      rfl
    · show Ab.um _ o _ p3 = _
      rw [um_ne o3, um_ne n43.symm, um_ne o3, um_same]
      rfl
    · show Ab.um _ o _ p4 = _
      rw [um_ne o4, um_same]
      rfl
  have hf : NewAt a.State M N o ct0 := by
    refine ⟨_, rfl, hs, fun b u hb hn => ?_⟩
    have b1 : b ≠ p1 := fun z => by rw [z, h1] at hb; cases hb
    have b2 : b ≠ p2 := fun z => by rw [z, h2'] at hb; cases hb
    have b3 : b ≠ p3 := fun z => by rw [z, h3] at hb; cases hb
    have b4 : b ≠ p4 := fun z => by rw [z, h4] at hb; cases hb
    refine ⟨by rw [← hN, um_ne hn, um_ne b4, um_ne hn, um_ne b3, um_ne hn, um_ne b2, um_ne hn, um_ne b1]; exact hb, fun z => ?_⟩
    rcases z with z | z | z | z | z | ⟨n, z⟩
    · exact hn z
    · exact b1 z
    · exact b2 z
    · exact b3 z
    · exact b4 z
    · cases z
  exact q N hf ⟨_, rfl, hs⟩
end
theorem ok_initL (T : Txt K mg a d) : FnOk P w K mg base CX0 6 a.State___init__ d.State___init__ ["self", "items"] (conc K (A_initL a.State K)) := by
  have cl := T.cl_State
  have G_State_put := ok_put (P := P) (w := w) (base := base) T
  have G_State_tidy := ok_tidy (P := P) (w := w) (base := base) T
  refine ab_okD T.F_State___init__ sc_State___init__ (fun ss M Q ⟨o, dx, s, its, e, _⟩ => by subst e; rfl) fun cdv Ar outer s H E hr => ?_
  have hu64 := hr.units
  refine ⟨_, (pss_cons (ps_fld (pv 0) pe_dnewK rfl)
  (pss_cons (ps_fld (pv 0) pe_dnewK rfl)
  (pss_cons (ps_fld (pv 0) pe_dnewK rfl)
  (pss_cons (ps_fld (pv 0) pe_dnewK rfl)
  (pss_cons (ps_for PassesOwn.never rfl (pi_list (pv 1)) (pg_name (i := 2) sc_State___init__.nd rfl (Or.inl rfl)) (pss_one (ps_expr (pe_meth (pv 0) T.cl_State T.m_State_put G_State_put (hr.mono (by omega)) T.b_State_put .nil pass0 (pa_cons (pv 2) pa_nil)))))
  (pss_one (ps_expr (pe_meth0 (pv 0) T.cl_State T.m_State_tidy G_State_tidy (hr.mono (by omega)) T.b_State_tidy .nil pass0)))))))), ?_⟩
  rintro ss M Q ⟨o, dx, s, its, rfl, hM, hl, ⟨hit, hio⟩, q⟩
  walk_at "k"
  show WS K _ [some (.raw (.ref o)), some s, none] M _
  refine ws_four T rfl hM fun N hN _ => ?_
  obtain ⟨A0, eo0, h0, f0⟩ := hN
  have nl : ∀ b ys, M b = some (.lst ys) → b ≠ o := fun b ys hb z => by rw [z, hM] at hb; cases hb
  refine ws_seq (ws_for (wi_list (w_var rfl ⟨_, lsv_fr hl fun b ys hb => (f0 b _ hb (nl b ys hb)).1, fun i ρ' M' => (∃ y, ρ' = [some (.raw (.ref o)), some s, y]) ∧ NewAt a.State M M' o (puts (its.take i)), ⟨⟨none, rfl⟩, A0, eo0, by rw [List.take_zero]; exact h0, f0⟩, fun i ρ' M' _ ⟨_, A1, _, _, f1⟩ => lsv_fr hl fun b ys hb => (f1 b _ hb (nl b ys hb)).1, ?_, ?_⟩)))
  · rintro i ρ' M' hi ⟨⟨y, rfl⟩, A1, eo, h1, f1⟩
    have hi' : i < its.length := by rw [List.length_map] at hi; exact hi
    have gi : (its.map fun it => Sl.dat it.enc).getD i .non = .dat its[i].enc := by rw [List.getD_eq_getElem?_getD, List.getElem?_map, List.getElem?_eq_getElem hi']; rfl
    have hn : its.take (i + 1) = its.take i ++ [its[i]] := List.take_succ_eq_append_getElem hi'
    have ok := hit _ (List.getElem_mem hi')
    dsimp only
    rw [gi]
    generalize its[i] = it at hn ok
    refine wg_name (ws_drop (w_meth (w_var rfl ⟨A1.o, A1.dx, sfld A1, by rw [← eo], h1.ho, by kernel_rfl, wa_cons (w_var rfl (wa_nil ⟨A1, _, it, rfl, h1, (hio i (by omega)).1, ok, fun M2 A2 h2 f2 => ?_⟩))⟩)))
    refine ⟨⟨_, rfl⟩, A2, f2.1.trans eo, by rw [hn, puts_snoc]; exact h2, fun b u hb hn => ?_⟩
    obtain ⟨z1, z2⟩ := f1 b u hb hn
    exact f2.2 b u z1 z2
  · rintro ρ' M' ⟨⟨y, rfl⟩, A1, eo, h1, f1⟩
    rw [List.length_map] at h1
    obtain ⟨c1, c2⟩ := hio its.length (Nat.le_refl _)
    rw [List.take_length] at h1 c1 c2
    refine ws_drop (w_meth (w_var rfl ⟨A1.o, A1.dx, sfld A1, by rw [← eo], h1.ho, by kernel_rfl, wa_nil ⟨A1, _, rfl, h1, c1, c2, fun M2 A2 h2 f2 => ?_⟩⟩))
    refine q _ ⟨A2, f2.1.trans eo, h2, fun b u hb hn => ?_⟩
    obtain ⟨z1, z2⟩ := f1 b u hb hn
    exact f2.2 b u z1 z2

end
end K03


set_option Elab.async false
set_option linter.all false
set_option maxRecDepth 100000
set_option  maxHeartbeats 4000000
namespace K03
open PySem PyProof.Rows L2 Ab
local macro_rules | `(tactic| walk_at "len") => `(tactic| first | decide | omega | (simp only [List.length_append, List.length_map, List.length_replicate, List.length_cons, List.length_nil, List.length_take, List.length_drop, List.length_reverse, List.length_range]; omega))
local macro_rules | `(tactic| walk_at "str") => `(tactic| first | decide +kernel | exact goodS_ok (by assumption) | assumption)
local macro_rules | `(tactic| walk_at "1") => `(tactic| (first
  | (with_reducible refine ws_set ?_)
  | (with_reducible refine ws_ret ?_)
  | (with_reducible refine ws_if ?_)
  | (with_reducible refine ws_drop ?_)
  | (with_reducible refine w_op ?_)
  | (with_reducible refine w_un ?_)
  | (with_reducible refine w_int ?_)
  | (with_reducible refine w_bl ?_)
  | (with_reducible refine w_non ?_)
  | (with_reducible refine w_str ?_)
  | (with_reducible refine w_cb ?_)
  | (with_reducible refine w_call ?_)
  | (with_reducible refine w_sl ?_)
  | (with_reducible refine w_tupD ?_)
  | (with_reducible refine w_chain ?_)
  | (with_reducible refine w_andV ?_)
  | (with_reducible refine w_orV ?_)
  | (with_reducible refine w_notV ?_)
  | (with_reducible refine wo_none ?_)
  | (with_reducible refine wo_some ?_)
  | (with_reducible refine wa_cons ?_)
  | (with_reducible refine wa_nil ?_)
  | (with_reducible refine wt_test ?_)
  | (with_reducible refine wt_B ?_)
  | (with_reducible refine wt_and ?_)
  | (with_reducible refine wt_or ?_)
  | (with_reducible refine wt_not ?_)
  | (with_reducible refine wt_yes ?_)
  | (with_reducible refine w2_i0 ?_)
  | (with_reducible refine w2_b0 ?_)
  | (with_reducible refine w1_neg ?_)
  | ((with_reducible refine w2_i ?hc ?_); (case hc => first | decide | exact ⟨by decide, by decide⟩ | exact Or.inl ⟨by decide, by decide⟩ | exact Or.inr ⟨by decide, by decide⟩ | exact ⟨by decide, by decide, by decide⟩ | omega); skip)
  | ((with_reducible refine' w_var ?hv ?_); (case hv => exact rfl); skip)
  | ((with_reducible show W2 _ (rEqD _) (Sl.dat (PyData.int _)) (Sl.dat (PyData.int _)) _ _); (refine w2_eqI ?_))
  | ((with_reducible show W2 _ (rNeD _) (Sl.dat (PyData.int _)) (Sl.dat (PyData.int _)) _ _); (refine w2_neI ?_))
  | ((with_reducible show W2 _ (rEqD _) (Sl.dat (PyData.str _)) (Sl.dat (PyData.str _)) _ _); (refine' w2_eqS ?h1 ?h2 ?_); (case h1 => walk_at "str"); (case h2 => walk_at "str"); skip)
  | ((with_reducible show W2 _ (rNeD _) (Sl.dat (PyData.str _)) (Sl.dat (PyData.str _)) _ _); (refine' w2_neS ?h1 ?h2 ?_); (case h1 => walk_at "str"); (case h2 => walk_at "str"); skip)
  | ((with_reducible show W2 _ (rEqD _) _ _ _ _); (refine w2_eq ?ha ?hb ?_); (case ha => first | exact shaped_int _ | exact shaped_bool _ | exact shaped_none); (case hb => first | exact shaped_int _ | exact shaped_bool _ | exact shaped_none); skip)
  | ((with_reducible show W2 _ (rNeD _) _ _ _ _); (refine w2_ne ?ha ?hb ?_); (case ha => first | exact shaped_int _ | exact shaped_bool _ | exact shaped_none); (case hb => first | exact shaped_int _ | exact shaped_bool _ | exact shaped_none); skip)
  | ((with_reducible show W2 _ _ _ _ _ _); (refine w2_isN ?_))
  | ((with_reducible show W2 _ rIsB _ _ _ _); (refine w2_isB ?_))
  | ((with_reducible show W2 _ rNotB _ _ _ _); (refine w2_notB ?_))
  | ((with_reducible show W2 _ _ _ _ _ _); (refine w2_notN ?_))
  | (with_reducible refine wl_lenE ?_)
  | (with_reducible refine wl_lenD ?_)
  | (with_reducible refine wl_lenTD ?_)
  | (with_reducible refine wl_listE ?_)
  | (with_reducible refine wsl_E ?_)
  | ((with_reducible refine' w2_catE ?hl ?_); (try (case hl => walk_at "len")); skip)
  | ((with_reducible refine' w2_rep1 ?h1 ?h2 ?_); (try (case h1 => first | decide | omega)); (try (case h2 => first | decide | omega)); skip)
  | ((with_reducible show WL _ _ [_] _ _); (refine' wl_len ?hl ?_); (case hl => first | exact lsv_dat | exact lsv_ref um_same | exact lsv_ref (by assumption)); skip)
  | ((with_reducible show WL _ _ [_] _ _); (refine' wl_list ?hl ?_); (case hl => first | exact .inl lsv_dat | exact .inl (lsv_ref (by assumption))); skip)
  | ((with_reducible show WSl _ (rSlL _) _ _ _ _ _); (refine' wsl_lst ?hl ?_); (case hl => first | exact lsv_dat | exact lsv_ref um_same | exact lsv_ref (by assumption)); skip)
  | ((with_reducible show WL _ _ [_] _ _); (refine wl_int ?_))
  | ((with_reducible show WL _ _ [_] _ _); (refine wl_intb ?_))
  | ((with_reducible show WL _ _ [_, _] _ _); (refine wl_min ?_))
  | ((with_reducible first | show W2 _ (rIxL _) (Sl.dat (PyData.list (List.cons _ _))) (Sl.dat (PyData.int _)) _ _ | show W2 _ (rIxL _) (Sl.dat (PyData.list (List.map PyData.int (List.cons _ _)))) (Sl.dat (PyData.int _)) _ _); (refine' w2_ixAny ?h0 ?h1 ?_); (case h0 => omega); (case h1 => first | omega | (simp only [List.length_cons, List.length_nil, List.length_map]; omega)); skip)
  | ((with_reducible show W2 _ (rIxL _) _ _ _ _); (refine' w2_ixL ?hs ?hx ?_); (case hs => first | exact lsv_dat | exact lsv_ref um_same | exact lsv_ref (by assumption)); (try (case hx => exact rfl)); skip)
  | ((with_reducible show W2 _ (rIxT _) _ _ _ _); (refine' w2_ixT ?hx ?_); (case hx => exact rfl); skip)
  | ((with_reducible show WL _ (rIsi _) [_, _] _ _); (refine' wl_isi ?hb ?_); (case hb => first | exact isi_bool _ | exact isi_int _ | exact isi_str _ | exact isi_tuple _ | exact isi_list _); skip)
  | ((with_reducible show W _ (tC (V.ty _)) _ _ _); (refine w_raw ?_))
  | ((with_reducible show W _ (tC (V.ref _)) _ _ _); (refine w_raw ?_))
  | ((with_reducible show WSl _ (rSlA _) _ _ _ _ _); (refine wsl_tup ?_))
  | ((with_reducible show WL _ (rTupS _) [Sl.dat (PyData.list _)] _ _); (refine wl_tuple lsv_dat ?_))
  | ((with_reducible show W2 _ (rCatA _) _ _ _ _); (refine' w2_catT ?hl ?_); (try (case hl => walk_at "len")); skip)
  | ((with_reducible show WL _ _ [_] _ _); (refine' wl_lenT ?hl ?_); (case hl => exact tpv_dat); skip)
  | ((with_reducible refine' w_fldI ?hv ?hM ?c ?n ?l ?_); (case hv => exact rfl); (case hM => first | assumption | exact um_same); (case c => assumption); (case n => assumption); (case l => walk_at "fl"); skip)
  | ((with_reducible refine' w_dgetI ?hv ?hM ?hx ?_); (case hv => exact rfl); (case hM => first | assumption | exact um_same); (case hx => walk_at "wg"); skip)
  | ((with_reducible refine' ws_fldI ?hv ?c ?n ?_); (case hv => exact rfl); (case c => assumption); (case n => assumption); skip)
  | (with_reducible refine ws_next ?_)
  | ((with_reducible show WS _ Ends.nx _ _ _); (refine ws_next ?_))
  | (with_reducible refine ite_t rfl ?_)
  | (with_reducible refine ite_f rfl ?_)
  | ((with_reducible refine' ite_t ?hb ?_); (case hb => decide +kernel); skip)
  | ((with_reducible refine' ite_f ?hb ?_); (case hb => decide +kernel); skip)
  | ((with_reducible show ∃ b : Bool, _ = Sl.bl b ∧ _); (with_reducible refine ⟨_, rfl, ?_⟩))
  | ((with_reducible show ∃ i : Int, _ = Sl.int i ∧ _); (with_reducible refine ⟨_, rfl, ?_⟩))
  | ((with_reducible show List.length _ ≤ 100000 ∧ _); (refine ⟨(by simp), ?_⟩))
  | ((with_reducible show ∃ ds : List PyData, datsOf _ = some ds ∧ _); (refine ⟨_, rfl, ?_⟩))))
local macro_rules | `(tactic| walk_at "e") => `(tactic| repeat (first | (with_reducible refine ws_seq ?_) | (walk_at "1")))
local macro_rules | `(tactic| walk_at "g") => `(tactic| repeat (first | (walk_at "1") | ((with_reducible refine w_lstI (wa_cons ?_)); (repeat (walk_at "1")); (with_reducible show ∃ ns : List Int, itemsI _ = some ns ∧ _); (refine ⟨_, rfl, ?_⟩)) | (with_reducible refine w_lstD ?_)))
local macro_rules | `(tactic| walk_at "f") => `(tactic| repeat (first | (with_reducible refine ws_seq ?_) | (walk_at "1") | ((with_reducible refine w_lstI (wa_cons ?_)); (repeat (walk_at "1")); (with_reducible show ∃ ns : List Int, itemsI _ = some ns ∧ _); (refine ⟨_, rfl, ?_⟩)) | (with_reducible refine w_lstD ?_)))
local macro_rules | `(tactic| walk_at "k") => `(tactic| first | dsimp only [cxOf, Cx.nox, Cx.wish] | skip)

local macro_rules | `(tactic| walk_at "fl") => `(tactic| with_reducible first | exact sl_r _ | exact sl_f _ | exact sl_u _ | exact sl_n _)

section
variable {P : Program} {w : World} {K : PySem.W.Frag} {mg : Str → Option Value} {base : Heap} {a : AD} {d : FD}
theorem ok_initT (T : Txt K mg a d) : FnOk P w K mg base CX0 6 a.State___init__ d.State___init__ ["self", "items"] (conc K (A_initT a.State a.e0_State___init__)) := by
  have cl := T.cl_State
  have G_State_put := ok_put (P := P) (w := w) (base := base) T
  have G_State_tidy := ok_tidy (P := P) (w := w) (base := base) T
  refine ab_okD T.F_State___init__ sc_State___init__ (fun ss M Q ⟨o, dx, e, _⟩ => by subst e; rfl) fun cdv Ar outer s H E hr => ?_
  have hu64 := hr.units
  refine ⟨_, (pss_cons (ps_fld (pv 0) pe_dnewK rfl)
  (pss_cons (ps_fld (pv 0) pe_dnewK rfl)
  (pss_cons (ps_fld (pv 0) pe_dnewK rfl)
  (pss_cons (ps_fld (pv 0) pe_dnewK rfl)
  (pss_cons (ps_for PassesOwn.never rfl (pi_tup (pv 1)) (pg_name (i := 2) sc_State___init__.nd rfl (Or.inl rfl)) (pss_one (ps_expr (pe_meth (pv 0) T.cl_State T.m_State_put G_State_put (hr.mono (by omega)) T.b_State_put .nil pass0 (pa_cons (pv 2) pa_nil)))))
  (pss_one (ps_expr (pe_meth0 (pv 0) T.cl_State T.m_State_tidy G_State_tidy (hr.mono (by omega)) T.b_State_tidy .nil pass0)))))))), ?_⟩
  rintro ss M Q ⟨o, dx, rfl, hM, q⟩
  walk_at "k"
  show WS K _ [some (.raw (.ref o)), some (.raw (.ref a.e0_State___init__)), none] M _
  refine ws_four T rfl hM fun N hN _ => ?_
  obtain ⟨A1, eo, h1, f1⟩ := hN
  refine ws_seq (ws_for (wi_tup0 T.e0_State___init__ (w_var rfl ⟨rfl, fun i ρ' M' => ρ' = [some (.raw (.ref o)), some (.raw (.ref a.e0_State___init__)), none] ∧ M' = N, ⟨rfl, rfl⟩, fun _ _ _ _ _ => trivial, fun i _ _ hi => absurd hi (Nat.not_lt_zero _), ?_⟩)))
  rintro ρ' M' ⟨rfl, rfl⟩
  refine ws_drop (w_meth (w_var rfl ⟨A1.o, A1.dx, sfld A1, by rw [← eo], h1.ho, by kernel_rfl, wa_nil ⟨A1, _, rfl, h1, ok0.1, ok0.2, fun M2 A2 h2 f2 => ?_⟩⟩))
  refine q _ ⟨A2, f2.1.trans eo, h2, fun b u hb hn => ?_⟩
  obtain ⟨z1, z2⟩ := f1 b u hb hn
  exact f2.2 b u z1 z2
abbrev A_init (C e0 : Addr) (K : PySem.W.Frag) : ASp := orA (A_initL C K) (A_initT C e0)
theorem ok_init (T : Txt K mg a d) : FnOk P w K mg base CX0 6 a.State___init__ d.State___init__ ["self", "items"] (conc K (A_init a.State a.e0_State___init__ K)) := fn_or (ok_initL T) (ok_initT T)
def A_copy (C : Addr) : ASp := fun ss M Q => ∃ A c, ss = [.raw (.ref (SA.o A))] ∧ SeAt C M A c ∧ CtOk c ∧ Ct.small c ∧ InitOk c.items ∧ ∀ M' A', SeAt C M' A' (puts c.items).tidy → (∀ b u, M b = some u → M' b = some u ∧ ¬ A'.own b) → Q (.raw (.ref A'.o)) M'
theorem ok_copy (T : Txt K mg a d) : FnOk P w K mg base CX0 8 a.State_copy d.State_copy ["self"] (conc K (A_copy a.State)) := by
  have cl := T.cl_State
  have G_State_all_items := ok_items (P := P) (w := w) (base := base) T
  have G_State___init__ := ok_init (P := P) (w := w) (base := base) T
  refine ab_ok T.F_State_copy sc_State_copy (fun ss M Q ⟨A, c, e, _⟩ => by subst e; rfl) fun cdv Ar outer s H E hr => ⟨_, (pss_one (ps_ret (pe_make T.mk_State G_State___init__ (hr.mono (by omega)) (by rfl) T.g_State T.b_State___init__ .nil pass0 (pa_cons (pe_meth0 (pv 0) T.cl_State T.m_State_all_items G_State_all_items (hr.mono (by omega)) T.b_State_all_items .nil pass0) pa_nil)))), ?_⟩
  rintro ss M Q ⟨A, c, rfl, h, hc, hs, hi, q⟩
  walk_at "k"
  show WS K _ [some (.raw (.ref A.o))] M _
  refine ws_ret (w_make (wa_cons (w_meth (w_var rfl ⟨A.o, A.dx, sfld A, rfl, h.ho, by kernel_rfl, wa_nil ⟨A, c, rfl, h, hc, hs, fun M1 p hp hl ext => wa_nil fun x dx hx => ?_⟩⟩))))
  have px : p ≠ x := fun z => by rw [← z, hl] at hx; cases hx
  refine .inl ⟨x, dx, _, c.items, rfl, um_same, lsv_ref (by rw [um_ne px]; exact hl), hi, fun M' ⟨A', eo, h', f'⟩ => ⟨rfl, ?_⟩⟩
  rw [← eo]
  refine q M' A' h' fun b u hb => ?_
  have bx : b ≠ x := fun z => by rw [← z, ext b u hb] at hx; cases hx
  exact f' b u (by rw [um_ne bx]; exact ext b u hb) bx

end
end K03


set_option Elab.async false
set_option linter.all false
set_option maxRecDepth 100000
set_option  maxHeartbeats 4000000
namespace K03
open PySem PyProof.Rows L2 Ab
local macro_rules | `(tactic| walk_at "len") => `(tactic| first | decide | omega | (simp only [List.length_append, List.length_map, List.length_replicate, List.length_cons, List.length_nil, List.length_take, List.length_drop, List.length_reverse, List.length_range]; omega))
local macro_rules | `(tactic| walk_at "str") => `(tactic| first | decide +kernel | exact goodS_ok (by assumption) | assumption)
local macro_rules | `(tactic| walk_at "1") => `(tactic| (first
  | (with_reducible refine ws_set ?_)
  | (with_reducible refine ws_ret ?_)
  | (with_reducible refine ws_if ?_)
  | (with_reducible refine ws_drop ?_)
  | (with_reducible refine w_op ?_)
  | (with_reducible refine w_un ?_)
  | (with_reducible refine w_int ?_)
  | (with_reducible refine w_bl ?_)
  | (with_reducible refine w_non ?_)
  | (with_reducible refine w_str ?_)
  | (with_reducible refine w_cb ?_)
  | (with_reducible refine w_call ?_)
  | (with_reducible refine w_sl ?_)
  | (with_reducible refine w_tupD ?_)
  | (with_reducible refine w_chain ?_)
  | (with_reducible refine w_andV ?_)
  | (with_reducible refine w_orV ?_)
  | (with_reducible refine w_notV ?_)
  | (with_reducible refine wo_none ?_)
  | (with_reducible refine wo_some ?_)
  | (with_reducible refine wa_cons ?_)
  | (with_reducible refine wa_nil ?_)
  | (with_reducible refine wt_test ?_)
  | (with_reducible refine wt_B ?_)
  | (with_reducible refine wt_and ?_)
  | (with_reducible refine wt_or ?_)
  | (with_reducible refine wt_not ?_)
  | (with_reducible refine wt_yes ?_)
  | (with_reducible refine w2_i0 ?_)
  | (with_reducible refine w2_b0 ?_)
  | (with_reducible refine w1_neg ?_)
  | ((with_reducible refine w2_i ?hc ?_); (case hc => first | decide | exact ⟨by decide, by decide⟩ | exact Or.inl ⟨by decide, by decide⟩ | exact Or.inr ⟨by decide, by decide⟩ | exact ⟨by decide, by decide, by decide⟩ | omega); skip)
  | ((with_reducible refine' w_var ?hv ?_); (case hv => exact rfl); skip)
  | ((with_reducible show W2 _ (rEqD _) (Sl.dat (PyData.int _)) (Sl.dat (PyData.int _)) _ _); (refine w2_eqI ?_))
  | ((with_reducible show W2 _ (rNeD _) (Sl.dat (PyData.int _)) (Sl.dat (PyData.int _)) _ _); (refine w2_neI ?_))
  | ((with_reducible show W2 _ (rEqD _) (Sl.dat (PyData.str _)) (Sl.dat (PyData.str _)) _ _); (refine' w2_eqS ?h1 ?h2 ?_); (case h1 => walk_at "str"); (case h2 => walk_at "str"); skip)
  | ((with_reducible show W2 _ (rNeD _) (Sl.dat (PyData.str _)) (Sl.dat (PyData.str _)) _ _); (refine' w2_neS ?h1 ?h2 ?_); (case h1 => walk_at "str"); (case h2 => walk_at "str"); skip)
  | ((with_reducible show W2 _ (rEqD _) _ _ _ _); (refine w2_eq ?ha ?hb ?_); (case ha => first | exact shaped_int _ | exact shaped_bool _ | exact shaped_none); (case hb => first | exact shaped_int _ | exact shaped_bool _ | exact shaped_none); skip)
  | ((with_reducible show W2 _ (rNeD _) _ _ _ _); (refine w2_ne ?ha ?hb ?_); (case ha => first | exact shaped_int _ | exact shaped_bool _ | exact shaped_none); (case hb => first | exact shaped_int _ | exact shaped_bool _ | exact shaped_none); skip)
  | ((with_reducible show W2 _ _ _ _ _ _); (refine w2_isN ?_))
  | ((with_reducible show W2 _ rIsB _ _ _ _); (refine w2_isB ?_))
  | ((with_reducible show W2 _ rNotB _ _ _ _); (refine w2_notB ?_))
  | ((with_reducible show W2 _ _ _ _ _ _); (refine w2_notN ?_))
  | (with_reducible refine wl_lenE ?_)
  | (with_reducible refine wl_lenD ?_)
  | (with_reducible refine wl_lenTD ?_)
  | (with_reducible refine wl_listE ?_)
  | (with_reducible refine wsl_E ?_)
  | ((with_reducible refine' w2_catE ?hl ?_); (try (case hl => walk_at "len")); skip)
  | ((with_reducible refine' w2_rep1 ?h1 ?h2 ?_); (try (case h1 => first | decide | omega)); (try (case h2 => first | decide | omega)); skip)
  | ((with_reducible show WL _ _ [_] _ _); (refine' wl_len ?hl ?_); (case hl => first | exact lsv_dat | exact lsv_ref um_same | exact lsv_ref (by assumption)); skip)
  | ((with_reducible show WL _ _ [_] _ _); (refine' wl_list ?hl ?_); (case hl => first | exact .inl lsv_dat | exact .inl (lsv_ref (by assumption))); skip)
  | ((with_reducible show WSl _ (rSlL _) _ _ _ _ _); (refine' wsl_lst ?hl ?_); (case hl => first | exact lsv_dat | exact lsv_ref um_same | exact lsv_ref (by assumption)); skip)
  | ((with_reducible show WL _ _ [_] _ _); (refine wl_int ?_))
  | ((with_reducible show WL _ _ [_] _ _); (refine wl_intb ?_))
  | ((with_reducible show WL _ _ [_, _] _ _); (refine wl_min ?_))
  | ((with_reducible first | show W2 _ (rIxL _) (Sl.dat (PyData.list (List.cons _ _))) (Sl.dat (PyData.int _)) _ _ | show W2 _ (rIxL _) (Sl.dat (PyData.list (List.map PyData.int (List.cons _ _)))) (Sl.dat (PyData.int _)) _ _); (refine' w2_ixAny ?h0 ?h1 ?_); (case h0 => omega); (case h1 => first | omega | (simp only [List.length_cons, List.length_nil, List.length_map]; omega)); skip)
  | ((with_reducible show W2 _ (rIxL _) _ _ _ _); (refine' w2_ixL ?hs ?hx ?_); (case hs => first | exact lsv_dat | exact lsv_ref um_same | exact lsv_ref (by assumption)); (try (case hx => exact rfl)); skip)
  | ((with_reducible show W2 _ (rIxT _) _ _ _ _); (refine' w2_ixT ?hx ?_); (case hx => exact rfl); skip)
  | ((with_reducible show WL _ (rIsi _) [_, _] _ _); (refine' wl_isi ?hb ?_); (case hb => first | exact isi_bool _ | exact isi_int _ | exact isi_str _ | exact isi_tuple _ | exact isi_list _); skip)
  | ((with_reducible show W _ (tC (V.ty _)) _ _ _); (refine w_raw ?_))
  | ((with_reducible show W _ (tC (V.ref _)) _ _ _); (refine w_raw ?_))
  | ((with_reducible show WSl _ (rSlA _) _ _ _ _ _); (refine wsl_tup ?_))
  | ((with_reducible show WL _ (rTupS _) [Sl.dat (PyData.list _)] _ _); (refine wl_tuple lsv_dat ?_))
  | ((with_reducible show W2 _ (rCatA _) _ _ _ _); (refine' w2_catT ?hl ?_); (try (case hl => walk_at "len")); skip)
  | ((with_reducible show WL _ _ [_] _ _); (refine' wl_lenT ?hl ?_); (case hl => exact tpv_dat); skip)
  | ((with_reducible refine' w_fldI ?hv ?hM ?c ?n ?l ?_); (case hv => exact rfl); (case hM => first | assumption | exact um_same); (case c => assumption); (case n => assumption); (case l => walk_at "fl"); skip)
  | ((with_reducible refine' w_dgetI ?hv ?hM ?hx ?_); (case hv => exact rfl); (case hM => first | assumption | exact um_same); (case hx => walk_at "wg"); skip)
  | ((with_reducible refine' ws_fldI ?hv ?c ?n ?_); (case hv => exact rfl); (case c => assumption); (case n => assumption); skip)
  | (with_reducible refine ws_next ?_)
  | ((with_reducible show WS _ Ends.nx _ _ _); (refine ws_next ?_))
  | (with_reducible refine ite_t rfl ?_)
  | (with_reducible refine ite_f rfl ?_)
  | ((with_reducible refine' ite_t ?hb ?_); (case hb => decide +kernel); skip)
  | ((with_reducible refine' ite_f ?hb ?_); (case hb => decide +kernel); skip)
  | ((with_reducible show ∃ b : Bool, _ = Sl.bl b ∧ _); (with_reducible refine ⟨_, rfl, ?_⟩))
  | ((with_reducible show ∃ i : Int, _ = Sl.int i ∧ _); (with_reducible refine ⟨_, rfl, ?_⟩))
  | ((with_reducible show List.length _ ≤ 100000 ∧ _); (refine ⟨(by simp), ?_⟩))
  | ((with_reducible show ∃ ds : List PyData, datsOf _ = some ds ∧ _); (refine ⟨_, rfl, ?_⟩))))
local macro_rules | `(tactic| walk_at "e") => `(tactic| repeat (first | (with_reducible refine ws_seq ?_) | (walk_at "1")))
local macro_rules | `(tactic| walk_at "g") => `(tactic| repeat (first | (walk_at "1") | ((with_reducible refine w_lstI (wa_cons ?_)); (repeat (walk_at "1")); (with_reducible show ∃ ns : List Int, itemsI _ = some ns ∧ _); (refine ⟨_, rfl, ?_⟩)) | (with_reducible refine w_lstD ?_)))
local macro_rules | `(tactic| walk_at "f") => `(tactic| repeat (first | (with_reducible refine ws_seq ?_) | (walk_at "1") | ((with_reducible refine w_lstI (wa_cons ?_)); (repeat (walk_at "1")); (with_reducible show ∃ ns : List Int, itemsI _ = some ns ∧ _); (refine ⟨_, rfl, ?_⟩)) | (with_reducible refine w_lstD ?_)))
local macro_rules | `(tactic| walk_at "k") => `(tactic| first | dsimp only [cxOf, Cx.nox, Cx.wish] | skip)

local macro_rules | `(tactic| walk_at "fl") => `(tactic| with_reducible first | exact sl_r _ | exact sl_f _ | exact sl_u _ | exact sl_n _)

section
variable {P : Program} {w : World} {K : PySem.W.Frag} {mg : Str → Option Value} {base : Heap} {a : AD} {d : FD}
/-- a list that changes and its equal -/
def A_sameM (n : Nat) : ASp := fun ss M Q => ∃ p xs, ss = [.raw (.ref p), .dat (.list xs)] ∧ M p = some (.lst (xs.map .dat)) ∧ okD (n + 1) (.list xs) = true ∧ Q (.bl true) M
theorem ok_sameM (T : Txt K mg a d) (n : Nat) : FnOk P w K mg base CX0 (n + 2) a.law_same d.law_same ["_law_actual", "_law_expected"] (conc K (A_sameM n)) := by
  have G_law_same := ok_sameN (P := P) (w := w) (base := base) T (n + 1)
  refine ab_ok T.F_law_same sc_law_same (fun ss M Q ⟨p, x, e, _⟩ => by subst e; rfl) fun cdv Ar outer s H E hr => ?_
  have hu64 := hr.units
  refine ⟨_, (pss_cons (ps_if (pt_cmpR op_isN (pv 1) pe_non (nomark _)) (pss_one (ps_ret (pe_cmpR op_isN (pv 0) pe_non (nomark _)))) pss_nil)
  (pss_cons (ps_if (pt_val (pe_callB (r := rIsi K) call_isi (by rfl) T.n_isinstance (by decide +kernel) (pa_cons (pv 1) (pa_cons (pe_bltn (v := .ty "bool") (u := .type "bool") (by rfl) T.n_bool (by decide +kernel) rfl) pa_nil)))) (pss_one (ps_ret (pe_and (pe_callB (r := rIsi K) call_isi (by rfl) T.n_isinstance (by decide +kernel) (pa_cons (pv 0) (pa_cons (pe_bltn (v := .ty "bool") (u := .type "bool") (by rfl) T.n_bool (by decide +kernel) rfl) pa_nil))) (pe_one (pe_cmpR (r := rEqD K) (op_eqD hu64) (pv 0) (pv 1) (nomark _)))))) pss_nil)
  (pss_cons (ps_if (pt_val (pe_callB (r := rIsi K) call_isi (by rfl) T.n_isinstance (by decide +kernel) (pa_cons (pv 1) (pa_cons (pe_bltn (v := .ty "int") (u := .type "int") (by rfl) T.n_int (by decide +kernel) rfl) pa_nil)))) (pss_one (ps_ret (pe_and (pe_callB (r := rIsi K) call_isi (by rfl) T.n_isinstance (by decide +kernel) (pa_cons (pv 0) (pa_cons (pe_bltn (v := .ty "int") (u := .type "int") (by rfl) T.n_int (by decide +kernel) rfl) pa_nil))) (pe_and (pe_not (pe_callB (r := rIsi K) call_isi (by rfl) T.n_isinstance (by decide +kernel) (pa_cons (pv 0) (pa_cons (pe_bltn (v := .ty "bool") (u := .type "bool") (by rfl) T.n_bool (by decide +kernel) rfl) pa_nil)))) (pe_one (pe_cmpR (r := rEqD K) (op_eqD hu64) (pv 0) (pv 1) (nomark _))))))) pss_nil)
  (pss_cons (ps_if (pt_val (pe_callB (r := rIsi K) call_isi (by rfl) T.n_isinstance (by decide +kernel) (pa_cons (pv 1) (pa_cons (pe_bltn (v := .ty "str") (u := .type "str") (by rfl) T.n_str (by decide +kernel) rfl) pa_nil)))) (pss_one (ps_ret (pe_and (pe_callB (r := rIsi K) call_isi (by rfl) T.n_isinstance (by decide +kernel) (pa_cons (pv 0) (pa_cons (pe_bltn (v := .ty "str") (u := .type "str") (by rfl) T.n_str (by decide +kernel) rfl) pa_nil))) (pe_one (pe_cmpR (r := rEqD K) (op_eqD hu64) (pv 0) (pv 1) (nomark _)))))) pss_nil)
  (pss_cons (ps_if (PW.pt (pw_and (pt_val (pe_callB (r := rIsi K) call_isi (by rfl) T.n_isinstance (by decide +kernel) (pa_cons (pv 1) (pa_cons (pe_bltn (v := .ty "tuple") (u := .type "tuple") (by rfl) T.n_tuple (by decide +kernel) rfl) pa_nil)))) (pw_and1 (pt_not (pt_val (pe_callB (r := rIsi K) call_isi (by rfl) T.n_isinstance (by decide +kernel) (pa_cons (pv 0) (pa_cons (pe_bltn (v := .ty "tuple") (u := .type "tuple") (by rfl) T.n_tuple (by decide +kernel) rfl) pa_nil)))))))) (pss_one (ps_ret pe_bl)) pss_nil)
  (pss_cons (ps_if (PW.pt (pw_and (pt_val (pe_callB (r := rIsi K) call_isi (by rfl) T.n_isinstance (by decide +kernel) (pa_cons (pv 1) (pa_cons (pe_bltn (v := .ty "list") (u := .type "list") (by rfl) T.n_list (by decide +kernel) rfl) pa_nil)))) (pw_and1 (pt_not (pt_val (pe_callB (r := rIsi K) call_isi (by rfl) T.n_isinstance (by decide +kernel) (pa_cons (pv 0) (pa_cons (pe_bltn (v := .ty "list") (u := .type "list") (by rfl) T.n_list (by decide +kernel) rfl) pa_nil)))))))) (pss_one (ps_ret pe_bl)) pss_nil)
  (pss_cons (ps_if (pt_cmpR (r := rNeD K) (op_neD hu64) (pe_callB (r := rLenS K) call_len_seq (by rfl) T.n_len PySem.boot_len (pa_cons (pv 0) pa_nil)) (pe_callB (r := rLenS K) call_len_seq (by rfl) T.n_len PySem.boot_len (pa_cons (pv 1) pa_nil)) (nomark _)) (pss_one (ps_ret pe_bl)) pss_nil)
  (pss_cons (ps_for PassesOwn.never rfl (pi_range1 rfl T.n_range (pa_cons (pe_callB (r := rLenS K) call_len_seq (by rfl) T.n_len PySem.boot_len (pa_cons (pv 1) pa_nil)) pa_nil)) (pg_name (i := 2) sc_law_same.nd rfl (Or.inl rfl)) (pss_one (ps_if (pt_not (pt_val (pe_call G_law_same (hr.mono (by omega)) (by rfl) T.g_law_same T.F_law_same.kp T.b_law_same .nil pass0 (pa_cons (pe_ix (r := rIx K) ix_seq (pv 0) (pv 2) (fun _ _ => rfl)) (pa_cons (pe_ix (r := rIx K) ix_seq (pv 1) (pv 2) (fun _ _ => rfl)) pa_nil))))) (pss_one (ps_ret pe_bl)) pss_nil)))
  (pss_one (ps_ret pe_bl)))))))))), ?_⟩
  rintro ss M Q ⟨p, xs, rfl, hM, hx, q⟩
  walk_at "k"
  show WS K _ [some (.raw (.ref p)), some (.dat (.list xs)), none] M _
  obtain ⟨hl, ho⟩ := okD_list hx
  walk_at "e"
  refine wl_isiL (b := true) hM (by decide +kernel) ?_
  walk_at "e"
  rw [List.length_map, decide_eq_true rfl]
  walk_at "e"
  refine ws_forR1 (n := (xs.length : Int)) (M1 := M) (by walk_at "e"; exact ⟨rfl, rfl⟩) (by omega)
    (fun i ρ' M' => ∃ y, ρ' = [some (.raw (.ref p)), some (.dat (.list xs)), y] ∧ M' = M) ⟨_, rfl, rfl⟩ ?_ ?_
  · rintro i ρ' M' hi ⟨y, rfl, rfl⟩
    have hi' : i < xs.length := by omega
    refine wg_name ?_
    have hat : atI xs (i : Int) = some xs[i] := atI_nat (List.getElem?_eq_getElem hi')
    walk_at "e"
    refine w2_ixRL hM (by rw [atI_map, hat]; rfl) ?_
    walk_at "e"
    refine w2_ixDL hat ?_
    walk_at "e"
    refine ⟨xs[i], rfl, okD_mem ho (List.getElem_mem hi'), ?_⟩
    walk_at "e"
    exact ⟨_, rfl, rfl⟩
  · rintro ρ' M' ⟨y, rfl, rfl⟩
    walk_at "e"
    exact q

def A_placed : ASp := fun ss M Q => ∃ os it, ss = [.dat (.list (List.map Item.enc os)), .dat (Item.enc it)] ∧ (∀ x ∈ os, x.ok) ∧ it.ok ∧ os.length ≤ 1000 ∧ Q (.dat (.list ((placedI os it).map Item.enc))) M
theorem ok_placed (T : Txt K mg a d) : FnOk P w K mg base CX0 4 a.law_placed d.law_placed ["_law_items_here", "_law_item_here"] (conc K A_placed) := by
  have G_law_key := ok_law_key (P := P) (w := w) (base := base) T
  have G_law_key_order := ok_law_key_order (P := P) (w := w) (base := base) T
  refine ab_ok T.F_law_placed sc_law_placed (fun ss M Q ⟨os, it, e, _⟩ => by subst e; rfl) fun cdv Ar outer s H E hr => ?_
  have hu64 := hr.units
  refine ⟨_, (pss_cons (ps_setLc (i := 2) (own := [("_law_other", 3)]) rfl sc_law_placed.nd rfl rfl (sw_true rfl rfl rfl (by decide +kernel)) (pi_list (pv 0)) (blkOk_by (own := [("_law_other", 3)]) (N := ["_law_items_here", "_law_item_here", "_law_before_here", "_law_other", "_law_behind"]) (sc := (defScope s_law_placed)) (by decide +kernel)) (fun _ _ _ _ _ => (pg_name (i := 3) sc_law_placed.nd rfl (Or.inl rfl))) (fun _ _ _ _ _ => pts_one (pt_cmpR op_lt (pe_call G_law_key_order (hr.mono (by omega)) (by rfl) T.g_law_key_order T.F_law_key_order.kp T.b_law_key_order .nil pass0 (pa_cons (pe_call G_law_key (hr.mono (by omega)) (by rfl) T.g_law_key T.F_law_key.kp T.b_law_key .nil pass0 (pa_cons (pv 3) pa_nil)) (pa_cons (pe_call G_law_key (hr.mono (by omega)) (by rfl) T.g_law_key T.F_law_key.kp T.b_law_key .nil pass0 (pa_cons (pv 1) pa_nil)) pa_nil))) pe_int (nomark _))) (fun _ _ _ _ _ => (pv 3)))
  (pss_cons (ps_setLc (i := 4) (own := [("_law_other", 3)]) rfl sc_law_placed.nd rfl rfl (sw_true rfl rfl rfl (by decide +kernel)) (pi_list (pv 0)) (blkOk_by (own := [("_law_other", 3)]) (N := ["_law_items_here", "_law_item_here", "_law_before_here", "_law_other", "_law_behind"]) (sc := (defScope s_law_placed)) (by decide +kernel)) (fun _ _ _ _ _ => (pg_name (i := 3) sc_law_placed.nd rfl (Or.inl rfl))) (fun _ _ _ _ _ => pts_one (pt_cmpR op_gt (pe_call G_law_key_order (hr.mono (by omega)) (by rfl) T.g_law_key_order T.F_law_key_order.kp T.b_law_key_order .nil pass0 (pa_cons (pe_call G_law_key (hr.mono (by omega)) (by rfl) T.g_law_key T.F_law_key.kp T.b_law_key .nil pass0 (pa_cons (pv 3) pa_nil)) (pa_cons (pe_call G_law_key (hr.mono (by omega)) (by rfl) T.g_law_key T.F_law_key.kp T.b_law_key .nil pass0 (pa_cons (pv 1) pa_nil)) pa_nil))) pe_int (nomark _))) (fun _ _ _ _ _ => (pv 3)))
  (pss_one (ps_ret (pe_op (r := rCatL K) op_catL (pe_op (r := rCatL K) op_catL (pv 2) (pe_lst (pa_cons (pv 1) pa_nil))) (pv 4)))))), ?_⟩
  rintro ss M Q ⟨os, it, rfl, ho, hi, hl, q⟩
  walk_at "k"
  show WS K _ [some (.dat (.list (os.map Item.enc))), some (.dat it.enc), none, none, none] M _
  refine ws_seq (ws_set (w_lcF (xs := os) (enc := Item.enc) (M1 := M) (by decide) (w_var rfl ⟨rfl, rfl⟩) (by omega) (fun x => decide (ordK (keyOf x) (keyOf it) < 0)) Item.enc (fun x D o hx hD => ?_) (fun x D o hx _ hD => w_var rfl ⟨rfl, rfl⟩) ?_))
  · walk_at "f"
    refine ⟨x, rfl, ?_⟩
    walk_at "f"
    refine ⟨it, rfl, ?_⟩
    walk_at "f"
    refine ⟨keyOf x, keyOf it, rfl, key_ok (ho x hx), key_ok hi, ?_⟩
    walk_at "f"
    exact ⟨rfl, rfl⟩
  refine ws_seq (ws_set (w_lcF (xs := os) (enc := Item.enc) (M1 := M) (by decide) (w_var rfl ⟨rfl, rfl⟩) (by omega) (fun x => decide (0 < ordK (keyOf x) (keyOf it))) Item.enc (fun x D o hx hD => ?_) (fun x D o hx _ hD => w_var rfl ⟨rfl, rfl⟩) ?_))
  · walk_at "f"
    refine ⟨x, rfl, ?_⟩
    walk_at "f"
    refine ⟨it, rfl, ?_⟩
    walk_at "f"
    refine ⟨keyOf x, keyOf it, rfl, key_ok (ho x hx), key_ok hi, ?_⟩
    walk_at "f"
    exact ⟨rfl, rfl⟩
  have l1 := List.length_filter_le (fun x => decide (ordK (keyOf x) (keyOf it) < 0)) os
  have l2 := List.length_filter_le (fun x => decide (0 < ordK (keyOf x) (keyOf it))) os
  refine ws_ret (w_op (w_op (w_var rfl (w_lstD (wa_cons (w_var rfl (wa_nil ⟨_, rfl, by simp, w2_cat lsv_dat lsv_dat (by rw [List.length_map]; simp; omega) ?_⟩)))))))
  refine w_var rfl (w2_cat lsv_dat lsv_dat (by rw [List.length_append, List.length_map, List.length_map]; simp; omega) ?_)
  have : ((os.filter fun x => decide (ordK (keyOf x) (keyOf it) < 0)).map Item.enc ++ [it.enc]) ++ (os.filter fun x => decide (0 < ordK (keyOf x) (keyOf it))).map Item.enc = (placedI os it).map Item.enc := by
    unfold placedI
    rw [List.map_append, List.map_append]
    rfl
  rw [this]
  exact q
def A_litems : ASp := fun ss M Q => ∃ p xs n, ss = [.raw (.ref p), .int n] ∧ M p = some (.lst xs) ∧ DrawL xs ∧ 0 ≤ n ∧ n ≤ 60 ∧ ∀ its ys, (∀ it ∈ its, Item.ok it) → (its.length : Int) ≤ n → DrawL ys → Q (.dat (.tuple [.list (its.map Item.enc), .list ((orderd its).map Item.enc)])) (Ab.um M p (.lst ys))
theorem ok_litems (T : Txt K mg a d) : FnOk P w K mg base CX0 8 a.law_items d.law_items ["_law_state", "_law_most"] (conc K A_litems) := by
  have G_law_next : FnOk P w K mg base CX0 1 a.law_next d.law_next ["_law_state", "_law_limit"] (conc K A_next) := ok_next T
  have G_law_item := ok_item (P := P) (w := w) (base := base) T
  have G_law_placed := ok_placed (P := P) (w := w) (base := base) T
  refine ab_ok T.F_law_items sc_law_items (fun ss M Q ⟨p, xs, n, e, _⟩ => by subst e; rfl) fun cdv Ar outer s H E hr => ?_
  have hu64 := hr.units
  refine ⟨_, (pss_cons (ps_setLc (i := 2) (own := [("_law_k", 3)]) rfl sc_law_items.nd rfl rfl (sw_true rfl rfl rfl (by decide +kernel)) (pi_range1 rfl T.n_range (pa_cons (pe_call G_law_next (hr.mono (by omega)) (by rfl) T.g_law_next T.F_law_next.kp T.b_law_next .nil pass0 (pa_cons (pv 0) (pa_cons (pe_op op_add (pv 1) pe_int) pa_nil))) pa_nil)) (blkOk_by (own := [("_law_k", 3)]) (N := ["_law_state", "_law_most", "_law_items_here", "_law_k", "_law_ordered", "_law_item_here"]) (sc := (defScope s_law_items)) (by decide +kernel)) (fun _ _ _ _ _ => (pg_name (i := 3) sc_law_items.nd rfl (Or.inl rfl))) (fun _ _ _ _ _ => pts_nil) (fun _ _ _ _ _ => (pe_call G_law_item (hr.mono (by omega)) (by rfl) T.g_law_item T.F_law_item.kp T.b_law_item .nil pass0 (pa_cons (pv 0) pa_nil))))
  (pss_cons (ps_set (i := 4) sc_law_items.nd rfl (Or.inl rfl) (pe_lst pa_nil))
  (pss_cons (ps_for PassesOwn.never rfl (pi_list (pv 2)) (pg_name (i := 5) sc_law_items.nd rfl (Or.inl rfl)) (pss_one (ps_set (i := 4) sc_law_items.nd rfl (Or.inl rfl) (pe_call G_law_placed (hr.mono (by omega)) (by rfl) T.g_law_placed T.F_law_placed.kp T.b_law_placed .nil pass0 (pa_cons (pv 4) (pa_cons (pv 5) pa_nil))))))
  (pss_one (ps_ret (pe_tup (pa_cons (pv 2) (pa_cons (pv 4) pa_nil)))))))), ?_⟩
  rintro ss M Q ⟨p, xs, n, rfl, hp, hD, h0, h1, q⟩
  walk_at "k"
  show WS K _ [some (.raw (.ref p)), some (.int n), none, none, none, none] M _
  refine ws_seq (ws_set (w_lcGen (p := p) (by decide) (fun d => ∃ t : Item, d = t.enc ∧ t.ok) ?_))
  walk_at "f"
  refine ⟨p, _, xs, rfl, hp, hD, by omega, Int.le_trans (b := 100) (by omega) (by decide), fun v zs v0 v1 hD1 => ?_⟩
  refine wa_nil ⟨v, M, zs, rfl, rfl, hD1, by omega, by omega, fun i M2 us hi hu => ?_, fun ds zs hz hln hP => ?_⟩
  · walk_at "f"
    refine a_gen0 hu rfl fun d zs hP hD => ?_
    exact ⟨d, zs, rfl, rfl, hD, hP⟩
  obtain ⟨its, rfl, hits⟩ := list_enc (f := Item.enc) (R := Item.ok) hP
  rw [List.length_map] at hln
  generalize hM1 : Ab.um M p (.lst zs) = M1
  refine ws_seq (ws_set (w_lstD (wa_nil ⟨[], rfl, by simp, ?_⟩)))
  refine ws_seq (ws_forD (xs := its) (enc := Item.enc) (M1 := M1) (w_var rfl ⟨rfl, rfl⟩)
    (fun pre ρ' M' => ∃ y3 y5, ρ' = [some (.raw (.ref p)), some (.int n), some (.dat (.list (its.map Item.enc))), y3, some (.dat (.list ((orderd pre).map Item.enc))), y5] ∧ M' = M1) ⟨_, none, rfl, rfl⟩ ?_ ?_)
  · rintro pre x post ρ' M' hx ⟨y3, y5, rfl, rfl⟩
    have hpre : ∀ z ∈ pre, Item.ok z := fun z hz => hits z (by rw [hx]; exact List.mem_append_left _ hz)
    have hxo : Item.ok x := hits x (by rw [hx]; simp)
    have hpl : pre.length ≤ its.length := by rw [hx, List.length_append]; omega
    have := orderd_len pre
    refine wg_name ?_
    walk_at "f"
    refine ⟨orderd pre, x, rfl, orderd_ok hpre, hxo, by omega, ?_⟩
    rw [← orderd_snoc]
    exact ⟨_, _, rfl, rfl⟩
  rintro ρ' M' ⟨y3, y5, rfl, rfl⟩
  refine ws_ret (w_tupD (wa_cons (w_var rfl (wa_cons (w_var rfl (wa_nil ⟨_, rfl, by simp, ?_⟩))))))
  rw [← hM1]
  exact q its zs hits (by omega) hz
end
end K03


set_option Elab.async false
set_option linter.all false
set_option maxRecDepth 100000
set_option  maxHeartbeats 4000000
namespace K03
open PySem PyProof.Rows L2 Ab
local macro_rules | `(tactic| walk_at "len") => `(tactic| first | decide | omega | (simp only [List.length_append, List.length_map, List.length_replicate, List.length_cons, List.length_nil, List.length_take, List.length_drop, List.length_reverse, List.length_range]; omega))
local macro_rules | `(tactic| walk_at "str") => `(tactic| first | decide +kernel | exact goodS_ok (by assumption) | assumption)
local macro_rules | `(tactic| walk_at "1") => `(tactic| (first
  | (with_reducible refine ws_set ?_)
  | (with_reducible refine ws_ret ?_)
  | (with_reducible refine ws_if ?_)
  | (with_reducible refine ws_drop ?_)
  | (with_reducible refine w_op ?_)
  | (with_reducible refine w_un ?_)
  | (with_reducible refine w_int ?_)
  | (with_reducible refine w_bl ?_)
  | (with_reducible refine w_non ?_)
  | (with_reducible refine w_str ?_)
  | (with_reducible refine w_cb ?_)
  | (with_reducible refine w_call ?_)
  | (with_reducible refine w_sl ?_)
  | (with_reducible refine w_tupD ?_)
  | (with_reducible refine w_chain ?_)
  | (with_reducible refine w_andV ?_)
  | (with_reducible refine w_orV ?_)
  | (with_reducible refine w_notV ?_)
  | (with_reducible refine wo_none ?_)
  | (with_reducible refine wo_some ?_)
  | (with_reducible refine wa_cons ?_)
  | (with_reducible refine wa_nil ?_)
  | (with_reducible refine wt_test ?_)
  | (with_reducible refine wt_B ?_)
  | (with_reducible refine wt_and ?_)
  | (with_reducible refine wt_or ?_)
  | (with_reducible refine wt_not ?_)
  | (with_reducible refine wt_yes ?_)
  | (with_reducible refine w2_i0 ?_)
  | (with_reducible refine w2_b0 ?_)
  | (with_reducible refine w1_neg ?_)
  | ((with_reducible refine w2_i ?hc ?_); (case hc => first | decide | exact ⟨by decide, by decide⟩ | exact Or.inl ⟨by decide, by decide⟩ | exact Or.inr ⟨by decide, by decide⟩ | exact ⟨by decide, by decide, by decide⟩ | omega); skip)
  | ((with_reducible refine' w_var ?hv ?_); (case hv => exact rfl); skip)
  | ((with_reducible show W2 _ (rEqD _) (Sl.dat (PyData.int _)) (Sl.dat (PyData.int _)) _ _); (refine w2_eqI ?_))
  | ((with_reducible show W2 _ (rNeD _) (Sl.dat (PyData.int _)) (Sl.dat (PyData.int _)) _ _); (refine w2_neI ?_))
  | ((with_reducible show W2 _ (rEqD _) (Sl.dat (PyData.str _)) (Sl.dat (PyData.str _)) _ _); (refine' w2_eqS ?h1 ?h2 ?_); (case h1 => walk_at "str"); (case h2 => walk_at "str"); skip)
  | ((with_reducible show W2 _ (rNeD _) (Sl.dat (PyData.str _)) (Sl.dat (PyData.str _)) _ _); (refine' w2_neS ?h1 ?h2 ?_); (case h1 => walk_at "str"); (case h2 => walk_at "str"); skip)
  | ((with_reducible show W2 _ (rEqD _) _ _ _ _); (refine w2_eq ?ha ?hb ?_); (case ha => first | exact shaped_int _ | exact shaped_bool _ | exact shaped_none); (case hb => first | exact shaped_int _ | exact shaped_bool _ | exact shaped_none); skip)
  | ((with_reducible show W2 _ (rNeD _) _ _ _ _); (refine w2_ne ?ha ?hb ?_); (case ha => first | exact shaped_int _ | exact shaped_bool _ | exact shaped_none); (case hb => first | exact shaped_int _ | exact shaped_bool _ | exact shaped_none); skip)
  | ((with_reducible show W2 _ _ _ _ _ _); (refine w2_isN ?_))
  | ((with_reducible show W2 _ rIsB _ _ _ _); (refine w2_isB ?_))
  | ((with_reducible show W2 _ rNotB _ _ _ _); (refine w2_notB ?_))
  | ((with_reducible show W2 _ _ _ _ _ _); (refine w2_notN ?_))
  | (with_reducible refine wl_lenE ?_)
  | (with_reducible refine wl_lenD ?_)
  | (with_reducible refine wl_lenTD ?_)
  | (with_reducible refine wl_listE ?_)
  | (with_reducible refine wsl_E ?_)
  | ((with_reducible refine' w2_catE ?hl ?_); (try (case hl => walk_at "len")); skip)
  | ((with_reducible refine' w2_rep1 ?h1 ?h2 ?_); (try (case h1 => first | decide | omega)); (try (case h2 => first | decide | omega)); skip)
  | ((with_reducible show WL _ _ [_] _ _); (refine' wl_len ?hl ?_); (case hl => first | exact lsv_dat | exact lsv_ref um_same | exact lsv_ref (by assumption)); skip)
  | ((with_reducible show WL _ _ [_] _ _); (refine' wl_list ?hl ?_); (case hl => first | exact .inl lsv_dat | exact .inl (lsv_ref (by assumption))); skip)
  | ((with_reducible show WSl _ (rSlL _) _ _ _ _ _); (refine' wsl_lst ?hl ?_); (case hl => first | exact lsv_dat | exact lsv_ref um_same | exact lsv_ref (by assumption)); skip)
  | ((with_reducible show WL _ _ [_] _ _); (refine wl_int ?_))
  | ((with_reducible show WL _ _ [_] _ _); (refine wl_intb ?_))
  | ((with_reducible show WL _ _ [_, _] _ _); (refine wl_min ?_))
  | ((with_reducible first | show W2 _ (rIxL _) (Sl.dat (PyData.list (List.cons _ _))) (Sl.dat (PyData.int _)) _ _ | show W2 _ (rIxL _) (Sl.dat (PyData.list (List.map PyData.int (List.cons _ _)))) (Sl.dat (PyData.int _)) _ _); (refine' w2_ixAny ?h0 ?h1 ?_); (case h0 => omega); (case h1 => first | omega | (simp only [List.length_cons, List.length_nil, List.length_map]; omega)); skip)
  | ((with_reducible show W2 _ (rIxL _) _ _ _ _); (refine' w2_ixL ?hs ?hx ?_); (case hs => first | exact lsv_dat | exact lsv_ref um_same | exact lsv_ref (by assumption)); (try (case hx => exact rfl)); skip)
  | ((with_reducible show W2 _ (rIxT _) _ _ _ _); (refine' w2_ixT ?hx ?_); (case hx => exact rfl); skip)
  | ((with_reducible show WL _ (rIsi _) [_, _] _ _); (refine' wl_isi ?hb ?_); (case hb => first | exact isi_bool _ | exact isi_int _ | exact isi_str _ | exact isi_tuple _ | exact isi_list _); skip)
  | ((with_reducible show W _ (tC (V.ty _)) _ _ _); (refine w_raw ?_))
  | ((with_reducible show W _ (tC (V.ref _)) _ _ _); (refine w_raw ?_))
  | ((with_reducible show WSl _ (rSlA _) _ _ _ _ _); (refine wsl_tup ?_))
  | ((with_reducible show WL _ (rTupS _) [Sl.dat (PyData.list _)] _ _); (refine wl_tuple lsv_dat ?_))
  | ((with_reducible show W2 _ (rCatA _) _ _ _ _); (refine' w2_catT ?hl ?_); (try (case hl => walk_at "len")); skip)
  | ((with_reducible show WL _ _ [_] _ _); (refine' wl_lenT ?hl ?_); (case hl => exact tpv_dat); skip)
  | ((with_reducible refine' w_fldI ?hv ?hM ?c ?n ?l ?_); (case hv => exact rfl); (case hM => first | assumption | exact um_same); (case c => assumption); (case n => assumption); (case l => walk_at "fl"); skip)
  | ((with_reducible refine' w_dgetI ?hv ?hM ?hx ?_); (case hv => exact rfl); (case hM => first | assumption | exact um_same); (case hx => walk_at "wg"); skip)
  | ((with_reducible refine' ws_fldI ?hv ?c ?n ?_); (case hv => exact rfl); (case c => assumption); (case n => assumption); skip)
  | (with_reducible refine ws_next ?_)
  | ((with_reducible show WS _ Ends.nx _ _ _); (refine ws_next ?_))
  | (with_reducible refine ite_t rfl ?_)
  | (with_reducible refine ite_f rfl ?_)
  | ((with_reducible refine' ite_t ?hb ?_); (case hb => decide +kernel); skip)
  | ((with_reducible refine' ite_f ?hb ?_); (case hb => decide +kernel); skip)
  | ((with_reducible show ∃ b : Bool, _ = Sl.bl b ∧ _); (with_reducible refine ⟨_, rfl, ?_⟩))
  | ((with_reducible show ∃ i : Int, _ = Sl.int i ∧ _); (with_reducible refine ⟨_, rfl, ?_⟩))
  | ((with_reducible show List.length _ ≤ 100000 ∧ _); (refine ⟨(by simp), ?_⟩))
  | ((with_reducible show ∃ ds : List PyData, datsOf _ = some ds ∧ _); (refine ⟨_, rfl, ?_⟩))))
local macro_rules | `(tactic| walk_at "e") => `(tactic| repeat (first | (with_reducible refine ws_seq ?_) | (walk_at "1")))
local macro_rules | `(tactic| walk_at "g") => `(tactic| repeat (first | (walk_at "1") | ((with_reducible refine w_lstI (wa_cons ?_)); (repeat (walk_at "1")); (with_reducible show ∃ ns : List Int, itemsI _ = some ns ∧ _); (refine ⟨_, rfl, ?_⟩)) | (with_reducible refine w_lstD ?_)))
local macro_rules | `(tactic| walk_at "f") => `(tactic| repeat (first | (with_reducible refine ws_seq ?_) | (walk_at "1") | ((with_reducible refine w_lstI (wa_cons ?_)); (repeat (walk_at "1")); (with_reducible show ∃ ns : List Int, itemsI _ = some ns ∧ _); (refine ⟨_, rfl, ?_⟩)) | (with_reducible refine w_lstD ?_)))
local macro_rules | `(tactic| walk_at "k") => `(tactic| first | dsimp only [cxOf, Cx.nox, Cx.wish] | skip)

local macro_rules | `(tactic| walk_at "fl") => `(tactic| with_reducible first | exact sl_r _ | exact sl_f _ | exact sl_u _ | exact sl_n _)

section
variable {P : Program} {w : World} {K : PySem.W.Frag} {mg : Str → Option Value} {base : Heap} {a : AD} {d : FD}
/-- what stands there is the datum -/
def SameV (M : MH) (x : Sl) (d : PyData) : Prop := (x = .dat d ∧ okD 8 d = true) ∨ ∃ r ds, x = .raw (.ref r) ∧ d = .list ds ∧ M r = some (.lst (ds.map .dat)) ∧ okD 8 d = true
def kvE (es : List (Str × PyData)) : List (Key × Sl) := es.map fun e => ((.inr e.1 : Key), .dat e.2)
def A_isdict : ASp := fun ss M Q => ∃ p q kvs es, ss = [.raw (.ref p), .raw (.ref q)] ∧ p ≠ q ∧ M p = some (.dK kvs) ∧ M q = some (.dK (kvE es)) ∧ kvs.length = es.length ∧ es.length ≤ 1000 ∧ (∀ n d, valG es n = some d → ∃ x, valG kvs (.inr n) = some x ∧ SameV M x d) ∧ Q (.bl true) M
theorem any_trues : ∀ n : Nat, ((List.replicate n (PyData.bool true)).any fun z => PyData.eqv z (.bool false)) = false
  | 0 => rfl
  | n + 1 => by
    rw [List.replicate_succ, List.any_cons, any_trues n, Bool.or_false]
    rfl
theorem ok_isdict (T : Txt K mg a d) : FnOk P w K mg base CX0 10 a.law_is_dict d.law_is_dict ["_law_actual", "_law_expected"] (conc K A_isdict) := by
  have S1 := (ok_sameN (P := P) (w := w) (base := base) T 9)
  have S2 := (ok_sameM (P := P) (w := w) (base := base) T 7)
  have G_law_same : FnOk P w K mg base CX0 9 a.law_same d.law_same ["_law_actual", "_law_expected"] (conc K (orA (A_sameN 9) (A_sameM 7))) := fn_or S1 S2
  refine ab_ok T.F_law_is_dict sc_law_is_dict (fun ss M Q ⟨p, q, kvs, es, e, _⟩ => by subst e; rfl) fun cdv Ar outer s H E hr => ?_
  have hu64 := hr.units
  have hu65 := room65 hr
  refine ⟨_, (pss_cons (ps_if (PW.pt (pw_or (pt_not (pt_val (pe_callB (r := rIsi K) call_isi (by rfl) T.n_isinstance (by decide +kernel) (pa_cons (pv 0) (pa_cons (pe_bltn (v := .ty "dict") (u := .type "dict") (by rfl) T.n_dict (by decide +kernel) rfl) pa_nil))))) (pw_or1 (pt_cmpR (r := rNeD K) (op_neD hu64) (pe_callB (r := rLenDk) call_lenD (by rfl) T.n_len PySem.boot_len (pa_cons (pv 0) pa_nil)) (pe_callB (r := rLenDk) call_lenD (by rfl) T.n_len PySem.boot_len (pa_cons (pv 1) pa_nil)) (nomark _))))) (pss_one (ps_ret pe_bl)) pss_nil)
  (pss_one (ps_ret (pe_cmpR (r := rNotInD K) (op_notInD hu65) pe_bl (pe_lock (pe_lc (own := [("_law_key_here", 2)]) rfl sc_law_is_dict.nd (pi_keys (pv 1)) (blkOk_by (own := [("_law_key_here", 2)]) (N := ["_law_actual", "_law_expected", "_law_key_here"]) (sc := (defScope s_law_is_dict)) (by decide +kernel)) (fun _ _ _ _ _ => (pg_name (i := 2) sc_law_is_dict.nd rfl (Or.inl rfl))) (fun _ _ _ _ _ => pts_nil) (fun _ _ _ _ _ => (pe_and (pe_cmp (pc_din (hu1 hu64) (pv 2) (pv 0))) (pe_one (pe_call G_law_same (hr.mono (by omega)) (by rfl) T.g_law_same T.F_law_same.kp T.b_law_same .nil pass0 (pa_cons (pe_dget (hu1 hu64) (pv 0) (pv 2) (fun _ _ => rfl)) (pa_cons (pe_dget (hu1 hu64) (pv 1) (pv 2) (fun _ _ => rfl)) pa_nil)))))))) (by rfl))))), ?_⟩
  rintro ss M Q ⟨p, q, kvs, es, rfl, hne, hp, hq, hl, hz, hv, qq⟩
  walk_at "k"
  show WS K _ [some (.raw (.ref p)), some (.raw (.ref q)), none] M _
  walk_at "f"
  refine wl_isiD (b := true) hp (by decide +kernel) ?_
  walk_at "f"
  refine wl_lenDk hp ?_
  walk_at "f"
  refine wl_lenDk hq ?_
  have el : (kvE es).length = kvs.length := by unfold kvE; rw [List.length_map, hl]
  rw [el]
  walk_at "f"
  rw [decide_eq_true rfl]
  walk_at "f"
  refine w_lock hq fun od v => ?_
  refine w_lc (by decide) (wi_keys (w_var rfl ⟨q, od, v, kvE es, rfl, um_same, fun i acc M' => M' = Ab.um M q (.frz od v (.dK (kvE es))) ∧ acc = List.replicate i (PyData.bool true), ⟨rfl, rfl⟩, fun i acc M' _ ⟨e, _⟩ D o hD => ?_, ?_, ?_⟩))
  · subst e
    have : q ≠ D := fun z => by rw [← z, um_same] at hD; cases hD
    show Ab.um _ D o q = _
    rw [um_ne this, um_same]
  · rintro i acc M' D hi ⟨rfl, rfl⟩ hD
    have hi1 : i < es.length := by unfold kvE at hi; rw [List.length_map] at hi; exact hi
    have gi : ((kvE es).map fun q => kS q.1).getD i .non = .str es[i].1 := by
      rw [List.getD_eq_getElem?_getD, List.getElem?_map]
      unfold kvE
      rw [List.getElem?_map, List.getElem?_eq_getElem hi1]
      rfl
    obtain ⟨x, hx⟩ := valG_of (kvs := es) (n := es[i].1) (List.mem_map.mpr ⟨_, List.getElem_mem hi1, rfl⟩)
    dsimp only
    rw [gi]
    generalize es[i].1 = n at hx
    obtain ⟨y, hy, hs⟩ := hv n x hx
    have nD : ∀ b u, M b = some u → b ≠ D := fun b u hb z => by
      have : Ab.um M q (.frz od v (.dK (kvE es))) b = none := by rw [z]; exact hD
      by_cases e : b = q
      · rw [e, um_same] at this; cases this
      · rw [um_ne e, hb] at this; cases this
    have hpD : Ab.um (Ab.um M q (.frz od v (.dK (kvE es)))) D (.lst ((List.replicate i (PyData.bool true)).map .dat)) p = some (.dK kvs) := by rw [um_ne (nD _ _ hp), um_ne hne]; exact hp
    have hqD : Ab.um (Ab.um M q (.frz od v (.dK (kvE es)))) D (.lst ((List.replicate i (PyData.bool true)).map .dat)) q = some (.frz od v (.dK (kvE es))) := by rw [um_ne (nD _ _ hq), um_same]
    refine wt_yes ?_
    rw [if_pos rfl]
    refine w_andV (w_din (w_var rfl (w_var rfl ⟨kvs, .inr n, dcv_ref hpD, rfl, _, rfl, ?_⟩)))
    rw [hy, if_pos (show (some y).isSome = true from rfl)]
    walk_at "f"
    refine w_dget (w_var rfl (w_var rfl ⟨kvs, .inr n, y, dcv_ref hpD, rfl, hy, ?_⟩))
    refine wa_cons (w_dget (w_var rfl (w_var rfl ⟨kvE es, .inr n, .dat x, dcv_frz hqD, rfl, ?_, wa_nil ?_⟩)))
    · have := valG_inr (fun d : PyData => Sl.dat d) n es
      rw [hx] at this
      exact this
    have fin : ∃ d M5, Sl.bl true = .dat d ∧ Ab.um (Ab.um M q (.frz od v (.dK (kvE es)))) D (.lst ((List.replicate i (PyData.bool true)).map .dat)) = Ab.um M5 D (.lst ((List.replicate i (PyData.bool true)).map .dat)) ∧ M5 D = none ∧ (List.replicate i (PyData.bool true)).length < 100000 ∧ M5 = Ab.um M q (.frz od v (.dK (kvE es))) ∧ List.replicate i (PyData.bool true) ++ [d] = List.replicate (i + 1) (PyData.bool true) :=
      ⟨_, _, rfl, rfl, hD, by rw [List.length_replicate]; omega, rfl, (List.replicate_succ' (n := i) (a := PyData.bool true)).symm⟩
    rcases hs with ⟨rfl, ok⟩ | ⟨r, ds, rfl, rfl, hr, ok⟩
    · exact .inl ⟨x, rfl, ok, fin⟩
    · have hrq : r ≠ q := fun z => by rw [z, hq] at hr; cases hr
      exact .inr ⟨r, ds, rfl, by rw [um_ne (nD _ _ hr), um_ne hrq]; exact hr, ok, fin⟩
  rintro acc M' ⟨rfl, rfl⟩
  refine ⟨um_same, ?_⟩
  rw [um_um, um_id hq]
  refine w2_notIn (by rfl) (okD_shaped (n := 1) (okD_mkL (by rw [List.length_replicate]; unfold kvE; rw [List.length_map]; omega) (okAll_of fun d hd => by rw [List.eq_of_mem_replicate hd]; rfl)) (by decide)) ?_
  rw [any_trues]
  exact qq
end
end K03


set_option Elab.async false
set_option linter.all false
set_option maxRecDepth 100000
set_option  maxHeartbeats 4000000
namespace K03
open PySem PyProof.Rows L2 Ab
local macro_rules | `(tactic| walk_at "len") => `(tactic| first | decide | omega | (simp only [List.length_append, List.length_map, List.length_replicate, List.length_cons, List.length_nil, List.length_take, List.length_drop, List.length_reverse, List.length_range]; omega))
local macro_rules | `(tactic| walk_at "str") => `(tactic| first | decide +kernel | exact goodS_ok (by assumption) | assumption)
local macro_rules | `(tactic| walk_at "1") => `(tactic| (first
  | (with_reducible refine ws_set ?_)
  | (with_reducible refine ws_ret ?_)
  | (with_reducible refine ws_if ?_)
  | (with_reducible refine ws_drop ?_)
  | (with_reducible refine w_op ?_)
  | (with_reducible refine w_un ?_)
  | (with_reducible refine w_int ?_)
  | (with_reducible refine w_bl ?_)
  | (with_reducible refine w_non ?_)
  | (with_reducible refine w_str ?_)
  | (with_reducible refine w_cb ?_)
  | (with_reducible refine w_call ?_)
  | (with_reducible refine w_sl ?_)
  | (with_reducible refine w_tupD ?_)
  | (with_reducible refine w_chain ?_)
  | (with_reducible refine w_andV ?_)
  | (with_reducible refine w_orV ?_)
  | (with_reducible refine w_notV ?_)
  | (with_reducible refine wo_none ?_)
  | (with_reducible refine wo_some ?_)
  | (with_reducible refine wa_cons ?_)
  | (with_reducible refine wa_nil ?_)
  | (with_reducible refine wt_test ?_)
  | (with_reducible refine wt_B ?_)
  | (with_reducible refine wt_and ?_)
  | (with_reducible refine wt_or ?_)
  | (with_reducible refine wt_not ?_)
  | (with_reducible refine wt_yes ?_)
  | (with_reducible refine w2_i0 ?_)
  | (with_reducible refine w2_b0 ?_)
  | (with_reducible refine w1_neg ?_)
  | ((with_reducible refine w2_i ?hc ?_); (case hc => first | decide | exact ⟨by decide, by decide⟩ | exact Or.inl ⟨by decide, by decide⟩ | exact Or.inr ⟨by decide, by decide⟩ | exact ⟨by decide, by decide, by decide⟩ | omega); skip)
  | ((with_reducible refine' w_var ?hv ?_); (case hv => exact rfl); skip)
  | ((with_reducible show W2 _ (rEqD _) (Sl.dat (PyData.int _)) (Sl.dat (PyData.int _)) _ _); (refine w2_eqI ?_))
  | ((with_reducible show W2 _ (rNeD _) (Sl.dat (PyData.int _)) (Sl.dat (PyData.int _)) _ _); (refine w2_neI ?_))
  | ((with_reducible show W2 _ (rEqD _) (Sl.dat (PyData.str _)) (Sl.dat (PyData.str _)) _ _); (refine' w2_eqS ?h1 ?h2 ?_); (case h1 => walk_at "str"); (case h2 => walk_at "str"); skip)
  | ((with_reducible show W2 _ (rNeD _) (Sl.dat (PyData.str _)) (Sl.dat (PyData.str _)) _ _); (refine' w2_neS ?h1 ?h2 ?_); (case h1 => walk_at "str"); (case h2 => walk_at "str"); skip)
  | ((with_reducible show W2 _ (rEqD _) _ _ _ _); (refine w2_eq ?ha ?hb ?_); (case ha => first | exact shaped_int _ | exact shaped_bool _ | exact shaped_none); (case hb => first | exact shaped_int _ | exact shaped_bool _ | exact shaped_none); skip)
  | ((with_reducible show W2 _ (rNeD _) _ _ _ _); (refine w2_ne ?ha ?hb ?_); (case ha => first | exact shaped_int _ | exact shaped_bool _ | exact shaped_none); (case hb => first | exact shaped_int _ | exact shaped_bool _ | exact shaped_none); skip)
  | ((with_reducible show W2 _ _ _ _ _ _); (refine w2_isN ?_))
  | ((with_reducible show W2 _ rIsB _ _ _ _); (refine w2_isB ?_))
  | ((with_reducible show W2 _ rNotB _ _ _ _); (refine w2_notB ?_))
  | ((with_reducible show W2 _ _ _ _ _ _); (refine w2_notN ?_))
  | (with_reducible refine wl_lenE ?_)
  | (with_reducible refine wl_lenD ?_)
  | (with_reducible refine wl_lenTD ?_)
  | (with_reducible refine wl_listE ?_)
  | (with_reducible refine wsl_E ?_)
  | ((with_reducible refine' w2_catE ?hl ?_); (try (case hl => walk_at "len")); skip)
  | ((with_reducible refine' w2_rep1 ?h1 ?h2 ?_); (try (case h1 => first | decide | omega)); (try (case h2 => first | decide | omega)); skip)
  | ((with_reducible show WL _ _ [_] _ _); (refine' wl_len ?hl ?_); (case hl => first | exact lsv_dat | exact lsv_ref um_same | exact lsv_ref (by assumption)); skip)
  | ((with_reducible show WL _ _ [_] _ _); (refine' wl_list ?hl ?_); (case hl => first | exact .inl lsv_dat | exact .inl (lsv_ref (by assumption))); skip)
  | ((with_reducible show WSl _ (rSlL _) _ _ _ _ _); (refine' wsl_lst ?hl ?_); (case hl => first | exact lsv_dat | exact lsv_ref um_same | exact lsv_ref (by assumption)); skip)
  | ((with_reducible show WL _ _ [_] _ _); (refine wl_int ?_))
  | ((with_reducible show WL _ _ [_] _ _); (refine wl_intb ?_))
  | ((with_reducible show WL _ _ [_, _] _ _); (refine wl_min ?_))
  | ((with_reducible first | show W2 _ (rIxL _) (Sl.dat (PyData.list (List.cons _ _))) (Sl.dat (PyData.int _)) _ _ | show W2 _ (rIxL _) (Sl.dat (PyData.list (List.map PyData.int (List.cons _ _)))) (Sl.dat (PyData.int _)) _ _); (refine' w2_ixAny ?h0 ?h1 ?_); (case h0 => omega); (case h1 => first | omega | (simp only [List.length_cons, List.length_nil, List.length_map]; omega)); skip)
  | ((with_reducible show W2 _ (rIxL _) _ _ _ _); (refine' w2_ixL ?hs ?hx ?_); (case hs => first | exact lsv_dat | exact lsv_ref um_same | exact lsv_ref (by assumption)); (try (case hx => exact rfl)); skip)
  | ((with_reducible show W2 _ (rIxT _) _ _ _ _); (refine' w2_ixT ?hx ?_); (case hx => exact rfl); skip)
  | ((with_reducible show WL _ (rIsi _) [_, _] _ _); (refine' wl_isi ?hb ?_); (case hb => first | exact isi_bool _ | exact isi_int _ | exact isi_str _ | exact isi_tuple _ | exact isi_list _); skip)
  | ((with_reducible show W _ (tC (V.ty _)) _ _ _); (refine w_raw ?_))
  | ((with_reducible show W _ (tC (V.ref _)) _ _ _); (refine w_raw ?_))
  | ((with_reducible show WSl _ (rSlA _) _ _ _ _ _); (refine wsl_tup ?_))
  | ((with_reducible show WL _ (rTupS _) [Sl.dat (PyData.list _)] _ _); (refine wl_tuple lsv_dat ?_))
  | ((with_reducible show W2 _ (rCatA _) _ _ _ _); (refine' w2_catT ?hl ?_); (try (case hl => walk_at "len")); skip)
  | ((with_reducible show WL _ _ [_] _ _); (refine' wl_lenT ?hl ?_); (case hl => exact tpv_dat); skip)
  | ((with_reducible refine' w_fldI ?hv ?hM ?c ?n ?l ?_); (case hv => exact rfl); (case hM => first | assumption | exact um_same); (case c => assumption); (case n => assumption); (case l => walk_at "fl"); skip)
  | ((with_reducible refine' w_dgetI ?hv ?hM ?hx ?_); (case hv => exact rfl); (case hM => first | assumption | exact um_same); (case hx => walk_at "wg"); skip)
  | ((with_reducible refine' ws_fldI ?hv ?c ?n ?_); (case hv => exact rfl); (case c => assumption); (case n => assumption); skip)
  | (with_reducible refine ws_next ?_)
  | ((with_reducible show WS _ Ends.nx _ _ _); (refine ws_next ?_))
  | (with_reducible refine ite_t rfl ?_)
  | (with_reducible refine ite_f rfl ?_)
  | ((with_reducible refine' ite_t ?hb ?_); (case hb => decide +kernel); skip)
  | ((with_reducible refine' ite_f ?hb ?_); (case hb => decide +kernel); skip)
  | ((with_reducible show ∃ b : Bool, _ = Sl.bl b ∧ _); (with_reducible refine ⟨_, rfl, ?_⟩))
  | ((with_reducible show ∃ i : Int, _ = Sl.int i ∧ _); (with_reducible refine ⟨_, rfl, ?_⟩))
  | ((with_reducible show List.length _ ≤ 100000 ∧ _); (refine ⟨(by simp), ?_⟩))
  | ((with_reducible show ∃ ds : List PyData, datsOf _ = some ds ∧ _); (refine ⟨_, rfl, ?_⟩))))
local macro_rules | `(tactic| walk_at "e") => `(tactic| repeat (first | (with_reducible refine ws_seq ?_) | (walk_at "1")))
local macro_rules | `(tactic| walk_at "g") => `(tactic| repeat (first | (walk_at "1") | ((with_reducible refine w_lstI (wa_cons ?_)); (repeat (walk_at "1")); (with_reducible show ∃ ns : List Int, itemsI _ = some ns ∧ _); (refine ⟨_, rfl, ?_⟩)) | (with_reducible refine w_lstD ?_)))
local macro_rules | `(tactic| walk_at "f") => `(tactic| repeat (first | (with_reducible refine ws_seq ?_) | (walk_at "1") | ((with_reducible refine w_lstI (wa_cons ?_)); (repeat (walk_at "1")); (with_reducible show ∃ ns : List Int, itemsI _ = some ns ∧ _); (refine ⟨_, rfl, ?_⟩)) | (with_reducible refine w_lstD ?_)))
local macro_rules | `(tactic| walk_at "k") => `(tactic| first | dsimp only [cxOf, Cx.nox, Cx.wish] | skip)

local macro_rules | `(tactic| walk_at "fl") => `(tactic| with_reducible first | exact sl_r _ | exact sl_f _ | exact sl_u _ | exact sl_n _)

section
variable {P : Program} {w : World} {K : PySem.W.Frag} {mg : Str → Option Value} {base : Heap} {a : AD} {d : FD}
def kvG {β : Type} (f : β → PyData) (L : List (Str × β)) : List (Key × Sl) := L.map fun p => ((.inr p.1 : Key), .dat (f p.2))
theorem kvG_put {β : Type} (f : β → PyData) (L : List (Str × β)) (n : Str) (x : β) : putG (kvG f L) (.inr n) (.dat (f x)) = kvG f (putG L n x) := putG_inr (fun y => Sl.dat (f y)) n x L
theorem kvG_val {β : Type} (f : β → PyData) (L : List (Str × β)) (n : Str) : valG (kvG f L) (.inr n) = (valG L n).map fun y => .dat (f y) := valG_inr (fun y => Sl.dat (f y)) n L
theorem valG_val2 {β : Type} (f : β → PyData) : ∀ (L : List (Str × β)) (n : Str), valG (L.map fun p => (p.1, f p.2)) n = (valG L n).map f
  | [], _ => rfl
  | (a, x) :: r, n => by
    rw [List.map_cons, valG_cons, valG_cons, valG_val2 f r n]
    by_cases e : a = n
    · rw [if_pos e, if_pos e]; rfl
    · rw [if_neg e, if_neg e]
theorem kvG_E {β : Type} (f : β → PyData) (L : List (Str × β)) : kvG f L = kvE (L.map fun p => (p.1, f p.2)) := by unfold kvG kvE; rw [List.map_map]; rfl
abbrev rowsD (rs : List (List Val)) : PyData := .list (rs.map encR)
/-- the law's four dicts -/
structure D4 (M M' : MH) (r f u n : Addr) (LR : List (Str × Int)) (LF : List (Str × List (List Val))) (LU : List (Str × Rul)) (LD : List (Str × List Lit)) : Prop where
  hr : M' r = some (.dK (kvG PyData.int LR))
  hf : M' f = some (.dK (kvG rowsD LF))
  hu : M' u = some (.dK (kvG Rul.enc LU))
  hn : M' n = some (.dK (kvG encB LD))
  ne : r ≠ f ∧ r ≠ u ∧ r ≠ n ∧ f ≠ u ∧ f ≠ n ∧ u ≠ n
  ext : ∀ b v, M b = some v → M' b = some v
  fr : M r = none ∧ M f = none ∧ M u = none ∧ M n = none
section
variable {M M' : MH} {r f u n : Addr} {LR : List (Str × Int)} {LF : List (Str × List (List Val))} {LU : List (Str × Rul)} {LD : List (Str × List Lit)}
theorem D4.putR (h : D4 M M' r f u n LR LF LU LD) (x : List (Str × Int)) : D4 M (Ab.um M' r (.dK (kvG PyData.int x))) r f u n x LF LU LD := by
  obtain ⟨n1, n2, n3, n4, n5, n6⟩ := h.ne
  exact ⟨um_same, by rw [um_ne n1.symm]; exact h.hf, by rw [um_ne n2.symm]; exact h.hu, by rw [um_ne n3.symm]; exact h.hn, h.ne, fun b v hb => by rw [um_ne fun z => by rw [z, h.fr.1] at hb; cases hb]; exact h.ext b v hb, h.fr⟩
theorem D4.putF (h : D4 M M' r f u n LR LF LU LD) (x : List (Str × List (List Val))) : D4 M (Ab.um M' f (.dK (kvG rowsD x))) r f u n LR x LU LD := by
  obtain ⟨n1, n2, n3, n4, n5, n6⟩ := h.ne
  exact ⟨by rw [um_ne n1]; exact h.hr, um_same, by rw [um_ne n4.symm]; exact h.hu, by rw [um_ne n5.symm]; exact h.hn, h.ne, fun b v hb => by rw [um_ne fun z => by rw [z, h.fr.2.1] at hb; cases hb]; exact h.ext b v hb, h.fr⟩
theorem D4.putU (h : D4 M M' r f u n LR LF LU LD) (x : List (Str × Rul)) : D4 M (Ab.um M' u (.dK (kvG Rul.enc x))) r f u n LR LF x LD := by
  obtain ⟨n1, n2, n3, n4, n5, n6⟩ := h.ne
  exact ⟨by rw [um_ne n2]; exact h.hr, by rw [um_ne n4]; exact h.hf, um_same, by rw [um_ne n6.symm]; exact h.hn, h.ne, fun b v hb => by rw [um_ne fun z => by rw [z, h.fr.2.2.1] at hb; cases hb]; exact h.ext b v hb, h.fr⟩
theorem D4.putN (h : D4 M M' r f u n LR LF LU LD) (x : List (Str × List Lit)) : D4 M (Ab.um M' n (.dK (kvG encB x))) r f u n LR LF LU x := by
  obtain ⟨n1, n2, n3, n4, n5, n6⟩ := h.ne
  exact ⟨by rw [um_ne n3]; exact h.hr, by rw [um_ne n5]; exact h.hf, by rw [um_ne n6]; exact h.hu, um_same, h.ne, fun b v hb => by rw [um_ne fun z => by rw [z, h.fr.2.2.2] at hb; cases hb]; exact h.ext b v hb, h.fr⟩
end
theorem putLen {β : Type} {L : List (Str × β)} {n : Str} {x : β} {k : Nat} (h : L.length ≤ k) : (putG L n x).length ≤ k + 1 := Nat.le_trans (putG_len L n x) (by omega)
def A_isstate (C : Addr) : ASp := fun ss M Q => ∃ A c os, ss = [.raw (.ref (SA.o A)), .dat (.list (List.map Item.enc os))] ∧ SeAt C M A c ∧ CtOk c ∧ Ct.small c ∧ Like c os ∧ (∀ x ∈ os, Item.ok x) ∧ os.length ≤ 400 ∧ ∀ M', (∀ b u, M b = some u → M' b = some u) → Q (.bl true) M'
theorem rul_okD {n : Str} {r : Rul} (h : (Item.rule n r.rel r.hd r.b).ok) : okD 8 r.enc = true := okD_mkT (by simp) (okAll_cons (okD_good h.2.1) (okAll_cons (okTs_okD (n := 5) h.2.2.1) (okAll_cons (okB_okD (n := 3) h.2.2.2) rfl)))
theorem ok_isstate (T : Txt K mg a d) : FnOk P w K mg base CX0 11 a.law_is_state d.law_is_state ["_law_actual", "_law_ordered"] (conc K (A_isstate a.State)) := by
  have cl := T.cl_State
  have n1 := T.na_State_relations
  have n2 := T.na_State_facts
  have n3 := T.na_State_rules
  have n4 := T.na_State_denials
  have G_State_all_items := ok_items (P := P) (w := w) (base := base) T
  have G_law_is_dict := ok_isdict (P := P) (w := w) (base := base) T
  have S1 := (ok_sameN (P := P) (w := w) (base := base) T 9)
  have S2 := (ok_sameM (P := P) (w := w) (base := base) T 7)
  have G_law_same : FnOk P w K mg base CX0 9 a.law_same d.law_same ["_law_actual", "_law_expected"] (conc K (orA (A_sameN 9) (A_sameM 7))) := fn_or S1 S2
  refine ab_ok T.F_law_is_state sc_law_is_state (fun ss M Q ⟨A, c, os, e, _⟩ => by subst e; rfl) fun cdv Ar outer s H E hr => ?_
  have hu64 := hr.units
  refine ⟨_, (pss_cons (ps_asg (pe_tup (pa_cons pe_dnewK (pa_cons pe_dnewK (pa_cons pe_dnewK (pa_cons pe_dnewK pa_nil))))) (pg_tupK (K := K) (n := 4) rfl rfl (pgs_cons (pg_name (i := 2) sc_law_is_state.nd rfl (Or.inl rfl)) (pgs_cons (pg_name (i := 3) sc_law_is_state.nd rfl (Or.inl rfl)) (pgs_cons (pg_name (i := 4) sc_law_is_state.nd rfl (Or.inl rfl)) (pgs_cons (pg_name (i := 5) sc_law_is_state.nd rfl (Or.inl rfl)) pgs_nil))))))
  (pss_cons (ps_for PassesOwn.never rfl (pi_list (pv 1)) (pg_name (i := 6) sc_law_is_state.nd rfl (Or.inl rfl)) (pss_one (ps_if (pt_cmpR (r := rEqD K) (op_eqD hu64) (pe_ix (r := rIxT K) ix_tup (pv 6) pe_int (fun _ _ => rfl)) pe_str (nomark _)) (pss_cons (ps_dput (hu1 hu64) (pv 2) (pe_ix (r := rIxT K) ix_tup (pv 6) pe_int (fun _ _ => rfl)) (pe_ix (r := rIxT K) ix_tup (pv 6) pe_int (fun _ _ => rfl)) rfl)
  (pss_one (ps_dput (hu1 hu64) (pv 3) (pe_ix (r := rIxT K) ix_tup (pv 6) pe_int (fun _ _ => rfl)) (pe_lst pa_nil) rfl))) pss_nil)))
  (pss_cons (ps_for PassesOwn.never rfl (pi_list (pv 1)) (pg_name (i := 6) sc_law_is_state.nd rfl (Or.inl rfl)) (pss_cons (ps_if (pt_cmpR (r := rEqD K) (op_eqD hu64) (pe_ix (r := rIxT K) ix_tup (pv 6) pe_int (fun _ _ => rfl)) pe_str (nomark _)) (pss_one (ps_dput (hu1 hu64) (pv 3) (pe_ix (r := rIxT K) ix_tup (pv 6) pe_int (fun _ _ => rfl)) (pe_op (r := rCatL K) op_catL (pe_dget2 (hu1 hu64) (pv 3) (pe_ix (r := rIxT K) ix_tup (pv 6) pe_int (fun _ _ => rfl)) (pe_lst pa_nil) ⟨rfl, rfl, rfl, rfl⟩) (pe_lst (pa_cons (pe_ix (r := rIxT K) ix_tup (pv 6) pe_int (fun _ _ => rfl)) pa_nil))) rfl)) pss_nil)
  (pss_cons (ps_if (pt_cmpR (r := rEqD K) (op_eqD hu64) (pe_ix (r := rIxT K) ix_tup (pv 6) pe_int (fun _ _ => rfl)) pe_str (nomark _)) (pss_one (ps_dput (hu1 hu64) (pv 4) (pe_ix (r := rIxT K) ix_tup (pv 6) pe_int (fun _ _ => rfl)) (pe_slice (r := rSlA K) sl_tupA (pv 6) (po_some pe_int) po_none) rfl)) pss_nil)
  (pss_one (ps_if (pt_cmpR (r := rEqD K) (op_eqD hu64) (pe_ix (r := rIxT K) ix_tup (pv 6) pe_int (fun _ _ => rfl)) pe_str (nomark _)) (pss_one (ps_dput (hu1 hu64) (pv 5) (pe_ix (r := rIxT K) ix_tup (pv 6) pe_int (fun _ _ => rfl)) (pe_ix (r := rIxT K) ix_tup (pv 6) pe_int (fun _ _ => rfl)) rfl)) pss_nil)))))
  (pss_cons (ps_if (PW.pt (pw_or (pt_not (pt_val (pe_call G_law_is_dict (hr.mono (by omega)) (by rfl) T.g_law_is_dict T.F_law_is_dict.kp T.b_law_is_dict .nil pass0 (pa_cons (pe_fld (pv 0) rfl) (pa_cons (pv 2) pa_nil))))) (pw_or1 (pt_not (pt_val (pe_call G_law_is_dict (hr.mono (by omega)) (by rfl) T.g_law_is_dict T.F_law_is_dict.kp T.b_law_is_dict .nil pass0 (pa_cons (pe_fld (pv 0) rfl) (pa_cons (pv 3) pa_nil)))))))) (pss_one (ps_ret pe_bl)) pss_nil)
  (pss_cons (ps_if (PW.pt (pw_or (pt_not (pt_val (pe_call G_law_is_dict (hr.mono (by omega)) (by rfl) T.g_law_is_dict T.F_law_is_dict.kp T.b_law_is_dict .nil pass0 (pa_cons (pe_fld (pv 0) rfl) (pa_cons (pv 4) pa_nil))))) (pw_or1 (pt_not (pt_val (pe_call G_law_is_dict (hr.mono (by omega)) (by rfl) T.g_law_is_dict T.F_law_is_dict.kp T.b_law_is_dict .nil pass0 (pa_cons (pe_fld (pv 0) rfl) (pa_cons (pv 5) pa_nil)))))))) (pss_one (ps_ret pe_bl)) pss_nil)
  (pss_one (ps_ret (pe_call G_law_same (hr.mono (by omega)) (by rfl) T.g_law_same T.F_law_same.kp T.b_law_same .nil pass0 (pa_cons (pe_meth0 (pv 0) T.cl_State T.m_State_all_items G_State_all_items (hr.mono (by omega)) T.b_State_all_items .nil pass0) (pa_cons (pv 1) pa_nil)))))))))), ?_⟩
  rintro ss M Q ⟨A, c, os, rfl, h, hc, hsm, lk, hok, hl, q⟩
  walk_at "k"
  show WS K _ [some (.raw (.ref A.o)), some (.dat (.list (os.map Item.enc))), none, none, none, none, none] M _
  refine ws_seq (ws_asg (w_tupS (wa_cons (w_dnew fun r h1 => wa_cons (w_dnew fun f h2 => wa_cons (w_dnew fun u h3 => wa_cons (w_dnew fun n h4 => wa_nil ⟨by simp, ?_⟩)))))))
  obtain ⟨f1, h2'⟩ : f ≠ r ∧ M f = none := by
    have hn : f ≠ r := fun e => by rw [e, um_same] at h2; cases h2
    exact ⟨hn, by rw [um_ne hn] at h2; exact h2⟩
  obtain ⟨u1, u2, h3'⟩ : u ≠ f ∧ u ≠ r ∧ M u = none := by
    have hn : u ≠ f := fun e => by rw [e, um_same] at h3; cases h3
    rw [um_ne hn] at h3
    have hn2 : u ≠ r := fun e => by rw [e, um_same] at h3; cases h3
    rw [um_ne hn2] at h3
    exact ⟨hn, hn2, h3⟩
  obtain ⟨m1, m2, m3, h4'⟩ : n ≠ u ∧ n ≠ f ∧ n ≠ r ∧ M n = none := by
    have hn : n ≠ u := fun e => by rw [e, um_same] at h4; cases h4
    rw [um_ne hn] at h4
    have hn2 : n ≠ f := fun e => by rw [e, um_same] at h4; cases h4
    rw [um_ne hn2] at h4
    have hn3 : n ≠ r := fun e => by rw [e, um_same] at h4; cases h4
    rw [um_ne hn3] at h4
    exact ⟨hn, hn2, hn3, h4⟩
  have D0 : D4 M (Ab.um (Ab.um (Ab.um (Ab.um M r (.dK [])) f (.dK [])) u (.dK [])) n (.dK [])) r f u n [] [] [] [] := by
    refine ⟨?_, ?_, ?_, um_same, ⟨f1.symm, u2.symm, m3.symm, u1.symm, m2.symm, m1.symm⟩, fun b v hb => ?_, h1, h2', h3', h4'⟩
    · rw [um_ne m3.symm, um_ne u2.symm, um_ne f1.symm, um_same]; rfl
    · rw [um_ne m2.symm, um_ne u1.symm, um_same]; rfl
    · rw [um_ne m1.symm, um_same]; rfl
    · have b1 : b ≠ r := fun z => by rw [z, h1] at hb; cases hb
      have b2 : b ≠ f := fun z => by rw [z, h2'] at hb; cases hb
      have b3 : b ≠ u := fun z => by rw [z, h3'] at hb; cases hb
      have b4 : b ≠ n := fun z => by rw [z, h4'] at hb; cases hb
      rw [um_ne b4, um_ne b3, um_ne b2, um_ne b1]
      exact hb
  generalize Ab.um (Ab.um (Ab.um (Ab.um M r (.dK [])) f (.dK [])) u (.dK [])) n (.dK []) = N0 at D0
  refine wg_tupS rfl (wgs_cons (wg_name (wgs_cons (wg_name (wgs_cons (wg_name (wgs_cons (wg_name (wgs_nil ?_)))))))))
  show WS K _ [some (.raw (.ref A.o)), some (.dat (.list (os.map Item.enc))), some (.raw (.ref r)), some (.raw (.ref f)), some (.raw (.ref u)), some (.raw (.ref n)), none] N0 _
  refine ws_seq (ws_forD (xs := os) (enc := Item.enc) (M1 := N0) (w_var rfl ⟨rfl, rfl⟩)
    (fun pre ρ' M' => (∃ y, ρ' = [some (.raw (.ref A.o)), some (.dat (.list (os.map Item.enc))), some (.raw (.ref r)), some (.raw (.ref f)), some (.raw (.ref u)), some (.raw (.ref n)), y]) ∧ D4 M M' r f u n (lR pre) (lF1 pre) [] [] ∧ (lR pre).length ≤ pre.length ∧ (lF1 pre).length ≤ pre.length ∧ ∀ z, ((valG (lF1 pre) z).getD []).length = 0) ⟨⟨none, rfl⟩, D0, Nat.le_refl _, Nat.le_refl _, fun _ => rfl⟩ ?_ ?_)
  · rintro pre x post ρ' M' hx ⟨⟨y, rfl⟩, D, lr, lf, lz⟩
    have hpl : pre.length < os.length := by rw [hx, List.length_append, List.length_cons]; omega
    have eR : lR (pre ++ [x]) = stR (lR pre) x := fold_snoc _ _ _ _
    have eF : lF1 (pre ++ [x]) = stF1 (lF1 pre) x := fold_snoc _ _ _ _
    rw [eR, eF, List.length_append]
    refine wg_name ?_
    cases x with
    | relation z v =>
      walk_at "f"
      refine ws_dput ?_
      walk_at "f"
      refine ⟨r, _, .inr z, rfl, rfl, D.hr, by unfold kvG; rw [List.length_map]; omega, ?_⟩
      have D1 := D.putR (putG (lR pre) z v)
      rw [← kvG_put PyData.int] at D1
      refine ws_dput ?_
      walk_at "f"
      refine ⟨f, _, .inr z, rfl, rfl, D1.hf, by unfold kvG; rw [List.length_map]; omega, ?_⟩
      have D2 := D1.putF (putG (lF1 pre) z [])
      rw [← kvG_put rowsD] at D2
      refine ⟨⟨_, rfl⟩, D2, putLen lr, putLen lf, fun z' => ?_⟩
      show ((valG (putG (lF1 pre) z []) z').getD []).length = 0
      rw [valG_put]
      split
      · rfl
      · exact lz z'
    | fact z row =>
      walk_at "f"
      exact ⟨⟨_, rfl⟩, D, Nat.le_succ_of_le lr, Nat.le_succ_of_le lf, lz⟩
    | rule z rel hd b =>
      walk_at "f"
      exact ⟨⟨_, rfl⟩, D, Nat.le_succ_of_le lr, Nat.le_succ_of_le lf, lz⟩
    | denial z b =>
      walk_at "f"
      exact ⟨⟨_, rfl⟩, D, Nat.le_succ_of_le lr, Nat.le_succ_of_le lf, lz⟩
  rintro ρ' N1 ⟨⟨y, rfl⟩, D, lr, lf, lz⟩
  refine ws_seq (ws_forD (xs := os) (enc := Item.enc) (M1 := N1) (w_var rfl ⟨rfl, rfl⟩)
    (fun pre ρ' M' => (∃ y, ρ' = [some (.raw (.ref A.o)), some (.dat (.list (os.map Item.enc))), some (.raw (.ref r)), some (.raw (.ref f)), some (.raw (.ref u)), some (.raw (.ref n)), y]) ∧ D4 M M' r f u n (lR os) (lF2 (lF1 os) pre) (lU pre) (lD pre) ∧ (lF2 (lF1 os) pre).length ≤ os.length + pre.length ∧ (lU pre).length ≤ pre.length ∧ (lD pre).length ≤ pre.length ∧ ∀ z, ((valG (lF2 (lF1 os) pre) z).getD []).length ≤ pre.length) ⟨⟨y, rfl⟩, D, lf, Nat.le_refl _, Nat.le_refl _, fun z => Nat.le_of_eq (lz z)⟩ ?_ ?_)
  · rintro pre x post ρ' M' hx ⟨⟨y, rfl⟩, D, lf, lu, ld, lz⟩
    have hpl : pre.length < os.length := by rw [hx, List.length_append, List.length_cons]; omega
    have eF : lF2 (lF1 os) (pre ++ [x]) = stF2 (lF2 (lF1 os) pre) x := fold_snoc _ _ _ _
    have eU : lU (pre ++ [x]) = stU (lU pre) x := fold_snoc _ _ _ _
    have eD : lD (pre ++ [x]) = stD (lD pre) x := fold_snoc _ _ _ _
    rw [eF, eU, eD, List.length_append]
    generalize lF2 (lF1 os) pre = LF at D lf lz
    refine wg_name ?_
    cases x with
    | relation z v =>
      walk_at "f"
      exact ⟨⟨_, rfl⟩, D, Nat.le_succ_of_le lf, Nat.le_succ_of_le lu, Nat.le_succ_of_le ld, fun z => Nat.le_succ_of_le (lz z)⟩
    | fact z row =>
      walk_at "f"
      have ev : (valG (kvG rowsD LF) (.inr z)).getD (.dat (.list [])) = .dat (.list (((valG LF z).getD []).map encR)) := by
        rw [kvG_val]
        cases valG LF z <;> rfl
      refine ws_dput (w_op (w_dget2 (w_var rfl ⟨⟨_, dcv_ref D.hf⟩, w_op (w_var rfl (w_int (w2_ixT rfl (w_lstD (wa_nil ⟨[], rfl, by simp, kvG rowsD LF, .inr z, dcv_ref D.hf, rfl, ?_⟩)))))⟩)))
      rw [ev]
      walk_at "f"
      refine w2_cat lsv_dat lsv_dat (by rw [List.length_map]; simp; have := lz z; omega) ?_
      walk_at "f"
      refine ⟨f, _, .inr z, rfl, rfl, D.hf, by unfold kvG; rw [List.length_map]; omega, ?_⟩
      have D1 := D.putF (putG LF z ((valG LF z).getD [] ++ [row]))
      rw [← kvG_put rowsD] at D1
      have er : rowsD ((valG LF z).getD [] ++ [row]) = .list (((valG LF z).getD []).map encR ++ [encR row]) := by unfold rowsD; rw [List.map_append]; rfl
      rw [er] at D1
      walk_at "f"
      refine ⟨⟨_, rfl⟩, D1, putLen lf, Nat.le_succ_of_le lu, Nat.le_succ_of_le ld, fun z' => ?_⟩
      show ((valG (putG LF z ((valG LF z).getD [] ++ [row])) z').getD []).length ≤ pre.length + 1
      rw [valG_put]
      split
      · show ((valG LF z).getD [] ++ [row]).length ≤ _
        rw [List.length_append]
        have := lz z
        simp
        omega
      · exact Nat.le_succ_of_le (lz z')
    | rule z rel hd b =>
      walk_at "f"
      refine ws_dput ?_
      walk_at "f"
      refine ⟨u, _, .inr z, rfl, rfl, D.hu, by unfold kvG; rw [List.length_map]; omega, ?_⟩
      have D1 := D.putU (putG (lU pre) z ⟨rel, hd, b⟩)
      rw [← kvG_put Rul.enc] at D1
      walk_at "f"
      exact ⟨⟨_, rfl⟩, D1, Nat.le_succ_of_le lf, putLen lu, Nat.le_succ_of_le ld, fun z => Nat.le_succ_of_le (lz z)⟩
    | denial z b =>
      walk_at "f"
      refine ws_dput ?_
      walk_at "f"
      refine ⟨n, _, .inr z, rfl, rfl, D.hn, by unfold kvG; rw [List.length_map]; omega, ?_⟩
      have D1 := D.putN (putG (lD pre) z b)
      rw [← kvG_put encB] at D1
      exact ⟨⟨_, rfl⟩, D1, Nat.le_succ_of_le lf, Nat.le_succ_of_le lu, putLen ld, fun z => Nat.le_succ_of_le (lz z)⟩
  rintro ρ' N2 ⟨⟨y, rfl⟩, D, lf, lu, ld, lz⟩
  have hN := h.ext D.ext
  obtain ⟨d1, d2, d3, d4⟩ := D.fr
  have ow : ∀ b v, M b = some v → ∀ z, M z = none → b ≠ z := fun b v hb z hz e => by rw [e, hz] at hb; cases hb
  have ho := hN.ho
  have hM : ∀ M', (∀ b v, M b = some v → M' b = some v) → Q (.bl true) M' := q
  walk_at "f"
  refine ⟨A.r, r, kvR c, (lR os).map (fun p => (p.1, .int p.2)), rfl, ow _ _ h.hr _ d1, hN.hr, by rw [← kvG_E]; exact D.hr, by unfold kvR; rw [List.length_map, List.length_map]; exact lk.r.1, by rw [List.length_map]; omega, fun z x hx => ?_, ?_⟩
  · have e1 := valG_val2 PyData.int (lR os) z
    rw [hx] at e1
    cases ev : valG (lR os) z with
    | none => rw [ev] at e1; cases e1
    | some v =>
      rw [ev] at e1
      cases e1
      have e2 := lk.r.2 z v ev
      have e3 := valG_inr (fun i : Int => Sl.int i) z c.rel
      rw [e2] at e3
      exact ⟨_, e3, .inl ⟨rfl, rfl⟩⟩
  walk_at "f"
  refine ⟨A.f, f, kvF A, (lF2 (lF1 os) os).map (fun p => (p.1, rowsD p.2)), rfl, ow _ _ h.hf _ d2, hN.hf, by rw [← kvG_E]; exact D.hf, ?_, by rw [List.length_map]; omega, fun z x hx => ?_, ?_⟩
  · unfold kvF
    rw [List.length_map, List.length_map, ← List.length_map (f := (·.1)), h.keys, List.length_map]
    exact lk.f.1
  · have e1 := valG_val2 rowsD (lF2 (lF1 os) os) z
    rw [hx] at e1
    cases ev : valG (lF2 (lF1 os) os) z with
    | none => rw [ev] at e1; cases e1
    | some v =>
      rw [ev] at e1
      cases e1
      have e2 := lk.f.2 z v ev
      obtain ⟨ad, ha⟩ := valG_of (kvs := A.fa) (n := z) (by rw [h.keys]; exact List.mem_map.mpr ⟨_, valG_mem e2, rfl⟩)
      have e3 := valG_inr (fun p : Addr => Sl.raw (.ref p)) z A.fa
      rw [ha] at e3
      have e4 : rowsOf c z = v := by unfold rowsOf; rw [e2]; rfl
      have hrow := hN.rows z ad ha
      rw [e4] at hrow
      have hcr := hc.row (n := z)
      rw [e4] at hcr
      refine ⟨_, e3, .inr ⟨ad, v.map encR, rfl, rfl, by rw [List.map_map]; exact hrow, okD_mkL (by rw [List.length_map]; omega) (okAll_of fun d hd => ?_)⟩⟩
      obtain ⟨row, hr, rfl⟩ := List.mem_map.mp hd
      exact okR_okD (n := 6) (hcr.1 row hr).1
  walk_at "f"
  refine ⟨A.u, u, kvU c, (lU os).map (fun p => (p.1, p.2.enc)), rfl, ow _ _ h.hu _ d3, hN.hu, by rw [← kvG_E]; exact D.hu, by unfold kvU; rw [List.length_map, List.length_map]; exact lk.u.1, by rw [List.length_map]; omega, fun z x hx => ?_, ?_⟩
  · have e1 := valG_val2 Rul.enc (lU os) z
    rw [hx] at e1
    cases ev : valG (lU os) z with
    | none => rw [ev] at e1; cases e1
    | some v =>
      rw [ev] at e1
      cases e1
      have e2 := lk.u.2 z v ev
      have e3 := valG_inr (fun r : Rul => Sl.dat r.enc) z c.rul
      rw [e2] at e3
      exact ⟨_, e3, .inl ⟨rfl, rul_okD (hc.rul _ (valG_mem e2))⟩⟩
  walk_at "f"
  refine ⟨A.n, n, kvN c, (lD os).map (fun p => (p.1, encB p.2)), rfl, ow _ _ h.hn _ d4, hN.hn, by rw [← kvG_E]; exact D.hn, by unfold kvN; rw [List.length_map, List.length_map]; exact lk.d.1, by rw [List.length_map]; omega, fun z x hx => ?_, ?_⟩
  · have e1 := valG_val2 encB (lD os) z
    rw [hx] at e1
    cases ev : valG (lD os) z with
    | none => rw [ev] at e1; cases e1
    | some v =>
      rw [ev] at e1
      cases e1
      have e2 := lk.d.2 z v ev
      have e3 := valG_inr (fun r : List Lit => Sl.dat (encB r)) z c.den
      rw [e2] at e3
      exact ⟨_, e3, .inl ⟨rfl, okB_okD (n := 4) (hc.den _ (valG_mem e2)).2⟩⟩
  walk_at "f"
  refine w_meth (w_var rfl ⟨A.o, A.dx, sfld A, rfl, ho, by kernel_rfl, wa_nil ⟨A, c, rfl, hN, hc, hsm, fun N3 p hp hl3 ext => ?_⟩⟩)
  refine wa_cons (w_var rfl (wa_nil (.inr ⟨p, os.map Item.enc, rfl, ?_, ?_, ?_⟩)))
  · rw [List.map_map, ← lk.items]
    exact hl3
  · refine okD_mkL (by rw [List.length_map]; omega) (okAll_of fun d hd => ?_)
    obtain ⟨it, hi, rfl⟩ := List.mem_map.mp hd
    exact Item.okD (n := 2) (hok it hi)
  · exact q N3 fun b v hb => ext b v (D.ext b v hb)
end
end K03


set_option Elab.async false
set_option linter.all false
set_option maxRecDepth 100000
set_option  maxHeartbeats 4000000
namespace K03
open PySem PyProof.Rows L2 Ab
local macro_rules | `(tactic| walk_at "len") => `(tactic| first | decide | omega | (simp only [List.length_append, List.length_map, List.length_replicate, List.length_cons, List.length_nil, List.length_take, List.length_drop, List.length_reverse, List.length_range]; omega))
local macro_rules | `(tactic| walk_at "str") => `(tactic| first | decide +kernel | exact goodS_ok (by assumption) | assumption)
local macro_rules | `(tactic| walk_at "1") => `(tactic| (first
  | (with_reducible refine ws_set ?_)
  | (with_reducible refine ws_ret ?_)
  | (with_reducible refine ws_if ?_)
  | (with_reducible refine ws_drop ?_)
  | (with_reducible refine w_op ?_)
  | (with_reducible refine w_un ?_)
  | (with_reducible refine w_int ?_)
  | (with_reducible refine w_bl ?_)
  | (with_reducible refine w_non ?_)
  | (with_reducible refine w_str ?_)
  | (with_reducible refine w_cb ?_)
  | (with_reducible refine w_call ?_)
  | (with_reducible refine w_sl ?_)
  | (with_reducible refine w_tupD ?_)
  | (with_reducible refine w_chain ?_)
  | (with_reducible refine w_andV ?_)
  | (with_reducible refine w_orV ?_)
  | (with_reducible refine w_notV ?_)
  | (with_reducible refine wo_none ?_)
  | (with_reducible refine wo_some ?_)
  | (with_reducible refine wa_cons ?_)
  | (with_reducible refine wa_nil ?_)
  | (with_reducible refine wt_test ?_)
  | (with_reducible refine wt_B ?_)
  | (with_reducible refine wt_and ?_)
  | (with_reducible refine wt_or ?_)
  | (with_reducible refine wt_not ?_)
  | (with_reducible refine wt_yes ?_)
  | (with_reducible refine w2_i0 ?_)
  | (with_reducible refine w2_b0 ?_)
  | (with_reducible refine w1_neg ?_)
  | ((with_reducible refine w2_i ?hc ?_); (case hc => first | decide | exact ⟨by decide, by decide⟩ | exact Or.inl ⟨by decide, by decide⟩ | exact Or.inr ⟨by decide, by decide⟩ | exact ⟨by decide, by decide, by decide⟩ | omega); skip)
  | ((with_reducible refine' w_var ?hv ?_); (case hv => exact rfl); skip)
  | ((with_reducible show W2 _ (rEqD _) (Sl.dat (PyData.int _)) (Sl.dat (PyData.int _)) _ _); (refine w2_eqI ?_))
  | ((with_reducible show W2 _ (rNeD _) (Sl.dat (PyData.int _)) (Sl.dat (PyData.int _)) _ _); (refine w2_neI ?_))
  | ((with_reducible show W2 _ (rEqD _) (Sl.dat (PyData.str _)) (Sl.dat (PyData.str _)) _ _); (refine' w2_eqS ?h1 ?h2 ?_); (case h1 => walk_at "str"); (case h2 => walk_at "str"); skip)
  | ((with_reducible show W2 _ (rNeD _) (Sl.dat (PyData.str _)) (Sl.dat (PyData.str _)) _ _); (refine' w2_neS ?h1 ?h2 ?_); (case h1 => walk_at "str"); (case h2 => walk_at "str"); skip)
  | ((with_reducible show W2 _ (rEqD _) _ _ _ _); (refine w2_eq ?ha ?hb ?_); (case ha => first | exact shaped_int _ | exact shaped_bool _ | exact shaped_none); (case hb => first | exact shaped_int _ | exact shaped_bool _ | exact shaped_none); skip)
  | ((with_reducible show W2 _ (rNeD _) _ _ _ _); (refine w2_ne ?ha ?hb ?_); (case ha => first | exact shaped_int _ | exact shaped_bool _ | exact shaped_none); (case hb => first | exact shaped_int _ | exact shaped_bool _ | exact shaped_none); skip)
  | ((with_reducible show W2 _ _ _ _ _ _); (refine w2_isN ?_))
  | ((with_reducible show W2 _ rIsB _ _ _ _); (refine w2_isB ?_))
  | ((with_reducible show W2 _ rNotB _ _ _ _); (refine w2_notB ?_))
  | ((with_reducible show W2 _ _ _ _ _ _); (refine w2_notN ?_))
  | (with_reducible refine wl_lenE ?_)
  | (with_reducible refine wl_lenD ?_)
  | (with_reducible refine wl_lenTD ?_)
  | (with_reducible refine wl_listE ?_)
  | (with_reducible refine wsl_E ?_)
  | ((with_reducible refine' w2_catE ?hl ?_); (try (case hl => walk_at "len")); skip)
  | ((with_reducible refine' w2_rep1 ?h1 ?h2 ?_); (try (case h1 => first | decide | omega)); (try (case h2 => first | decide | omega)); skip)
  | ((with_reducible show WL _ _ [_] _ _); (refine' wl_len ?hl ?_); (case hl => first | exact lsv_dat | exact lsv_ref um_same | exact lsv_ref (by assumption)); skip)
  | ((with_reducible show WL _ _ [_] _ _); (refine' wl_list ?hl ?_); (case hl => first | exact .inl lsv_dat | exact .inl (lsv_ref (by assumption))); skip)
  | ((with_reducible show WSl _ (rSlL _) _ _ _ _ _); (refine' wsl_lst ?hl ?_); (case hl => first | exact lsv_dat | exact lsv_ref um_same | exact lsv_ref (by assumption)); skip)
  | ((with_reducible show WL _ _ [_] _ _); (refine wl_int ?_))
  | ((with_reducible show WL _ _ [_] _ _); (refine wl_intb ?_))
  | ((with_reducible show WL _ _ [_, _] _ _); (refine wl_min ?_))
  | ((with_reducible first | show W2 _ (rIxL _) (Sl.dat (PyData.list (List.cons _ _))) (Sl.dat (PyData.int _)) _ _ | show W2 _ (rIxL _) (Sl.dat (PyData.list (List.map PyData.int (List.cons _ _)))) (Sl.dat (PyData.int _)) _ _); (refine' w2_ixAny ?h0 ?h1 ?_); (case h0 => omega); (case h1 => first | omega | (simp only [List.length_cons, List.length_nil, List.length_map]; omega)); skip)
  | ((with_reducible show W2 _ (rIxL _) _ _ _ _); (refine' w2_ixL ?hs ?hx ?_); (case hs => first | exact lsv_dat | exact lsv_ref um_same | exact lsv_ref (by assumption)); (try (case hx => exact rfl)); skip)
  | ((with_reducible show W2 _ (rIxT _) _ _ _ _); (refine' w2_ixT ?hx ?_); (case hx => exact rfl); skip)
  | ((with_reducible show WL _ (rIsi _) [_, _] _ _); (refine' wl_isi ?hb ?_); (case hb => first | exact isi_bool _ | exact isi_int _ | exact isi_str _ | exact isi_tuple _ | exact isi_list _); skip)
  | ((with_reducible show W _ (tC (V.ty _)) _ _ _); (refine w_raw ?_))
  | ((with_reducible show W _ (tC (V.ref _)) _ _ _); (refine w_raw ?_))
  | ((with_reducible show WSl _ (rSlA _) _ _ _ _ _); (refine wsl_tup ?_))
  | ((with_reducible show WL _ (rTupS _) [Sl.dat (PyData.list _)] _ _); (refine wl_tuple lsv_dat ?_))
  | ((with_reducible show W2 _ (rCatA _) _ _ _ _); (refine' w2_catT ?hl ?_); (try (case hl => walk_at "len")); skip)
  | ((with_reducible show WL _ _ [_] _ _); (refine' wl_lenT ?hl ?_); (case hl => exact tpv_dat); skip)
  | ((with_reducible refine' w_fldI ?hv ?hM ?c ?n ?l ?_); (case hv => exact rfl); (case hM => first | assumption | exact um_same); (case c => assumption); (case n => assumption); (case l => walk_at "fl"); skip)
  | ((with_reducible refine' w_dgetI ?hv ?hM ?hx ?_); (case hv => exact rfl); (case hM => first | assumption | exact um_same); (case hx => walk_at "wg"); skip)
  | ((with_reducible refine' ws_fldI ?hv ?c ?n ?_); (case hv => exact rfl); (case c => assumption); (case n => assumption); skip)
  | (with_reducible refine ws_next ?_)
  | ((with_reducible show WS _ Ends.nx _ _ _); (refine ws_next ?_))
  | (with_reducible refine ite_t rfl ?_)
  | (with_reducible refine ite_f rfl ?_)
  | ((with_reducible refine' ite_t ?hb ?_); (case hb => decide +kernel); skip)
  | ((with_reducible refine' ite_f ?hb ?_); (case hb => decide +kernel); skip)
  | ((with_reducible show ∃ b : Bool, _ = Sl.bl b ∧ _); (with_reducible refine ⟨_, rfl, ?_⟩))
  | ((with_reducible show ∃ i : Int, _ = Sl.int i ∧ _); (with_reducible refine ⟨_, rfl, ?_⟩))
  | ((with_reducible show List.length _ ≤ 100000 ∧ _); (refine ⟨(by simp), ?_⟩))
  | ((with_reducible show ∃ ds : List PyData, datsOf _ = some ds ∧ _); (refine ⟨_, rfl, ?_⟩))))
local macro_rules | `(tactic| walk_at "e") => `(tactic| repeat (first | (with_reducible refine ws_seq ?_) | (walk_at "1")))
local macro_rules | `(tactic| walk_at "g") => `(tactic| repeat (first | (walk_at "1") | ((with_reducible refine w_lstI (wa_cons ?_)); (repeat (walk_at "1")); (with_reducible show ∃ ns : List Int, itemsI _ = some ns ∧ _); (refine ⟨_, rfl, ?_⟩)) | (with_reducible refine w_lstD ?_)))
local macro_rules | `(tactic| walk_at "f") => `(tactic| repeat (first | (with_reducible refine ws_seq ?_) | (walk_at "1") | ((with_reducible refine w_lstI (wa_cons ?_)); (repeat (walk_at "1")); (with_reducible show ∃ ns : List Int, itemsI _ = some ns ∧ _); (refine ⟨_, rfl, ?_⟩)) | (with_reducible refine w_lstD ?_)))
local macro_rules | `(tactic| walk_at "k") => `(tactic| first | dsimp only [cxOf, Cx.nox, Cx.wish] | skip)

local macro_rules | `(tactic| walk_at "fl") => `(tactic| with_reducible first | exact sl_r _ | exact sl_f _ | exact sl_u _ | exact sl_n _)

section
variable {P : Program} {w : World} {K : PySem.W.Frag} {mg : Str → Option Value} {base : Heap} {a : AD} {d : FD}
/-! two data of numbers, texts and tuples -/
theorem ok_sameEN (T : Txt K mg a d) : ∀ n : Nat, FnOk P w K mg base CX0 n a.law_same d.law_same ["_law_actual", "_law_expected"] (conc K (A_sameEN n)) := by
  intro n
  induction n with
  | zero => exact ⟨fun vs H Q E h => by obtain ⟨_, _, _, _, _, _, z, _⟩ := h; exact z.elim, fun A outer s H args us vs Q E _ _ _ _ h => by obtain ⟨_, _, _, _, _, _, z, _⟩ := h; exact z.elim⟩
  | succ n ih =>
    have G_law_same := ih
    refine ab_ok T.F_law_same sc_law_same (fun ss M Q ⟨x, y, e, _⟩ => by subst e; rfl) fun cdv Ar outer s H E hr => ?_
    have hu64 := hr.units
    refine ⟨_, (pss_cons (ps_if (pt_cmpR op_isN (pv 1) pe_non (nomark _)) (pss_one (ps_ret (pe_cmpR op_isN (pv 0) pe_non (nomark _)))) pss_nil)
  (pss_cons (ps_if (pt_val (pe_callB (r := rIsi K) call_isi (by rfl) T.n_isinstance (by decide +kernel) (pa_cons (pv 1) (pa_cons (pe_bltn (v := .ty "bool") (u := .type "bool") (by rfl) T.n_bool (by decide +kernel) rfl) pa_nil)))) (pss_one (ps_ret (pe_and (pe_callB (r := rIsi K) call_isi (by rfl) T.n_isinstance (by decide +kernel) (pa_cons (pv 0) (pa_cons (pe_bltn (v := .ty "bool") (u := .type "bool") (by rfl) T.n_bool (by decide +kernel) rfl) pa_nil))) (pe_one (pe_cmpR (r := rEqD K) (op_eqD hu64) (pv 0) (pv 1) (nomark _)))))) pss_nil)
  (pss_cons (ps_if (pt_val (pe_callB (r := rIsi K) call_isi (by rfl) T.n_isinstance (by decide +kernel) (pa_cons (pv 1) (pa_cons (pe_bltn (v := .ty "int") (u := .type "int") (by rfl) T.n_int (by decide +kernel) rfl) pa_nil)))) (pss_one (ps_ret (pe_and (pe_callB (r := rIsi K) call_isi (by rfl) T.n_isinstance (by decide +kernel) (pa_cons (pv 0) (pa_cons (pe_bltn (v := .ty "int") (u := .type "int") (by rfl) T.n_int (by decide +kernel) rfl) pa_nil))) (pe_and (pe_not (pe_callB (r := rIsi K) call_isi (by rfl) T.n_isinstance (by decide +kernel) (pa_cons (pv 0) (pa_cons (pe_bltn (v := .ty "bool") (u := .type "bool") (by rfl) T.n_bool (by decide +kernel) rfl) pa_nil)))) (pe_one (pe_cmpR (r := rEqD K) (op_eqD hu64) (pv 0) (pv 1) (nomark _))))))) pss_nil)
  (pss_cons (ps_if (pt_val (pe_callB (r := rIsi K) call_isi (by rfl) T.n_isinstance (by decide +kernel) (pa_cons (pv 1) (pa_cons (pe_bltn (v := .ty "str") (u := .type "str") (by rfl) T.n_str (by decide +kernel) rfl) pa_nil)))) (pss_one (ps_ret (pe_and (pe_callB (r := rIsi K) call_isi (by rfl) T.n_isinstance (by decide +kernel) (pa_cons (pv 0) (pa_cons (pe_bltn (v := .ty "str") (u := .type "str") (by rfl) T.n_str (by decide +kernel) rfl) pa_nil))) (pe_one (pe_cmpR (r := rEqD K) (op_eqD hu64) (pv 0) (pv 1) (nomark _)))))) pss_nil)
  (pss_cons (ps_if (PW.pt (pw_and (pt_val (pe_callB (r := rIsi K) call_isi (by rfl) T.n_isinstance (by decide +kernel) (pa_cons (pv 1) (pa_cons (pe_bltn (v := .ty "tuple") (u := .type "tuple") (by rfl) T.n_tuple (by decide +kernel) rfl) pa_nil)))) (pw_and1 (pt_not (pt_val (pe_callB (r := rIsi K) call_isi (by rfl) T.n_isinstance (by decide +kernel) (pa_cons (pv 0) (pa_cons (pe_bltn (v := .ty "tuple") (u := .type "tuple") (by rfl) T.n_tuple (by decide +kernel) rfl) pa_nil)))))))) (pss_one (ps_ret pe_bl)) pss_nil)
  (pss_cons (ps_if (PW.pt (pw_and (pt_val (pe_callB (r := rIsi K) call_isi (by rfl) T.n_isinstance (by decide +kernel) (pa_cons (pv 1) (pa_cons (pe_bltn (v := .ty "list") (u := .type "list") (by rfl) T.n_list (by decide +kernel) rfl) pa_nil)))) (pw_and1 (pt_not (pt_val (pe_callB (r := rIsi K) call_isi (by rfl) T.n_isinstance (by decide +kernel) (pa_cons (pv 0) (pa_cons (pe_bltn (v := .ty "list") (u := .type "list") (by rfl) T.n_list (by decide +kernel) rfl) pa_nil)))))))) (pss_one (ps_ret pe_bl)) pss_nil)
  (pss_cons (ps_if (pt_cmpR (r := rNeD K) (op_neD hu64) (pe_callB (r := rLenS K) call_len_seq (by rfl) T.n_len PySem.boot_len (pa_cons (pv 0) pa_nil)) (pe_callB (r := rLenS K) call_len_seq (by rfl) T.n_len PySem.boot_len (pa_cons (pv 1) pa_nil)) (nomark _)) (pss_one (ps_ret pe_bl)) pss_nil)
  (pss_cons (ps_for PassesOwn.never rfl (pi_range1 rfl T.n_range (pa_cons (pe_callB (r := rLenS K) call_len_seq (by rfl) T.n_len PySem.boot_len (pa_cons (pv 1) pa_nil)) pa_nil)) (pg_name (i := 2) sc_law_same.nd rfl (Or.inl rfl)) (pss_one (ps_if (pt_not (pt_val (pe_call G_law_same (hr.mono (by omega)) (by rfl) T.g_law_same T.F_law_same.kp T.b_law_same .nil pass0 (pa_cons (pe_ix (r := rIx K) ix_seq (pv 0) (pv 2) (fun _ _ => rfl)) (pa_cons (pe_ix (r := rIx K) ix_seq (pv 1) (pv 2) (fun _ _ => rfl)) pa_nil))))) (pss_one (ps_ret pe_bl)) pss_nil)))
  (pss_one (ps_ret pe_bl)))))))))), ?_⟩
    rintro ss M Q ⟨x, y, rfl, hx, hy, tx, ty, q⟩
    walk_at "k"
    show WS K _ [some (.dat x), some (.dat y), none] M _
    cases y with
    | none => cases ty
    | bool b => cases ty
    | list _ => cases ty
    | dict _ => cases ty
    | int j =>
      cases x with
      | none => cases tx
      | bool b => cases tx
      | list _ => cases tx
      | dict _ => cases tx
      | int i =>
        walk_at "e"
        rw [← eqv_int]
        exact q
      | str s =>
        walk_at "e"
        exact q
      | tuple xs =>
        walk_at "e"
        exact q
    | str t =>
      cases x with
      | none => cases tx
      | bool b => cases tx
      | list _ => cases tx
      | dict _ => cases tx
      | int i =>
        walk_at "e"
        exact q
      | str s =>
        have h1 : PyData.strOk s = true := by cases n <;> simpa [okD] using hx
        have h2 : PyData.strOk t = true := by cases n <;> simpa [okD] using hy
        walk_at "e"
        rw [← eqv_str]
        exact q
      | tuple xs =>
        walk_at "e"
        exact q
    | tuple ys =>
      cases x with
      | none => cases tx
      | bool b => cases tx
      | list _ => cases tx
      | dict _ => cases tx
      | int i =>
        walk_at "e"
        exact q
      | str s =>
        walk_at "e"
        exact q
      | tuple xs =>
        cases n with
        | zero => cases hx
        | succ m =>
          obtain ⟨hl, ho⟩ := okD_tuple hx
          obtain ⟨hl2, ho2⟩ := okD_tuple hy
          walk_at "e"
          refine ite_n (fun hne => ?_) (fun hne => ?_)
          · walk_at "e"
            have : PyData.eqv (.tuple xs) (.tuple ys) = false := eqvAll_len fun e => hne (by omega)
            rw [this] at q
            exact q
          have hlen : xs.length = ys.length := by omega
          walk_at "e"
          refine ws_forR1 (n := (ys.length : Int)) (M1 := M) (by walk_at "e"; exact ⟨rfl, rfl⟩) (by omega)
            (fun i ρ' M' => (∃ y, ρ' = [some (.dat (.tuple xs)), some (.dat (.tuple ys)), y] ∧ M' = M) ∧ ∀ j, j < i → PyData.eqv (xs.getD j .none) (ys.getD j .none) = true) ⟨⟨_, rfl, rfl⟩, fun j hj => absurd hj (Nat.not_lt_zero _)⟩ ?_ ?_
          · rintro i ρ' M' hi ⟨⟨y, rfl, rfl⟩, hbef⟩
            have hi' : i < ys.length := by omega
            have hi1 : i < xs.length := by omega
            refine wg_name ?_
            have hat1 : atI xs (i : Int) = some xs[i] := atI_nat (List.getElem?_eq_getElem hi1)
            have hat2 : atI ys (i : Int) = some ys[i] := atI_nat (List.getElem?_eq_getElem hi')
            walk_at "e"
            refine w2_ixDT hat1 ?_
            walk_at "e"
            refine w2_ixDT hat2 ?_
            walk_at "e"
            refine ⟨xs[i], ys[i], rfl, okD_mem ho (List.getElem_mem hi1), okD_mem ho2 (List.getElem_mem hi'), tpd_mem tx (List.getElem_mem hi1), tpd_mem ty (List.getElem_mem hi'), ?_⟩
            have g1 : xs.getD i .none = xs[i] := by rw [List.getD_eq_getElem?_getD, List.getElem?_eq_getElem hi1]; rfl
            have g2 : ys.getD i .none = ys[i] := by rw [List.getD_eq_getElem?_getD, List.getElem?_eq_getElem hi']; rfl
            cases hq : PyData.eqv xs[i] ys[i] with
            | true =>
              walk_at "e"
              refine ⟨⟨_, rfl, rfl⟩, fun j hj => ?_⟩
              rcases Nat.lt_succ_iff_lt_or_eq.mp hj with h | rfl
              · exact hbef j h
              · rw [g1, g2]; exact hq
            | false =>
              walk_at "e"
              have : PyData.eqv (.tuple xs) (.tuple ys) = false := eqvAll_at hlen hi1 (by rw [g1, g2]; exact hq)
              rw [this] at q
              exact q
          · rintro ρ' M' ⟨⟨y, rfl, rfl⟩, hbef⟩
            walk_at "e"
            have : PyData.eqv (.tuple xs) (.tuple ys) = true := eqvAll_all hlen fun j hj => hbef j (by omega)
            rw [this] at q
            exact q

def A_key_of : ASp := fun ss M Q => ∃ it : Item, ss = [.dat it.enc] ∧ Q (.dat (keyOf it).enc) M
theorem ok_key_of (T : Txt K mg a d) : FnOk P w K mg base CX0 1 a.key_of d.key_of ["item"] (conc K A_key_of) := by
  refine ab_ok T.F_key_of sc_key_of (fun ss M Q ⟨v, e, _⟩ => by subst e; rfl) fun cdv Ar outer s H E hr => ?_
  have hu64 := hr.units
  refine ⟨_, (pss_cons (ps_set (i := 1) sc_key_of.nd rfl (Or.inl rfl) (pe_bm PySem.F.plainAttrs_tuple PySem.F.slot_tuple_index PySem.F.type_tuple_index (r := rTIndex K) mt_tup_index (pe_glob (v := .ref a.c_WORDS) (by rfl) T.c_WORDS rfl) (pa_cons (pe_ix (r := rIxT K) ix_tup (pv 0) pe_int (fun _ _ => rfl)) pa_nil)))
  (pss_cons (ps_if (pt_cmpR (r := rEqD K) (op_eqD hu64) (pe_ix (r := rIxT K) ix_tup (pv 0) pe_int (fun _ _ => rfl)) pe_str (nomark _)) (pss_one (ps_ret (pe_tup (pa_cons (pv 1) (pa_cons (pe_ix (r := rIxT K) ix_tup (pv 0) pe_int (fun _ _ => rfl)) (pa_cons (pe_ix (r := rIxT K) ix_tup (pv 0) pe_int (fun _ _ => rfl)) pa_nil)))))) pss_nil)
  (pss_one (ps_ret (pe_tup (pa_cons (pv 1) (pa_cons (pe_ix (r := rIxT K) ix_tup (pv 0) pe_int (fun _ _ => rfl)) (pa_cons (pe_tup pa_nil) pa_nil)))))))), ?_⟩
  rintro ss M Q ⟨it, rfl, q⟩
  walk_at "k"
  show WS K _ [some (.dat it.enc), none] M _
  have words : ∀ (z : Str) (j : Nat), ((["relation", "fact", "rule", "denial"] : List Str)[j]? = some z) → ((["relation", "fact", "rule", "denial"] : List Str).take j).contains z = false → ∀ m, m < j → (["relation", "fact", "rule", "denial"] : List Str)[m]? ≠ some z := by
    intro z j h1 h2 m hm e
    have : z ∈ (["relation", "fact", "rule", "denial"] : List Str).take j := List.mem_iff_getElem?.mpr ⟨m, by rw [List.getElem?_take, if_pos hm]; exact e⟩
    rw [List.contains_eq_mem, decide_eq_false_iff_not] at h2
    exact h2 this
  cases it with
  | relation n x =>
    walk_at "e"
    refine w_bm (w_raw ⟨ty_tupC T.k_WORDS, ?_⟩)
    walk_at "e"
    refine wm_tindex (j := 0) T.k_WORDS (by rfl) (words _ _ (by rfl) (by decide +kernel)) ?_
    walk_at "e"
    exact q
  | fact n row =>
    walk_at "e"
    refine w_bm (w_raw ⟨ty_tupC T.k_WORDS, ?_⟩)
    walk_at "e"
    refine wm_tindex (j := 1) T.k_WORDS (by rfl) (words _ _ (by rfl) (by decide +kernel)) ?_
    walk_at "e"
    exact q
  | rule n rel hd b =>
    walk_at "e"
    refine w_bm (w_raw ⟨ty_tupC T.k_WORDS, ?_⟩)
    walk_at "e"
    refine wm_tindex (j := 2) T.k_WORDS (by rfl) (words _ _ (by rfl) (by decide +kernel)) ?_
    walk_at "e"
    exact q
  | denial n b =>
    walk_at "e"
    refine w_bm (w_raw ⟨ty_tupC T.k_WORDS, ?_⟩)
    walk_at "e"
    refine wm_tindex (j := 3) T.k_WORDS (by rfl) (words _ _ (by rfl) (by decide +kernel)) ?_
    walk_at "e"
    exact q
def A_key_order : ASp := fun ss M Q => ∃ k : IKey, ss = [.dat k.enc] ∧ k.row.length ≤ 100000 ∧ Q (.dat k.ord) M
theorem ok_key_order (T : Txt K mg a d) : FnOk P w K mg base CX0 3 a.key_order d.key_order ["key"] (conc K A_key_order) := by
  have G_row_key : FnOk P w K mg base CX0 2 a.row_key d.row_key ["row"] (conc K A_row_key) := ok_row_key T
  refine ab_ok T.F_key_order sc_key_order (fun ss M Q ⟨v, e, _⟩ => by subst e; rfl) fun cdv Ar outer s H E hr => ⟨_, (pss_cons (ps_asg (pv 0) (pg_tupK (K := K) (n := 3) rfl rfl (pgs_cons (pg_name (i := 1) sc_key_order.nd rfl (Or.inl rfl)) (pgs_cons (pg_name (i := 2) sc_key_order.nd rfl (Or.inl rfl)) (pgs_cons (pg_name (i := 3) sc_key_order.nd rfl (Or.inl rfl)) pgs_nil)))))
  (pss_one (ps_ret (pe_tup (pa_cons (pv 1) (pa_cons (pv 2) (pa_cons (pe_call G_row_key (hr.mono (by omega)) (by rfl) T.g_row_key T.F_row_key.kp T.b_row_key .nil pass0 (pa_cons (pv 3) pa_nil)) pa_nil))))))), ?_⟩
  rintro ss M Q ⟨k, rfl, hl, q⟩
  walk_at "k"
  show WS K _ [some (.dat k.enc), none, none, none] M _
  refine ws_seq (ws_asg ?_)
  walk_at "e"
  refine wg_tup rfl rfl (wgs_cons (wg_name (wgs_cons (wg_name (wgs_cons (wg_name (wgs_nil ?_)))))))
  walk_at "e"
  refine ⟨k.row, rfl, hl, ?_⟩
  walk_at "e"
  exact q

/-! take, change -/
theorem dropG_inr {β γ : Type} (f : β → γ) (z : Str) : ∀ kvs : List (Str × β), dropG (kvs.map fun p => ((.inr p.1 : Key), f p.2)) (.inr z) = (dropG kvs z).map fun p => ((.inr p.1 : Key), f p.2)
  | [] => rfl
  | (b, x) :: r => by
    have ih := dropG_inr f z r
    unfold dropG at ih ⊢
    rw [List.map_cons, List.filter_cons, List.filter_cons, ih]
    by_cases e : b = z
    · subst e; simp
    · have h1 : ¬ (Sum.inr b : Key) = .inr z := fun h => e (Sum.inr.inj h)
      simp [e, h1]
theorem dropG_no {β : Type} {z : Str} : ∀ {kvs : List (Str × β)}, valG kvs z = none → dropG kvs z = kvs
  | [], _ => rfl
  | (b, x) :: r, h => by
    rw [valG_cons] at h
    by_cases e : b = z
    · rw [if_pos e] at h; cases h
    · rw [if_neg e] at h
      have ih := dropG_no h
      unfold dropG at ih ⊢
      rw [List.filter_cons, if_pos (decide_eq_true e), ih]
theorem erase_at {α : Type} [BEq α] [LawfulBEq α] : ∀ {xs : List α} {x : α}, x ∈ xs → ∃ j, xs[j]? = some x ∧ (∀ (m : Nat) z, m < j → xs[m]? = some z → z ≠ x) ∧ xs.eraseIdx j = xs.erase x
  | [], _, h => nomatch h
  | y :: ys, x, h => by
    by_cases e : y = x
    · exact ⟨0, by rw [e]; rfl, fun m z hm => absurd hm (Nat.not_lt_zero _), by rw [e, List.erase_cons_head]; rfl⟩
    · obtain ⟨j, h1, h2, h3⟩ := erase_at ((List.mem_cons.mp h).resolve_left fun z => e z.symm)
      refine ⟨j + 1, h1, fun m z hm hz => ?_, ?_⟩
      · cases m with
        | zero => cases hz; exact e
        | succ m => exact h2 m z (Nat.lt_of_succ_lt_succ hm) hz
      · rw [List.eraseIdx_cons_succ, h3, List.erase_cons_tail (by simpa using e)]
def A_take (C : Addr) : ASp := fun ss M Q => ∃ A c it, ss = [.raw (.ref (SA.o A)), .dat (keyOf it).enc] ∧ SeAt C M A c ∧ CtOk c ∧ it.ok ∧ ∀ M' A', SeAt C M' A' (c.take (keyOf it)) → SFr M M' A A' → Q .non M'
theorem ok_take (T : Txt K mg a d) : FnOk P w K mg base CX0 2 a.State_take d.State_take ["self", "key"] (conc K (A_take a.State)) := by
  have cl := T.cl_State
  have n1 := T.na_State_relations
  have n2 := T.na_State_facts
  have n3 := T.na_State_rules
  have n4 := T.na_State_denials
  have G_State_has : FnOk P w K mg base CX0 1 a.State_has d.State_has ["self", "relation", "row"] (conc K (A_has a.State)) := ok_has T
  refine ab_ok T.F_State_take sc_State_take (fun ss M Q ⟨A, c, it, e, _⟩ => by subst e; rfl) fun cdv Ar outer s H E hr => ?_
  have hu64 := hr.units
  have hu65 := room65 hr
  refine ⟨_, (pss_cons (ps_asg (pv 1) (pg_tupK (K := K) (n := 3) rfl rfl (pgs_cons (pg_name (i := 2) sc_State_take.nd rfl (Or.inl rfl)) (pgs_cons (pg_name (i := 3) sc_State_take.nd rfl (Or.inl rfl)) (pgs_cons (pg_name (i := 4) sc_State_take.nd rfl (Or.inl rfl)) pgs_nil)))))
  (pss_one (ps_if (pt_cmpR (r := rEqD K) (op_eqD hu64) (pv 2) pe_int (nomark _)) (pss_one (ps_expr (pe_dpop2 (pe_fld (pv 0) rfl) (pv 3) pe_non ⟨rfl, rfl, rfl, rfl⟩))) (pss_one (ps_if (pt_cmpR (r := rEqD K) (op_eqD hu64) (pv 2) pe_int (nomark _)) (pss_one (ps_expr (pe_dpop2 (pe_fld (pv 0) rfl) (pv 3) pe_non ⟨rfl, rfl, rfl, rfl⟩))) (pss_one (ps_if (pt_cmpR (r := rEqD K) (op_eqD hu64) (pv 2) pe_int (nomark _)) (pss_one (ps_expr (pe_dpop2 (pe_fld (pv 0) rfl) (pv 3) pe_non ⟨rfl, rfl, rfl, rfl⟩))) (pss_one (ps_if (pt_val (pe_meth (pv 0) T.cl_State T.m_State_has G_State_has (hr.mono (by omega)) T.b_State_has .nil pass0 (pa_cons (pv 3) (pa_cons (pv 4) pa_nil)))) (pss_one (ps_expr (pe_bm PySem.F.plainAttrs_list PySem.F.slot_list_remove PySem.F.type_list_remove (r := rRemD K) (mt_remD hu65) (pe_dget (hu1 hu64) (pe_fld (pv 0) rfl) (pv 3) (fun _ _ => rfl)) (pa_cons (pv 4) pa_nil)))) pss_nil))))))))), ?_⟩
  rintro ss M Q ⟨A, c, it, rfl, h, hc, hit, q⟩
  walk_at "k"
  show WS K _ [some (.raw (.ref A.o)), some (.dat (keyOf it).enc), none, none, none] M _
  have ho := h.ho
  cases it with
  | relation n x =>
    refine ws_seq (ws_asg (w_var rfl (wg_tup rfl rfl (wgs_cons (wg_name (wgs_cons (wg_name (wgs_cons (wg_name (wgs_nil ?_)))))))))) 
    walk_at "f"
    refine w_dpop2 (w_fldI rfl ho cl n1 (sl_r _) ⟨A.r, rfl, ⟨_, h.hr⟩, w_var rfl (w_non ⟨kvR c, .inr n, h.hr, rfl, fun x hx => ?_, fun hx => ?_⟩)⟩)
    · have h2 := h.setR (dropG c.rel n)
      have e : dropG (kvR c) (.inr n) = kvR (c.sRel (dropG c.rel n)) := dropG_inr (fun i : Int => Sl.int i) n c.rel
      rw [e]
      exact q _ A h2 (SFr.um (.inr (.inl rfl)))
    · have e := valG_inr (fun i : Int => Sl.int i) n c.rel
      have hv : valG c.rel n = none := by
        cases hv : valG c.rel n with
        | none => rfl
        | some v => rw [hv] at e; rw [show kvR c = c.rel.map fun p => ((.inr p.1 : Key), Sl.int p.2) from rfl, e] at hx; cases hx
      have ec : c.take (keyOf (.relation n x)) = c := by
        show c.sRel (dropG c.rel n) = c
        rw [dropG_no hv]
        rfl
      rw [ec] at q
      exact q _ A h SFr.refl
  | rule n rel hd b =>
    refine ws_seq (ws_asg (w_var rfl (wg_tup rfl rfl (wgs_cons (wg_name (wgs_cons (wg_name (wgs_cons (wg_name (wgs_nil ?_)))))))))) 
    walk_at "f"
    refine w_dpop2 (w_fldI rfl ho cl n3 (sl_u _) ⟨A.u, rfl, ⟨_, h.hu⟩, w_var rfl (w_non ⟨kvU c, .inr n, h.hu, rfl, fun x hx => ?_, fun hx => ?_⟩)⟩)
    · have h2 := h.setU (dropG c.rul n)
      have e : dropG (kvU c) (.inr n) = kvU (c.sRul (dropG c.rul n)) := dropG_inr (fun r : Rul => Sl.dat r.enc) n c.rul
      rw [e]
      exact q _ A h2 (SFr.um (.inr (.inr (.inr (.inl rfl)))))
    · have e := valG_inr (fun r : Rul => Sl.dat r.enc) n c.rul
      have hv : valG c.rul n = none := by
        cases hv : valG c.rul n with
        | none => rfl
        | some v => rw [hv] at e; rw [show kvU c = c.rul.map fun p => ((.inr p.1 : Key), Sl.dat p.2.enc) from rfl, e] at hx; cases hx
      have ec : c.take (keyOf (.rule n rel hd b)) = c := by
        show c.sRul (dropG c.rul n) = c
        rw [dropG_no hv]
        rfl
      rw [ec] at q
      exact q _ A h SFr.refl
  | denial n b =>
    refine ws_seq (ws_asg (w_var rfl (wg_tup rfl rfl (wgs_cons (wg_name (wgs_cons (wg_name (wgs_cons (wg_name (wgs_nil ?_)))))))))) 
    walk_at "f"
    refine w_dpop2 (w_fldI rfl ho cl n4 (sl_n _) ⟨A.n, rfl, ⟨_, h.hn⟩, w_var rfl (w_non ⟨kvN c, .inr n, h.hn, rfl, fun x hx => ?_, fun hx => ?_⟩)⟩)
    · have h2 := h.setN (dropG c.den n)
      have e : dropG (kvN c) (.inr n) = kvN (c.sDen (dropG c.den n)) := dropG_inr (fun r : List Lit => Sl.dat (encB r)) n c.den
      rw [e]
      exact q _ A h2 (SFr.um (.inr (.inr (.inr (.inr (.inl rfl))))))
    · have e := valG_inr (fun r : List Lit => Sl.dat (encB r)) n c.den
      have hv : valG c.den n = none := by
        cases hv : valG c.den n with
        | none => rfl
        | some v => rw [hv] at e; rw [show kvN c = c.den.map fun p => ((.inr p.1 : Key), Sl.dat (encB p.2)) from rfl, e] at hx; cases hx
      have ec : c.take (keyOf (.denial n b)) = c := by
        show c.sDen (dropG c.den n) = c
        rw [dropG_no hv]
        rfl
      rw [ec] at q
      exact q _ A h SFr.refl
  | fact n row =>
    refine ws_seq (ws_asg (w_var rfl (wg_tup rfl rfl (wgs_cons (wg_name (wgs_cons (wg_name (wgs_cons (wg_name (wgs_nil ?_)))))))))) 
    walk_at "f"
    refine w_meth (w_var rfl ⟨A.o, A.dx, sfld A, rfl, ho, by kernel_rfl, wa_cons (w_var rfl (wa_cons (w_var rfl (wa_nil ⟨A, c, n, row, rfl, h, hc, hit.2.1, ?_⟩))))⟩)
    walk_at "f"
    refine ite_d (fun hin => ?_) (fun hin => ?_)
    · have ec : c.take (keyOf (.fact n row)) = c.sFac (putG c.fac n ((rowsOf c n).erase row)) := if_pos hin
      rw [ec] at q
      obtain ⟨ad, ea⟩ : ∃ ad, valG A.fa n = some ad := by
        cases ea : valG A.fa n with
        | none => rw [h.emp ea] at hin; cases hin
        | some ad => exact ⟨ad, rfl⟩
      have ev : valG (kvF A) (.inr n) = some (.raw (.ref ad)) := by
        have := valG_inr (fun p : Addr => Sl.raw (.ref p)) n A.fa
        rw [ea] at this
        exact this
      have hr1 := h.rows n ad ea
      obtain ⟨h1, h2⟩ := hc.row (n := n)
      obtain ⟨j, j1, j2, j3⟩ := erase_at hin
      walk_at "f"
      refine w_bm (w_dget (w_fldI rfl ho cl n2 (sl_f _) (w_var rfl ⟨kvF A, .inr n, _, dcv_ref h.hf, rfl, ev, ty_lst (lsv_ref hr1), wa_cons (w_var rfl (wa_nil (wm_remD (j := j) (ds := (rowsOf c n).map encR) (by rw [List.map_map]; exact hr1) (rows_shaped h1 h2) (okD_shaped (okR_okD (n := 0) hit.2.1) (by decide)) ⟨encR row, ?_, ?_⟩ (fun m z hm hz => ?_) ?_)))⟩)))
      · rw [List.getElem?_map, j1]; rfl
      · rw [eqv_row]; exact decide_eq_true rfl
      · rw [List.getElem?_map] at hz
        cases hz2 : (rowsOf c n)[m]? with
        | none => rw [hz2] at hz; cases hz
        | some r =>
          rw [hz2] at hz
          cases hz
          rw [eqv_row]
          exact decide_eq_false (j2 m r hm hz2)
      · have h3 := h.setRow ea ((rowsOf c n).erase row)
        rw [← eraseMap, j3, List.map_map]
        unfold rowsM at h3
        exact q _ A h3 (SFr.um (.inr (.inr (.inr (.inr (.inr ⟨n, ea⟩))))))
    · have ec : c.take (keyOf (.fact n row)) = c := if_neg hin
      rw [ec] at q
      walk_at "f"
      exact q _ A h SFr.refl
theorem chgs_snoc (c : Ct) (cs : List Chg) (x : Chg) : chgs c (cs ++ [x]) = (chgs c cs).chg x := by unfold chgs; rw [List.foldl_append]; rfl
def A_change (C : Addr) (K : PySem.W.Frag) : ASp := fun ss M Q => ∃ A c s chs, ss = [.raw (.ref (SA.o A)), s] ∧ LsV K s M (List.map (fun x => Sl.dat (Chg.enc x)) chs) ∧ SeAt C M A c ∧ CtOk c ∧ Ct.small c ∧ InitOk c.items ∧ (∀ x ∈ chs, Chg.ok x) ∧
  (∀ i, i ≤ chs.length → CtOk (chgs (puts c.items).tidy (chs.take i)) ∧ Ct.small (chgs (puts c.items).tidy (chs.take i))) ∧
  ∀ M' A', SeAt C M' A' (chgs (puts c.items).tidy chs).tidy → (∀ b u, M b = some u → M' b = some u ∧ ¬ A'.own b) → Q (.raw (.ref A'.o)) M'
theorem ok_change (T : Txt K mg a d) : FnOk P w K mg base CX0 9 a.State_change d.State_change ["self", "changes"] (conc K (A_change a.State K)) := by
  have cl := T.cl_State
  have G_State_copy := ok_copy (P := P) (w := w) (base := base) T
  have G_State_put := ok_put (P := P) (w := w) (base := base) T
  have G_State_take := ok_take (P := P) (w := w) (base := base) T
  have G_State_tidy := ok_tidy (P := P) (w := w) (base := base) T
  refine ab_ok T.F_State_change sc_State_change (fun ss M Q ⟨A, c, s, chs, e, _⟩ => by subst e; rfl) fun cdv Ar outer s H E hr => ?_
  have hu64 := hr.units
  refine ⟨_, (pss_cons (ps_set (i := 2) sc_State_change.nd rfl (Or.inl rfl) (pe_meth0 (pv 0) T.cl_State T.m_State_copy G_State_copy (hr.mono (by omega)) T.b_State_copy .nil pass0))
  (pss_cons (ps_for PassesOwn.never rfl (pi_list (pv 1)) (pg_tupK (K := K) (n := 2) rfl rfl (pgs_cons (pg_name (i := 3) sc_State_change.nd rfl (Or.inl rfl)) (pgs_cons (pg_name (i := 4) sc_State_change.nd rfl (Or.inl rfl)) pgs_nil))) (pss_one (ps_if (pt_cmpR (r := rEqD K) (op_eqD hu64) (pv 3) pe_str (nomark _)) (pss_one (ps_expr (pe_meth (pv 2) T.cl_State T.m_State_put G_State_put (hr.mono (by omega)) T.b_State_put .nil pass0 (pa_cons (pv 4) pa_nil)))) (pss_one (ps_expr (pe_meth (pv 2) T.cl_State T.m_State_take G_State_take (hr.mono (by omega)) T.b_State_take .nil pass0 (pa_cons (pv 4) pa_nil)))))))
  (pss_cons (ps_expr (pe_meth0 (pv 2) T.cl_State T.m_State_tidy G_State_tidy (hr.mono (by omega)) T.b_State_tidy .nil pass0))
  (pss_one (ps_ret (pv 2)))))), ?_⟩
  rintro ss M Q ⟨A, c, sl, chs, rfl, hls, h, hc, hsm, hi, hok, hst, q⟩
  walk_at "k"
  show WS K _ [some (.raw (.ref A.o)), some sl, none, none, none] M _
  refine ws_seq (ws_set (w_meth (w_var rfl ⟨A.o, A.dx, sfld A, rfl, h.ho, by kernel_rfl, wa_nil ⟨A, c, rfl, h, hc, hsm, hi, fun M1 A1 h1 f1 => ?_⟩⟩)))
  have fl : ∀ {M' : MH}, (∀ b u, M b = some u → M' b = some u) → LsV K sl M' (chs.map fun x => Sl.dat x.enc) := fun e => lsv_fr hls fun b ys hb => e b _ hb
  refine ws_seq (ws_for (wi_list (w_var rfl ⟨_, fl fun b u hb => (f1 b u hb).1, fun i ρ' M' => (∃ y3 y4, ρ' = [some (.raw (.ref A.o)), some sl, some (.raw (.ref A1.o)), y3, y4]) ∧ ∃ A', A'.o = A1.o ∧ SeAt a.State M' A' (chgs (puts c.items).tidy (chs.take i)) ∧ ∀ b u, M b = some u → M' b = some u ∧ ¬ A'.own b, ⟨⟨none, none, rfl⟩, A1, rfl, h1, f1⟩, fun i ρ' M' _ ⟨_, A', _, _, f'⟩ => fl fun b u hb => (f' b u hb).1, ?_, ?_⟩)))
  · rintro i ρ' M' hi2 ⟨⟨y3, y4, rfl⟩, A', eo, h', f'⟩
    have hi' : i < chs.length := by rw [List.length_map] at hi2; exact hi2
    have gi : (chs.map fun x => Sl.dat x.enc).getD i .non = .dat chs[i].enc := by rw [List.getD_eq_getElem?_getD, List.getElem?_map, List.getElem?_eq_getElem hi']; rfl
    have hn : chs.take (i + 1) = chs.take i ++ [chs[i]] := List.take_succ_eq_append_getElem hi'
    obtain ⟨c1, c2⟩ := hst i (Nat.le_of_lt hi')
    have hx := hok _ (List.getElem_mem hi')
    dsimp only
    rw [gi, hn, chgs_snoc]
    rw [← eo]
    generalize chgs (puts c.items).tidy (chs.take i) = c' at h' c1 c2
    have ho' := h'.ho
    cases ex : chs[i] with
    | comes it =>
      rw [ex] at hx
      refine wg_tup (ds := [.str "comes", it.enc]) rfl rfl (wgs_cons (wg_name (wgs_cons (wg_name (wgs_nil ?_)))))
      walk_at "f"
      refine w_meth (w_var rfl ⟨A'.o, A'.dx, sfld A', rfl, ho', by kernel_rfl, wa_cons (w_var rfl (wa_nil ⟨A', c', it, rfl, h', c1, hx, fun M2 A2 h2 f2 => ?_⟩))⟩)
      exact ⟨⟨_, _, rfl⟩, A2, f2.1, h2, fun b u hb => by obtain ⟨z1, z2⟩ := f' b u hb; exact f2.2 b u z1 z2⟩
    | goes it =>
      rw [ex] at hx
      refine wg_tup (ds := [.str "goes", (keyOf it).enc]) rfl rfl (wgs_cons (wg_name (wgs_cons (wg_name (wgs_nil ?_)))))
      walk_at "f"
      refine w_meth (w_var rfl ⟨A'.o, A'.dx, sfld A', rfl, ho', by kernel_rfl, wa_cons (w_var rfl (wa_nil ⟨A', c', it, rfl, h', c1, hx, fun M2 A2 h2 f2 => ?_⟩))⟩)
      exact ⟨⟨_, _, rfl⟩, A2, f2.1, h2, fun b u hb => by obtain ⟨z1, z2⟩ := f' b u hb; exact f2.2 b u z1 z2⟩
  rintro ρ' M' ⟨⟨y3, y4, rfl⟩, A', eo, h', f'⟩
  rw [List.length_map] at h'
  obtain ⟨c1, c2⟩ := hst chs.length (Nat.le_refl _)
  rw [List.take_length] at h' c1 c2
  rw [← eo]
  refine ws_seq (ws_drop (w_meth (w_var rfl ⟨A'.o, A'.dx, sfld A', rfl, h'.ho, by kernel_rfl, wa_nil ⟨A', _, rfl, h', c1, c2, fun M2 A2 h2 f2 => ?_⟩⟩)))
  have e2 : A2.o = A'.o := f2.1
  rw [← e2]
  exact ws_ret (w_var rfl (q M2 A2 h2 fun b u hb => by obtain ⟨z1, z2⟩ := f' b u hb; exact f2.2 b u z1 z2))

end
end K03


set_option Elab.async false
set_option linter.all false
set_option maxRecDepth 100000
set_option  maxHeartbeats 4000000
namespace K03
open PySem PyProof.Rows L2 Ab
local macro_rules | `(tactic| walk_at "len") => `(tactic| first | decide | omega | (simp only [List.length_append, List.length_map, List.length_replicate, List.length_cons, List.length_nil, List.length_take, List.length_drop, List.length_reverse, List.length_range]; omega))
local macro_rules | `(tactic| walk_at "str") => `(tactic| first | decide +kernel | exact goodS_ok (by assumption) | assumption)
local macro_rules | `(tactic| walk_at "1") => `(tactic| (first
  | (with_reducible refine ws_set ?_)
  | (with_reducible refine ws_ret ?_)
  | (with_reducible refine ws_if ?_)
  | (with_reducible refine ws_drop ?_)
  | (with_reducible refine w_op ?_)
  | (with_reducible refine w_un ?_)
  | (with_reducible refine w_int ?_)
  | (with_reducible refine w_bl ?_)
  | (with_reducible refine w_non ?_)
  | (with_reducible refine w_str ?_)
  | (with_reducible refine w_cb ?_)
  | (with_reducible refine w_call ?_)
  | (with_reducible refine w_sl ?_)
  | (with_reducible refine w_tupD ?_)
  | (with_reducible refine w_chain ?_)
  | (with_reducible refine w_andV ?_)
  | (with_reducible refine w_orV ?_)
  | (with_reducible refine w_notV ?_)
  | (with_reducible refine wo_none ?_)
  | (with_reducible refine wo_some ?_)
  | (with_reducible refine wa_cons ?_)
  | (with_reducible refine wa_nil ?_)
  | (with_reducible refine wt_test ?_)
  | (with_reducible refine wt_B ?_)
  | (with_reducible refine wt_and ?_)
  | (with_reducible refine wt_or ?_)
  | (with_reducible refine wt_not ?_)
  | (with_reducible refine wt_yes ?_)
  | (with_reducible refine w2_i0 ?_)
  | (with_reducible refine w2_b0 ?_)
  | (with_reducible refine w1_neg ?_)
  | ((with_reducible refine w2_i ?hc ?_); (case hc => first | decide | exact ⟨by decide, by decide⟩ | exact Or.inl ⟨by decide, by decide⟩ | exact Or.inr ⟨by decide, by decide⟩ | exact ⟨by decide, by decide, by decide⟩ | omega); skip)
  | ((with_reducible refine' w_var ?hv ?_); (case hv => exact rfl); skip)
  | ((with_reducible show W2 _ (rEqD _) (Sl.dat (PyData.int _)) (Sl.dat (PyData.int _)) _ _); (refine w2_eqI ?_))
  | ((with_reducible show W2 _ (rNeD _) (Sl.dat (PyData.int _)) (Sl.dat (PyData.int _)) _ _); (refine w2_neI ?_))
  | ((with_reducible show W2 _ (rEqD _) (Sl.dat (PyData.str _)) (Sl.dat (PyData.str _)) _ _); (refine' w2_eqS ?h1 ?h2 ?_); (case h1 => walk_at "str"); (case h2 => walk_at "str"); skip)
  | ((with_reducible show W2 _ (rNeD _) (Sl.dat (PyData.str _)) (Sl.dat (PyData.str _)) _ _); (refine' w2_neS ?h1 ?h2 ?_); (case h1 => walk_at "str"); (case h2 => walk_at "str"); skip)
  | ((with_reducible show W2 _ (rEqD _) _ _ _ _); (refine w2_eq ?ha ?hb ?_); (case ha => first | exact shaped_int _ | exact shaped_bool _ | exact shaped_none); (case hb => first | exact shaped_int _ | exact shaped_bool _ | exact shaped_none); skip)
  | ((with_reducible show W2 _ (rNeD _) _ _ _ _); (refine w2_ne ?ha ?hb ?_); (case ha => first | exact shaped_int _ | exact shaped_bool _ | exact shaped_none); (case hb => first | exact shaped_int _ | exact shaped_bool _ | exact shaped_none); skip)
  | ((with_reducible show W2 _ _ _ _ _ _); (refine w2_isN ?_))
  | ((with_reducible show W2 _ rIsB _ _ _ _); (refine w2_isB ?_))
  | ((with_reducible show W2 _ rNotB _ _ _ _); (refine w2_notB ?_))
  | ((with_reducible show W2 _ _ _ _ _ _); (refine w2_notN ?_))
  | (with_reducible refine wl_lenE ?_)
  | (with_reducible refine wl_lenD ?_)
  | (with_reducible refine wl_lenTD ?_)
  | (with_reducible refine wl_listE ?_)
  | (with_reducible refine wsl_E ?_)
  | ((with_reducible refine' w2_catE ?hl ?_); (try (case hl => walk_at "len")); skip)
  | ((with_reducible refine' w2_rep1 ?h1 ?h2 ?_); (try (case h1 => first | decide | omega)); (try (case h2 => first | decide | omega)); skip)
  | ((with_reducible show WL _ _ [_] _ _); (refine' wl_len ?hl ?_); (case hl => first | exact lsv_dat | exact lsv_ref um_same | exact lsv_ref (by assumption)); skip)
  | ((with_reducible show WL _ _ [_] _ _); (refine' wl_list ?hl ?_); (case hl => first | exact .inl lsv_dat | exact .inl (lsv_ref (by assumption))); skip)
  | ((with_reducible show WSl _ (rSlL _) _ _ _ _ _); (refine' wsl_lst ?hl ?_); (case hl => first | exact lsv_dat | exact lsv_ref um_same | exact lsv_ref (by assumption)); skip)
  | ((with_reducible show WL _ _ [_] _ _); (refine wl_int ?_))
  | ((with_reducible show WL _ _ [_] _ _); (refine wl_intb ?_))
  | ((with_reducible show WL _ _ [_, _] _ _); (refine wl_min ?_))
  | ((with_reducible first | show W2 _ (rIxL _) (Sl.dat (PyData.list (List.cons _ _))) (Sl.dat (PyData.int _)) _ _ | show W2 _ (rIxL _) (Sl.dat (PyData.list (List.map PyData.int (List.cons _ _)))) (Sl.dat (PyData.int _)) _ _); (refine' w2_ixAny ?h0 ?h1 ?_); (case h0 => omega); (case h1 => first | omega | (simp only [List.length_cons, List.length_nil, List.length_map]; omega)); skip)
  | ((with_reducible show W2 _ (rIxL _) _ _ _ _); (refine' w2_ixL ?hs ?hx ?_); (case hs => first | exact lsv_dat | exact lsv_ref um_same | exact lsv_ref (by assumption)); (try (case hx => exact rfl)); skip)
  | ((with_reducible show W2 _ (rIxT _) _ _ _ _); (refine' w2_ixT ?hx ?_); (case hx => exact rfl); skip)
  | ((with_reducible show WL _ (rIsi _) [_, _] _ _); (refine' wl_isi ?hb ?_); (case hb => first | exact isi_bool _ | exact isi_int _ | exact isi_str _ | exact isi_tuple _ | exact isi_list _); skip)
  | ((with_reducible show W _ (tC (V.ty _)) _ _ _); (refine w_raw ?_))
  | ((with_reducible show W _ (tC (V.ref _)) _ _ _); (refine w_raw ?_))
  | ((with_reducible show WSl _ (rSlA _) _ _ _ _ _); (refine wsl_tup ?_))
  | ((with_reducible show WL _ (rTupS _) [Sl.dat (PyData.list _)] _ _); (refine wl_tuple lsv_dat ?_))
  | ((with_reducible show W2 _ (rCatA _) _ _ _ _); (refine' w2_catT ?hl ?_); (try (case hl => walk_at "len")); skip)
  | ((with_reducible show WL _ _ [_] _ _); (refine' wl_lenT ?hl ?_); (case hl => exact tpv_dat); skip)
  | ((with_reducible refine' w_fldI ?hv ?hM ?c ?n ?l ?_); (case hv => exact rfl); (case hM => first | assumption | exact um_same); (case c => assumption); (case n => assumption); (case l => walk_at "fl"); skip)
  | ((with_reducible refine' w_dgetI ?hv ?hM ?hx ?_); (case hv => exact rfl); (case hM => first | assumption | exact um_same); (case hx => walk_at "wg"); skip)
  | ((with_reducible refine' ws_fldI ?hv ?c ?n ?_); (case hv => exact rfl); (case c => assumption); (case n => assumption); skip)
  | (with_reducible refine ws_next ?_)
  | ((with_reducible show WS _ Ends.nx _ _ _); (refine ws_next ?_))
  | (with_reducible refine ite_t rfl ?_)
  | (with_reducible refine ite_f rfl ?_)
  | ((with_reducible refine' ite_t ?hb ?_); (case hb => decide +kernel); skip)
  | ((with_reducible refine' ite_f ?hb ?_); (case hb => decide +kernel); skip)
  | ((with_reducible show ∃ b : Bool, _ = Sl.bl b ∧ _); (with_reducible refine ⟨_, rfl, ?_⟩))
  | ((with_reducible show ∃ i : Int, _ = Sl.int i ∧ _); (with_reducible refine ⟨_, rfl, ?_⟩))
  | ((with_reducible show List.length _ ≤ 100000 ∧ _); (refine ⟨(by simp), ?_⟩))
  | ((with_reducible show ∃ ds : List PyData, datsOf _ = some ds ∧ _); (refine ⟨_, rfl, ?_⟩))))
local macro_rules | `(tactic| walk_at "e") => `(tactic| repeat (first | (with_reducible refine ws_seq ?_) | (walk_at "1")))
local macro_rules | `(tactic| walk_at "g") => `(tactic| repeat (first | (walk_at "1") | ((with_reducible refine w_lstI (wa_cons ?_)); (repeat (walk_at "1")); (with_reducible show ∃ ns : List Int, itemsI _ = some ns ∧ _); (refine ⟨_, rfl, ?_⟩)) | (with_reducible refine w_lstD ?_)))
local macro_rules | `(tactic| walk_at "f") => `(tactic| repeat (first | (with_reducible refine ws_seq ?_) | (walk_at "1") | ((with_reducible refine w_lstI (wa_cons ?_)); (repeat (walk_at "1")); (with_reducible show ∃ ns : List Int, itemsI _ = some ns ∧ _); (refine ⟨_, rfl, ?_⟩)) | (with_reducible refine w_lstD ?_)))
local macro_rules | `(tactic| walk_at "k") => `(tactic| first | dsimp only [cxOf, Cx.nox, Cx.wish] | skip)

local macro_rules | `(tactic| walk_at "fl") => `(tactic| with_reducible first | exact sl_r _ | exact sl_f _ | exact sl_u _ | exact sl_n _)

section
variable {P : Program} {w : World} {K : PySem.W.Frag} {mg : Str → Option Value} {base : Heap} {a : AD} {d : FD}
/-! between -/
def A_between (C : Addr) : ASp := fun ss M Q => ∃ A c B c2 xs ys, ss = [.raw (.ref (SA.o A)), .raw (.ref (SA.o B))] ∧ SeAt C M A c ∧ CtOk c ∧ Ct.small c ∧ SeAt C M B c2 ∧ CtOk c2 ∧ Ct.small c2 ∧ c.items = xs ∧ c2.items = ys ∧
  xs.Pairwise iLt ∧ ys.Pairwise iLt ∧ (∀ x ∈ xs, Item.ok x) ∧ (∀ y ∈ ys, Item.ok y) ∧ xs.length ≤ 60 ∧ ys.length ≤ 60 ∧ ∀ M', (∀ b u, M b = some u → M' b = some u) → Q (.dat (.list ((betI xs ys).map Chg.enc))) M'
theorem nw_ext {M : MH} {p : Addr} {x : MO} (hp : M p = none) : ∀ b u, M b = some u → Ab.um M p x b = some u := fun b u hb => by rw [um_ne fun z => by rw [z, hp] at hb; cases hb]; exact hb
theorem item_not_none (y : Item) : PyData.eqv .none y.enc = false := by cases y <;> rfl
theorem get_key {xs : List Item} {i : Nat} (hi : i < xs.length) : ((kvX xs).map fun q => Sl.dat q.1.data).getD i .non = .dat (Ab.keyOf xs[i]).enc := by
  rw [List.getD_eq_getElem?_getD, List.getElem?_map]
  unfold kvX
  rw [List.getElem?_map, List.getElem?_eq_getElem hi]
  show Sl.dat (NestedKey.tup (nkKs (Ab.keyOf xs[i]))).data = _
  rw [nk_data]
theorem ok_between (T : Txt K mg a d) : FnOk P w K mg base CX0 6 a.between d.between ["first", "second"] (conc K (A_between a.State)) := by
  have cl := T.cl_State
  have G_State_all_items := ok_items (P := P) (w := w) (base := base) T
  have G_key_of := ok_key_of (P := P) (w := w) (base := base) T
  have G_key_order := ok_key_order (P := P) (w := w) (base := base) T
  refine ab_ok T.F_between sc_between (fun ss M Q ⟨A, c, B, c2, xs, ys, e, _⟩ => by subst e; rfl) fun cdv Ar outer s H E hr => ?_
  have hu64 := hr.units
  refine ⟨_, (pss_cons (ps_set (i := 2) sc_between.nd rfl (Or.inr rfl) (pe_ndcK (P := P) (w := w) (K := K) rfl rfl rfl (hu9 hu64) (own := [("item", 3)]) rfl sc_between.nd (pi_list (pe_meth0 (pv 0) T.cl_State T.m_State_all_items G_State_all_items (hr.mono (by omega)) T.b_State_all_items .nil pass0)) (blkOk_by (own := [("item", 3)]) (N := ["first", "second", "before", "item", "after", "gone", "key", "new"]) (sc := (defScope s_between)) (by decide +kernel)) (fun _ _ _ _ _ => (pg_name (i := 3) sc_between.nd rfl (Or.inl rfl))) (fun _ _ _ _ _ => pts_nil) (fun _ _ _ _ _ => (pe_call G_key_of (hr.mono (by omega)) (by rfl) T.g_key_of T.F_key_of.kp T.b_key_of .nil pass0 (pa_cons (pv 3) pa_nil))) (fun _ _ _ _ _ => (pv 3))))
  (pss_cons (ps_set (i := 4) sc_between.nd rfl (Or.inr rfl) (pe_ndcK (P := P) (w := w) (K := K) rfl rfl rfl (hu9 hu64) (own := [("item", 3)]) rfl sc_between.nd (pi_list (pe_meth0 (pv 1) T.cl_State T.m_State_all_items G_State_all_items (hr.mono (by omega)) T.b_State_all_items .nil pass0)) (blkOk_by (own := [("item", 3)]) (N := ["first", "second", "before", "item", "after", "gone", "key", "new"]) (sc := (defScope s_between)) (by decide +kernel)) (fun _ _ _ _ _ => (pg_name (i := 3) sc_between.nd rfl (Or.inl rfl))) (fun _ _ _ _ _ => pts_nil) (fun _ _ _ _ _ => (pe_call G_key_of (hr.mono (by omega)) (by rfl) T.g_key_of T.F_key_of.kp T.b_key_of .nil pass0 (pa_cons (pv 3) pa_nil))) (fun _ _ _ _ _ => (pv 3))))
  (pss_cons (ps_set (i := 5) sc_between.nd rfl (Or.inl rfl) (pe_callBK (cr_sortFK (K := K) rfl G_key_order (hr.mono (by omega)) T.b_key_order) (by rfl) T.n_sorted (by decide +kernel) (pa_cons (pe_lock (pe_lc (own := [("key", 6)]) rfl sc_between.nd (pi_nkeysK (P := P) (w := w) rfl rfl (pv 2)) (blkOk_by (own := [("key", 6)]) (N := ["first", "second", "before", "item", "after", "gone", "key", "new"]) (sc := (defScope s_between)) (by decide +kernel)) (fun _ _ _ _ _ => (pg_name (i := 6) sc_between.nd rfl (Or.inl rfl))) (fun _ _ _ _ _ => pts_one (pt_cmp (pc_nnotinK (P := P) (w := w) (K := K) rfl rfl rfl (hu9 hu64) (pv 6) (pv 4)))) (fun _ _ _ _ _ => (pv 6)))) pa_nil) (pk_cons (pe_glob (v := .ref a.key_order) (by rfl) T.g_key_order rfl) pk_nil)))
  (pss_cons (ps_set (i := 7) sc_between.nd rfl (Or.inl rfl) (pe_callBK (cr_sortFK (K := K) rfl G_key_order (hr.mono (by omega)) T.b_key_order) (by rfl) T.n_sorted (by decide +kernel) (pa_cons (pe_lock (pe_lc (own := [("key", 6)]) rfl sc_between.nd (pi_nkeysK (P := P) (w := w) rfl rfl (pv 4)) (blkOk_by (own := [("key", 6)]) (N := ["first", "second", "before", "item", "after", "gone", "key", "new"]) (sc := (defScope s_between)) (by decide +kernel)) (fun _ _ _ _ _ => (pg_name (i := 6) sc_between.nd rfl (Or.inl rfl))) (fun _ _ _ _ _ => pts_one (pt_cmpR (r := rNeD K) (op_neD hu64) (pe_nget1K (P := P) (w := w) (K := K) rfl rfl rfl (hu9 hu64) (pv 2) (pv 6) ⟨rfl, rfl, rfl, rfl⟩) (pe_ngetK (P := P) (w := w) (K := K) rfl rfl rfl (hu9 hu64) (pv 4) (pv 6) (fun _ _ => rfl)) (nomark _))) (fun _ _ _ _ _ => (pv 6)))) pa_nil) (pk_cons (pe_glob (v := .ref a.key_order) (by rfl) T.g_key_order rfl) pk_nil)))
  (pss_one (ps_ret (pe_op (r := rCatL K) op_catL (pe_lc (own := [("key", 6)]) rfl sc_between.nd (pi_list (pv 5)) (blkOk_by (own := [("key", 6)]) (N := ["first", "second", "before", "item", "after", "gone", "key", "new"]) (sc := (defScope s_between)) (by decide +kernel)) (fun _ _ _ _ _ => (pg_name (i := 6) sc_between.nd rfl (Or.inl rfl))) (fun _ _ _ _ _ => pts_nil) (fun _ _ _ _ _ => (pe_tup (pa_cons pe_str (pa_cons (pv 6) pa_nil))))) (pe_lc (own := [("key", 6)]) rfl sc_between.nd (pi_list (pv 7)) (blkOk_by (own := [("key", 6)]) (N := ["first", "second", "before", "item", "after", "gone", "key", "new"]) (sc := (defScope s_between)) (by decide +kernel)) (fun _ _ _ _ _ => (pg_name (i := 6) sc_between.nd rfl (Or.inl rfl))) (fun _ _ _ _ _ => pts_nil) (fun _ _ _ _ _ => (pe_tup (pa_cons pe_str (pa_cons (pe_ngetK (P := P) (w := w) (K := K) rfl rfl rfl (hu9 hu64) (pv 4) (pv 6) (fun _ _ => rfl)) pa_nil)))))))))))), ?_⟩
  rintro ss M Q ⟨A, c, B, c2, xs, ys, rfl, hA, hc, hs, hB, hc2, hs2, ex, ey, px, py, okx, oky, lx, ly, q⟩
  walk_at "k"
  show WS K _ [some (.raw (.ref A.o)), some (.raw (.ref B.o)), none, none, none, none, none, none] M _
  refine ws_seq (ws_set (w_ndc (wi_list (w_meth (w_var rfl ⟨A.o, A.dx, sfld A, rfl, hA.ho, by kernel_rfl, wa_nil ⟨A, c, rfl, hA, hc, hs, fun M1 p hp hl e1 => ⟨_, lsv_ref hl, fun i acc M' => M' = M1 ∧ acc = kvX (xs.take i), ⟨rfl, rfl⟩, fun i acc M' _ ⟨e, _⟩ D o hD => by subst e; exact lsv_um (lsv_ref hl) hD, fun i acc M' D hi ⟨e, ea⟩ hD => ?_, fun acc M' D ⟨e, ea⟩ hD => ?_⟩⟩⟩)))))
  · subst e ea
    have hi' : i < xs.length := by rw [List.length_map, ex] at hi; exact hi
    have gi : (c.items.map fun it => Sl.dat it.enc).getD i .non = .dat xs[i].enc := by rw [ex, List.getD_eq_getElem?_getD, List.getElem?_map, List.getElem?_eq_getElem hi']; rfl
    refine ⟨_, lct_name (by decide), wt_yes ?_⟩
    rw [if_pos rfl]
    dsimp only
    rw [gi]
    refine w_call (wa_cons (w_var rfl (wa_nil ⟨xs[i], rfl, w_var rfl ⟨nkKs (Ab.keyOf xs[i]), M', by rw [nk_data], nk_depth _, rfl, hD, ?_, rfl, ?_⟩⟩)))
    · unfold kvX
      rw [List.length_map, List.length_take]
      omega
    · have hn : xs.take (i + 1) = xs.take i ++ [xs[i]] := List.take_succ_eq_append_getElem hi'
      rw [hn]
      exact kvX_snoc (by rw [← hn]; exact px.sublist (List.take_sublist _ _))
  subst e ea
  rw [List.length_map, ex, List.take_length]
  have hB1 := hB.ext fun b u hb => nw_ext (x := .dN P w D (kvX xs)) hD b u (e1 b u hb)
  have hD1 : Ab.um M' D (.dN P w D (kvX xs)) D = some (.dN P w D (kvX xs)) := um_same
  have x1 : ∀ b u, M b = some u → Ab.um M' D (.dN P w D (kvX xs)) b = some u := fun b u hb => nw_ext hD b u (e1 b u hb)
  generalize Ab.um M' D (.dN P w D (kvX xs)) = M2 at hB1 hD1 x1
  clear hl hp e1 hD
  show WS K _ [some (.raw (.ref A.o)), some (.raw (.ref B.o)), some (.raw (.ref D)), none, none, none, none, none] M2 _
  refine ws_seq (ws_set (w_ndc (wi_list (w_meth (w_var rfl ⟨B.o, B.dx, sfld B, rfl, hB1.ho, by kernel_rfl, wa_nil ⟨B, c2, rfl, hB1, hc2, hs2, fun M3 p hp hl e3 => ⟨_, lsv_ref hl, fun i acc M' => M' = M3 ∧ acc = kvX (ys.take i), ⟨rfl, rfl⟩, fun i acc M' _ ⟨e, _⟩ D o hD => by subst e; exact lsv_um (lsv_ref hl) hD, fun i acc M' D hi ⟨e, ea⟩ hD => ?_, fun acc M' D2 ⟨e, ea⟩ hD2 => ?_⟩⟩⟩)))))
  · subst e ea
    have hi' : i < ys.length := by rw [List.length_map, ey] at hi; exact hi
    have gi : (c2.items.map fun it => Sl.dat it.enc).getD i .non = .dat ys[i].enc := by rw [ey, List.getD_eq_getElem?_getD, List.getElem?_map, List.getElem?_eq_getElem hi']; rfl
    refine ⟨_, lct_name (by decide), wt_yes ?_⟩
    rw [if_pos rfl]
    dsimp only
    rw [gi]
    refine w_call (wa_cons (w_var rfl (wa_nil ⟨ys[i], rfl, w_var rfl ⟨nkKs (Ab.keyOf ys[i]), M', by rw [nk_data], nk_depth _, rfl, hD, ?_, rfl, ?_⟩⟩)))
    · unfold kvX
      rw [List.length_map, List.length_take]
      omega
    · have hn : ys.take (i + 1) = ys.take i ++ [ys[i]] := List.take_succ_eq_append_getElem hi'
      rw [hn]
      exact kvX_snoc (by rw [← hn]; exact py.sublist (List.take_sublist _ _))
  subst e ea
  rw [List.length_map, ey, List.take_length]
  have hDD : D ≠ D2 := fun z => by rw [← z, e3 _ _ hD1] at hD2; cases hD2
  have h1 : Ab.um M' D2 (.dN P w D2 (kvX ys)) D = some (.dN P w D (kvX xs)) := nw_ext hD2 _ _ (e3 _ _ hD1)
  have h2 : Ab.um M' D2 (.dN P w D2 (kvX ys)) D2 = some (.dN P w D2 (kvX ys)) := um_same
  have x2 : ∀ b u, M b = some u → Ab.um M' D2 (.dN P w D2 (kvX ys)) b = some u := fun b u hb => nw_ext hD2 b u (e3 b u (x1 b u hb))
  generalize Ab.um M' D2 (.dN P w D2 (kvX ys)) = M4 at h1 h2 x2
  clear hl hp e3 hD2 hD1 x1 hB1
  show WS K _ [some (.raw (.ref A.o)), some (.raw (.ref B.o)), some (.raw (.ref D)), none, some (.raw (.ref D2)), none, none, none] M4 _
  have lk : ∀ {zs : List Item}, zs.length ≤ 60 → (kvX zs).length = zs.length := fun _ => List.length_map ..
  refine ws_seq (ws_set (w_frz (w_sortK (wa_cons (w_lockN h1 fun od v => w_lc (by decide) (wi_nkeys (w_var rfl ⟨D, od, v, kvX xs, rfl, um_same, fun i acc M' => M' = Ab.um M4 D (.frz od v (.dN P w D (kvX xs))) ∧ acc = ((xs.take i).filter fun x => !decide (Ab.keyOf x ∈ ys.map Ab.keyOf)).map fun x => (Ab.keyOf x).enc, ⟨rfl, rfl⟩, fun i acc M' _ ⟨e, _⟩ D' o hD' => ?_, fun i acc M' D' hi ⟨e, ea⟩ hD' => ?_, fun acc M' ⟨e, ea⟩ => ?_⟩)))))))
  · subst e
    have : D ≠ D' := fun z => by rw [← z, um_same] at hD'; cases hD'
    rw [um_ne this, um_same]
  · subst e ea
    have hi' : i < xs.length := by rw [lk lx] at hi; exact hi
    have hn : xs.take (i + 1) = xs.take i ++ [xs[i]] := List.take_succ_eq_append_getElem hi'
    dsimp only
    rw [get_key hi', hn, List.filter_append, List.map_append]
    have hlen : (((xs.take i).filter fun x => !decide (Ab.keyOf x ∈ ys.map Ab.keyOf)).map fun x => (Ab.keyOf x).enc).length < 100000 := by
      have := List.length_filter_le (fun x => !decide (Ab.keyOf x ∈ ys.map Ab.keyOf)) (xs.take i)
      rw [List.length_take] at this
      rw [List.length_map]
      omega
    generalize ((xs.take i).filter fun x => !decide (Ab.keyOf x ∈ ys.map Ab.keyOf)).map (fun x => (Ab.keyOf x).enc) = acc at hlen
    generalize xs[i] = x
    have hD2' : Ab.um (Ab.um M4 D (.frz od v (.dN P w D (kvX xs)))) D' (.lst (acc.map .dat)) D2 = some (.dN P w D2 (kvX ys)) := by
      have n1 : D2 ≠ D' := fun z => by rw [← z, um_ne hDD.symm, h2] at hD'; cases hD'
      rw [um_ne n1, um_ne hDD.symm, h2]
    refine wt_test (w_nnotIn (w_var rfl (w_var rfl ⟨kvX ys, nkKs (Ab.keyOf x), ⟨D2, rfl, .inl hD2'⟩, by rw [nk_data], nk_depth _, ?_⟩)))
    rw [kvX_some]
    refine ⟨_, rfl, ?_⟩
    by_cases hk : Ab.keyOf x ∈ ys.map Ab.keyOf
    · rw [decide_eq_true hk]
      refine ⟨_, rfl, hD', rfl, ?_⟩
      rw [List.filter_cons, decide_eq_true hk]
      simp
    · rw [decide_eq_false hk]
      refine w_var rfl ⟨_, _, rfl, rfl, hD', hlen, rfl, ?_⟩
      rw [List.filter_cons, decide_eq_false hk]
      rfl
  subst e ea
  refine ⟨um_same, ?_⟩
  rw [um_um, um_id h1, lk lx, List.take_length]
  have pg : (xs.filter fun x => !decide (Ab.keyOf x ∈ ys.map Ab.keyOf)).Pairwise iLt := px.filter _
  have okg : ∀ x ∈ (xs.filter fun x => !decide (Ab.keyOf x ∈ ys.map Ab.keyOf)), Item.ok x := fun x hx => okx x (List.mem_filter.mp hx).1
  have lg : (xs.filter fun x => !decide (Ab.keyOf x ∈ ys.map Ab.keyOf)).length ≤ 60 := Nat.le_trans (List.length_filter_le _ _) lx
  have eb : betI xs ys = (xs.filter fun x => !decide (Ab.keyOf x ∈ ys.map Ab.keyOf)).map .goes ++ (ys.filter fun y => !decide (y ∈ xs)).map .comes := rfl
  rw [eb] at q
  generalize (xs.filter fun x => !decide (Ab.keyOf x ∈ ys.map Ab.keyOf)) = gs at pg okg lg q
  refine wa_nil (wa_cons (w_raw (wa_nil ⟨_, gs.map Ab.keyOf, rfl, rfl, ?_, fun k hk => ?_, keys_pw pg, fun k hk QA qa => ?_, fun p hp => ?_⟩)))
  · have z := lsv_dat (K := K) (M := M4) (ds := gs.map fun x => (Ab.keyOf x).enc)
    rw [List.map_map] at z
    rw [List.map_map]
    exact z
  · obtain ⟨x, hx, rfl⟩ := List.mem_map.mp hk
    exact key_ok (okg x hx)
  · obtain ⟨x, hx, rfl⟩ := List.mem_map.mp hk
    have := (key_ok (okg x hx)).2.1
    exact ⟨_, rfl, by omega, qa⟩
  refine ⟨p, gs.map fun x => (Ab.keyOf x).enc, rfl, by rw [um_same, List.map_map, List.map_map]; rfl, ?_⟩
  rw [del_um hp]
  show WS K _ [some (.raw (.ref A.o)), some (.raw (.ref B.o)), some (.raw (.ref D)), none, some (.raw (.ref D2)), some (.dat (.list (gs.map fun x => (Ab.keyOf x).enc))), none, none] M4 _
  refine ws_seq (ws_set (w_frz (w_sortK (wa_cons (w_lockN h2 fun od v => w_lc (by decide) (wi_nkeys (w_var rfl ⟨D2, od, v, kvX ys, rfl, um_same, fun i acc M' => M' = Ab.um M4 D2 (.frz od v (.dN P w D2 (kvX ys))) ∧ acc = ((ys.take i).filter fun y => !decide (y ∈ xs)).map fun x => (Ab.keyOf x).enc, ⟨rfl, rfl⟩, fun i acc M' _ ⟨e, _⟩ D' o hD' => ?_, fun i acc M' D' hi ⟨e, ea⟩ hD' => ?_, fun acc M' ⟨e, ea⟩ => ?_⟩)))))))
  · subst e
    have : D2 ≠ D' := fun z => by rw [← z, um_same] at hD'; cases hD'
    rw [um_ne this, um_same]
  · subst e ea
    have hi' : i < ys.length := by rw [lk ly] at hi; exact hi
    have hn : ys.take (i + 1) = ys.take i ++ [ys[i]] := List.take_succ_eq_append_getElem hi'
    have hy : ys[i] ∈ ys := List.getElem_mem hi'
    dsimp only
    rw [get_key hi', hn, List.filter_append, List.map_append]
    have hlen : (((ys.take i).filter fun y => !decide (y ∈ xs)).map fun x => (Ab.keyOf x).enc).length < 100000 := by
      have := List.length_filter_le (fun y => !decide (y ∈ xs)) (ys.take i)
      rw [List.length_take] at this
      rw [List.length_map]
      omega
    generalize ((ys.take i).filter fun y => !decide (y ∈ xs)).map (fun x => (Ab.keyOf x).enc) = acc at hlen
    generalize ys[i] = y at hy
    have n1 : D ≠ D' := fun z => by rw [← z, um_ne hDD, h1] at hD'; cases hD'
    have n2 : D2 ≠ D' := fun z => by rw [← z, um_same] at hD'; cases hD'
    have hd1 : Ab.um (Ab.um M4 D2 (.frz od v (.dN P w D2 (kvX ys)))) D' (.lst (acc.map .dat)) D = some (.dN P w D (kvX xs)) := by rw [um_ne n1, um_ne hDD, h1]
    have hd2 : Ab.um (Ab.um M4 D2 (.frz od v (.dN P w D2 (kvX ys)))) D' (.lst (acc.map .dat)) D2 = some (.frz od v (.dN P w D2 (kvX ys))) := by rw [um_ne n2, um_same]
    have vy : valG (kvX ys) (.tup (nkKs (Ab.keyOf y))) = some (.dat y.enc) := by rw [kvX_val, find_key py hy]; rfl
    have sy : SeqAt.shaped y.enc = true := okD_shaped (Item.okD (n := 2) (oky y hy)) (by decide)
    refine wt_test (w_op (w_nget1 (w_var rfl ⟨⟨_, D, rfl, .inl hd1⟩, w_var rfl ⟨kvX xs, nkKs (Ab.keyOf y), ⟨D, rfl, .inl hd1⟩, by rw [nk_data], nk_depth _, w_nget (w_var rfl (w_var rfl ⟨kvX ys, nkKs (Ab.keyOf y), _, ⟨D2, rfl, .inr ⟨_, _, hd2⟩⟩, by rw [nk_data], nk_depth _, vy, ?_⟩))⟩⟩)))
    obtain ⟨dx, d1, d2, d3⟩ : ∃ dx, (valG (kvX xs) (.tup (nkKs (Ab.keyOf y)))).getD .non = .dat dx ∧ SeqAt.shaped dx = true ∧ (!PyData.eqv dx y.enc) = !decide (y ∈ xs) := by
      rw [kvX_val]
      cases ef : xs.find? fun x => decide (Ab.keyOf x = Ab.keyOf y) with
      | none =>
        have hny : y ∉ xs := fun z => find_none.mp ef (List.mem_map.mpr ⟨y, z, rfl⟩)
        exact ⟨.none, rfl, by rfl, by rw [item_not_none, decide_eq_false hny]⟩
      | some x =>
        have hx := List.mem_of_find?_eq_some ef
        have hk := of_decide_eq_true (List.find?_some (p := fun x => decide (Ab.keyOf x = Ab.keyOf y)) ef)
        refine ⟨x.enc, rfl, okD_shaped (Item.okD (n := 2) (okx x hx)) (by decide), ?_⟩
        rw [eqv_item]
        by_cases e : x = y
        · subst e
          rw [decide_eq_true rfl, decide_eq_true hx]
        · rw [decide_eq_false e, decide_eq_false fun z => e (key_uniq px hx z hk)]
    rw [d1]
    refine w2_ne d2 sy ?_
    rw [d3]
    refine ⟨_, rfl, ?_⟩
    by_cases hk : y ∈ xs
    · rw [decide_eq_true hk]
      refine ⟨_, rfl, hD', rfl, ?_⟩
      rw [List.filter_cons, decide_eq_true hk]
      simp
    · rw [decide_eq_false hk]
      refine w_var rfl ⟨_, _, rfl, rfl, hD', hlen, rfl, ?_⟩
      rw [List.filter_cons, decide_eq_false hk]
      rfl
  subst e ea
  refine ⟨um_same, ?_⟩
  rw [um_um, um_id h2, lk ly, List.take_length]
  have pz : (ys.filter fun y => !decide (y ∈ xs)).Pairwise iLt := py.filter _
  have sz : ∀ y ∈ (ys.filter fun y => !decide (y ∈ xs)), y ∈ ys := fun y hy => (List.mem_filter.mp hy).1
  have lz : (ys.filter fun y => !decide (y ∈ xs)).length ≤ 60 := Nat.le_trans (List.length_filter_le _ _) ly
  generalize (ys.filter fun y => !decide (y ∈ xs)) = zs at pz sz lz q
  refine wa_nil (wa_cons (w_raw (wa_nil ⟨_, zs.map Ab.keyOf, rfl, rfl, ?_, fun k hk => ?_, keys_pw pz, fun k hk QA qa => ?_, fun p hp => ?_⟩)))
  · have z := lsv_dat (K := K) (M := M4) (ds := zs.map fun x => (Ab.keyOf x).enc)
    rw [List.map_map] at z
    rw [List.map_map]
    exact z
  · obtain ⟨x, hx, rfl⟩ := List.mem_map.mp hk
    exact key_ok (oky x (sz x hx))
  · obtain ⟨x, hx, rfl⟩ := List.mem_map.mp hk
    have := (key_ok (oky x (sz x hx))).2.1
    exact ⟨_, rfl, by omega, qa⟩
  refine ⟨p, zs.map fun x => (Ab.keyOf x).enc, rfl, by rw [um_same, List.map_map, List.map_map]; rfl, ?_⟩
  rw [del_um hp]
  show WS K _ [some (.raw (.ref A.o)), some (.raw (.ref B.o)), some (.raw (.ref D)), none, some (.raw (.ref D2)), some (.dat (.list (gs.map fun x => (Ab.keyOf x).enc))), none, some (.dat (.list (zs.map fun x => (Ab.keyOf x).enc)))] M4 _
  refine ws_ret (w_op (w_lcF (xs := gs) (enc := fun x => (Ab.keyOf x).enc) (M1 := M4) (by decide) (w_var rfl ⟨rfl, rfl⟩) (by omega) (fun _ => true) (fun x => (Chg.goes x).enc) (fun x D' o hx hD' => wt_yes ⟨rfl, rfl⟩) (fun x D' o hx _ hD' => ?_) ?_))
  · refine w_tupD (wa_cons (w_str (wa_cons (w_var rfl (wa_nil ⟨_, rfl, by simp, rfl, rfl⟩)))))
  refine w_lcF (xs := zs) (enc := fun x => (Ab.keyOf x).enc) (M1 := M4) (by decide) (w_var rfl ⟨rfl, rfl⟩) (by omega) (fun _ => true) (fun x => (Chg.comes x).enc) (fun x D' o hx hD' => wt_yes ⟨rfl, rfl⟩) (fun x D' o hx _ hD' => ?_) ?_
  · have n2 : D2 ≠ D' := fun z => by rw [← z, h2] at hD'; cases hD'
    refine w_tupD (wa_cons (w_str (wa_cons (w_nget (w_var rfl (w_var rfl ⟨kvX ys, nkKs (Ab.keyOf x), .dat x.enc, ⟨D2, rfl, .inl (by rw [um_ne n2]; exact h2)⟩, by rw [nk_data], nk_depth _, by rw [kvX_val, find_key py (sz x hx)]; rfl, wa_nil ⟨_, rfl, by simp, rfl, rfl⟩⟩))))))
  have ft : ∀ l : List Item, l.filter (fun _ => true) = l := fun l => List.filter_eq_self.mpr fun _ _ => rfl
  rw [ft, ft]
  refine w2_cat lsv_dat lsv_dat (by rw [List.length_map, List.length_map]; omega) ?_
  have z := q M4 x2
  rw [List.map_append, List.map_map, List.map_map] at z
  exact z

end
end K03


set_option Elab.async false
set_option linter.all false
set_option maxRecDepth 100000
set_option  maxHeartbeats 4000000
namespace K03
open PySem PyProof.Rows L2 Ab
local macro_rules | `(tactic| walk_at "len") => `(tactic| first | decide | omega | (simp only [List.length_append, List.length_map, List.length_replicate, List.length_cons, List.length_nil, List.length_take, List.length_drop, List.length_reverse, List.length_range]; omega))
local macro_rules | `(tactic| walk_at "str") => `(tactic| first | decide +kernel | exact goodS_ok (by assumption) | assumption)
local macro_rules | `(tactic| walk_at "1") => `(tactic| (first
  | (with_reducible refine ws_set ?_)
  | (with_reducible refine ws_ret ?_)
  | (with_reducible refine ws_if ?_)
  | (with_reducible refine ws_drop ?_)
  | (with_reducible refine w_op ?_)
  | (with_reducible refine w_un ?_)
  | (with_reducible refine w_int ?_)
  | (with_reducible refine w_bl ?_)
  | (with_reducible refine w_non ?_)
  | (with_reducible refine w_str ?_)
  | (with_reducible refine w_cb ?_)
  | (with_reducible refine w_call ?_)
  | (with_reducible refine w_sl ?_)
  | (with_reducible refine w_tupD ?_)
  | (with_reducible refine w_chain ?_)
  | (with_reducible refine w_andV ?_)
  | (with_reducible refine w_orV ?_)
  | (with_reducible refine w_notV ?_)
  | (with_reducible refine wo_none ?_)
  | (with_reducible refine wo_some ?_)
  | (with_reducible refine wa_cons ?_)
  | (with_reducible refine wa_nil ?_)
  | (with_reducible refine wt_test ?_)
  | (with_reducible refine wt_B ?_)
  | (with_reducible refine wt_and ?_)
  | (with_reducible refine wt_or ?_)
  | (with_reducible refine wt_not ?_)
  | (with_reducible refine wt_yes ?_)
  | (with_reducible refine w2_i0 ?_)
  | (with_reducible refine w2_b0 ?_)
  | (with_reducible refine w1_neg ?_)
  | ((with_reducible refine w2_i ?hc ?_); (case hc => first | decide | exact ⟨by decide, by decide⟩ | exact Or.inl ⟨by decide, by decide⟩ | exact Or.inr ⟨by decide, by decide⟩ | exact ⟨by decide, by decide, by decide⟩ | omega); skip)
  | ((with_reducible refine' w_var ?hv ?_); (case hv => exact rfl); skip)
  | ((with_reducible show W2 _ (rEqD _) (Sl.dat (PyData.int _)) (Sl.dat (PyData.int _)) _ _); (refine w2_eqI ?_))
  | ((with_reducible show W2 _ (rNeD _) (Sl.dat (PyData.int _)) (Sl.dat (PyData.int _)) _ _); (refine w2_neI ?_))
  | ((with_reducible show W2 _ (rEqD _) (Sl.dat (PyData.str _)) (Sl.dat (PyData.str _)) _ _); (refine' w2_eqS ?h1 ?h2 ?_); (case h1 => walk_at "str"); (case h2 => walk_at "str"); skip)
  | ((with_reducible show W2 _ (rNeD _) (Sl.dat (PyData.str _)) (Sl.dat (PyData.str _)) _ _); (refine' w2_neS ?h1 ?h2 ?_); (case h1 => walk_at "str"); (case h2 => walk_at "str"); skip)
  | ((with_reducible show W2 _ (rEqD _) _ _ _ _); (refine w2_eq ?ha ?hb ?_); (case ha => first | exact shaped_int _ | exact shaped_bool _ | exact shaped_none); (case hb => first | exact shaped_int _ | exact shaped_bool _ | exact shaped_none); skip)
  | ((with_reducible show W2 _ (rNeD _) _ _ _ _); (refine w2_ne ?ha ?hb ?_); (case ha => first | exact shaped_int _ | exact shaped_bool _ | exact shaped_none); (case hb => first | exact shaped_int _ | exact shaped_bool _ | exact shaped_none); skip)
  | ((with_reducible show W2 _ _ _ _ _ _); (refine w2_isN ?_))
  | ((with_reducible show W2 _ rIsB _ _ _ _); (refine w2_isB ?_))
  | ((with_reducible show W2 _ rNotB _ _ _ _); (refine w2_notB ?_))
  | ((with_reducible show W2 _ _ _ _ _ _); (refine w2_notN ?_))
  | (with_reducible refine wl_lenE ?_)
  | (with_reducible refine wl_lenD ?_)
  | (with_reducible refine wl_lenTD ?_)
  | (with_reducible refine wl_listE ?_)
  | (with_reducible refine wsl_E ?_)
  | ((with_reducible refine' w2_catE ?hl ?_); (try (case hl => walk_at "len")); skip)
  | ((with_reducible refine' w2_rep1 ?h1 ?h2 ?_); (try (case h1 => first | decide | omega)); (try (case h2 => first | decide | omega)); skip)
  | ((with_reducible show WL _ _ [_] _ _); (refine' wl_len ?hl ?_); (case hl => first | exact lsv_dat | exact lsv_ref um_same | exact lsv_ref (by assumption)); skip)
  | ((with_reducible show WL _ _ [_] _ _); (refine' wl_list ?hl ?_); (case hl => first | exact .inl lsv_dat | exact .inl (lsv_ref (by assumption))); skip)
  | ((with_reducible show WSl _ (rSlL _) _ _ _ _ _); (refine' wsl_lst ?hl ?_); (case hl => first | exact lsv_dat | exact lsv_ref um_same | exact lsv_ref (by assumption)); skip)
  | ((with_reducible show WL _ _ [_] _ _); (refine wl_int ?_))
  | ((with_reducible show WL _ _ [_] _ _); (refine wl_intb ?_))
  | ((with_reducible show WL _ _ [_, _] _ _); (refine wl_min ?_))
  | ((with_reducible first | show W2 _ (rIxL _) (Sl.dat (PyData.list (List.cons _ _))) (Sl.dat (PyData.int _)) _ _ | show W2 _ (rIxL _) (Sl.dat (PyData.list (List.map PyData.int (List.cons _ _)))) (Sl.dat (PyData.int _)) _ _); (refine' w2_ixAny ?h0 ?h1 ?_); (case h0 => omega); (case h1 => first | omega | (simp only [List.length_cons, List.length_nil, List.length_map]; omega)); skip)
  | ((with_reducible show W2 _ (rIxL _) _ _ _ _); (refine' w2_ixL ?hs ?hx ?_); (case hs => first | exact lsv_dat | exact lsv_ref um_same | exact lsv_ref (by assumption)); (try (case hx => exact rfl)); skip)
  | ((with_reducible show W2 _ (rIxT _) _ _ _ _); (refine' w2_ixT ?hx ?_); (case hx => exact rfl); skip)
  | ((with_reducible show WL _ (rIsi _) [_, _] _ _); (refine' wl_isi ?hb ?_); (case hb => first | exact isi_bool _ | exact isi_int _ | exact isi_str _ | exact isi_tuple _ | exact isi_list _); skip)
  | ((with_reducible show W _ (tC (V.ty _)) _ _ _); (refine w_raw ?_))
  | ((with_reducible show W _ (tC (V.ref _)) _ _ _); (refine w_raw ?_))
  | ((with_reducible show WSl _ (rSlA _) _ _ _ _ _); (refine wsl_tup ?_))
  | ((with_reducible show WL _ (rTupS _) [Sl.dat (PyData.list _)] _ _); (refine wl_tuple lsv_dat ?_))
  | ((with_reducible show W2 _ (rCatA _) _ _ _ _); (refine' w2_catT ?hl ?_); (try (case hl => walk_at "len")); skip)
  | ((with_reducible show WL _ _ [_] _ _); (refine' wl_lenT ?hl ?_); (case hl => exact tpv_dat); skip)
  | ((with_reducible refine' w_fldI ?hv ?hM ?c ?n ?l ?_); (case hv => exact rfl); (case hM => first | assumption | exact um_same); (case c => assumption); (case n => assumption); (case l => walk_at "fl"); skip)
  | ((with_reducible refine' w_dgetI ?hv ?hM ?hx ?_); (case hv => exact rfl); (case hM => first | assumption | exact um_same); (case hx => walk_at "wg"); skip)
  | ((with_reducible refine' ws_fldI ?hv ?c ?n ?_); (case hv => exact rfl); (case c => assumption); (case n => assumption); skip)
  | (with_reducible refine ws_next ?_)
  | ((with_reducible show WS _ Ends.nx _ _ _); (refine ws_next ?_))
  | (with_reducible refine ite_t rfl ?_)
  | (with_reducible refine ite_f rfl ?_)
  | ((with_reducible refine' ite_t ?hb ?_); (case hb => decide +kernel); skip)
  | ((with_reducible refine' ite_f ?hb ?_); (case hb => decide +kernel); skip)
  | ((with_reducible show ∃ b : Bool, _ = Sl.bl b ∧ _); (with_reducible refine ⟨_, rfl, ?_⟩))
  | ((with_reducible show ∃ i : Int, _ = Sl.int i ∧ _); (with_reducible refine ⟨_, rfl, ?_⟩))
  | ((with_reducible show List.length _ ≤ 100000 ∧ _); (refine ⟨(by simp), ?_⟩))
  | ((with_reducible show ∃ ds : List PyData, datsOf _ = some ds ∧ _); (refine ⟨_, rfl, ?_⟩))))
local macro_rules | `(tactic| walk_at "e") => `(tactic| repeat (first | (with_reducible refine ws_seq ?_) | (walk_at "1")))
local macro_rules | `(tactic| walk_at "g") => `(tactic| repeat (first | (walk_at "1") | ((with_reducible refine w_lstI (wa_cons ?_)); (repeat (walk_at "1")); (with_reducible show ∃ ns : List Int, itemsI _ = some ns ∧ _); (refine ⟨_, rfl, ?_⟩)) | (with_reducible refine w_lstD ?_)))
local macro_rules | `(tactic| walk_at "f") => `(tactic| repeat (first | (with_reducible refine ws_seq ?_) | (walk_at "1") | ((with_reducible refine w_lstI (wa_cons ?_)); (repeat (walk_at "1")); (with_reducible show ∃ ns : List Int, itemsI _ = some ns ∧ _); (refine ⟨_, rfl, ?_⟩)) | (with_reducible refine w_lstD ?_)))
local macro_rules | `(tactic| walk_at "k") => `(tactic| first | dsimp only [cxOf, Cx.nox, Cx.wish] | skip)

local macro_rules | `(tactic| walk_at "fl") => `(tactic| with_reducible first | exact sl_r _ | exact sl_f _ | exact sl_u _ | exact sl_n _)

section
variable {P : Program} {w : World} {K : PySem.W.Frag} {mg : Str → Option Value} {base : Heap} {a : AD} {d : FD}
def A_lchanged : ASp := fun ss M Q => ∃ os chs, ss = [.dat (.list (List.map Item.enc os)), .dat (.list (List.map Chg.enc chs))] ∧ (∀ x ∈ os, Item.ok x) ∧ (∀ x ∈ chs, Chg.ok x) ∧ os.length + chs.length ≤ 900 ∧ Q (.dat (.list ((chgIs os chs).map Item.enc))) M
theorem chgIs_snoc (os : List Item) (cs : List Chg) (x : Chg) : chgIs os (cs ++ [x]) = chgI (chgIs os cs) x := by unfold chgIs; rw [List.foldl_append]; rfl
theorem ok_lchanged (T : Txt K mg a d) : FnOk P w K mg base CX0 10 a.law_changed d.law_changed ["_law_ordered", "_law_changes_here"] (conc K A_lchanged) := by
  have G_law_placed := ok_placed (P := P) (w := w) (base := base) T
  have G_law_key := ok_law_key (P := P) (w := w) (base := base) T
  have G_law_same := ok_sameEN (P := P) (w := w) (base := base) T 9
  refine ab_ok T.F_law_changed sc_law_changed (fun ss M Q ⟨os, chs, e, _⟩ => by subst e; rfl) fun cdv Ar outer s H E hr => ?_
  have hu64 := hr.units
  refine ⟨_, (pss_cons (ps_for PassesOwn.never rfl (pi_list (pv 1)) (pg_tupK (K := K) (n := 2) rfl rfl (pgs_cons (pg_name (i := 2) sc_law_changed.nd rfl (Or.inl rfl)) (pgs_cons (pg_name (i := 3) sc_law_changed.nd rfl (Or.inr rfl)) pgs_nil))) (pss_one (ps_if (pt_cmpR (r := rEqD K) (op_eqD hu64) (pv 2) pe_str (nomark _)) (pss_one (ps_set (i := 0) sc_law_changed.nd rfl (Or.inl rfl) (pe_call G_law_placed (hr.mono (by omega)) (by rfl) T.g_law_placed T.F_law_placed.kp T.b_law_placed .nil pass0 (pa_cons (pv 0) (pa_cons (pv 3) pa_nil))))) (pss_one (ps_setLc (i := 0) (own := [("_law_item_here", 4)]) rfl sc_law_changed.nd rfl rfl (sw_true rfl rfl rfl (by decide +kernel)) (pi_list (pv 0)) (blkOk_by (own := [("_law_item_here", 4)]) (N := ["_law_ordered", "_law_changes_here", "_law_word", "_law_what", "_law_item_here"]) (sc := (defScope s_law_changed)) (by decide +kernel)) (fun _ _ _ _ _ => (pg_name (i := 4) sc_law_changed.nd rfl (Or.inl rfl))) (fun _ _ _ _ _ => pts_one (pt_not (pt_val (pe_call G_law_same (hr.mono (by omega)) (by rfl) T.g_law_same T.F_law_same.kp T.b_law_same .nil pass0 (pa_cons (pe_call G_law_key (hr.mono (by omega)) (by rfl) T.g_law_key T.F_law_key.kp T.b_law_key .nil pass0 (pa_cons (pv 4) pa_nil)) (pa_cons (pv 3) pa_nil)))))) (fun _ _ _ _ _ => (pv 4)))))))
  (pss_one (ps_ret (pv 0)))), ?_⟩
  rintro ss M Q ⟨os, chs, rfl, hos, hch, hl, q⟩
  walk_at "k"
  show WS K _ [some (.dat (.list (os.map Item.enc))), some (.dat (.list (chs.map Chg.enc))), none, none, none] M _
  refine ws_seq (ws_forD (xs := chs) (enc := Chg.enc) (M1 := M) (w_var rfl ⟨rfl, rfl⟩)
    (fun pre ρ' M' => (∃ y2 y3, ρ' = [some (.dat (.list ((chgIs os pre).map Item.enc))), some (.dat (.list (chs.map Chg.enc))), y2, y3, none]) ∧ M' = M) ⟨⟨none, none, rfl⟩, rfl⟩ ?_ ?_)
  · rintro pre x post ρ' M' hx ⟨⟨y2, y3, rfl⟩, rfl⟩
    have hpre : ∀ z ∈ pre, Chg.ok z := fun z hz => hch z (by rw [hx]; exact List.mem_append_left _ hz)
    have hxo : Chg.ok x := hch x (by rw [hx]; simp)
    have hpl : pre.length ≤ chs.length := by rw [hx, List.length_append]; omega
    have h1 := chgIs_ok hos hpre
    have h2 := chgIs_len pre os
    rw [chgIs_snoc]
    generalize chgIs os pre = zs at h1 h2
    cases x with
    | comes it =>
      refine wg_tup (ds := [.str "comes", it.enc]) rfl rfl (wgs_cons (wg_name (wgs_cons (wg_name (wgs_nil ?_)))))
      walk_at "f"
      exact ⟨zs, it, rfl, h1, hxo, by omega, ⟨_, _, rfl⟩, rfl⟩
    | goes it =>
      refine wg_tup (ds := [.str "goes", (Ab.keyOf it).enc]) rfl rfl (wgs_cons (wg_name (wgs_cons (wg_name (wgs_nil ?_)))))
      walk_at "f"
      refine w_lcF (xs := zs) (enc := Item.enc) (M1 := M') (by decide) (w_var rfl ⟨rfl, rfl⟩) (by omega) (fun y => !decide (Ab.keyOf y = Ab.keyOf it)) Item.enc (fun y D o hy hD => ?_) (fun y D o hy _ hD => w_var rfl ⟨rfl, rfl⟩) ?_
      · walk_at "f"
        refine ⟨y, rfl, ?_⟩
        walk_at "f"
        refine ⟨(Ab.keyOf y).enc, (Ab.keyOf it).enc, rfl, ?_, ?_, tpd_key _, tpd_key _, ?_⟩
        · have := key_ok (h1 y hy)
          exact okD_mkT (by simp) (okAll_cons okD_int (okAll_cons (okD_good this.1) (okAll_cons (okR_okD (n := 6) this.2) rfl)))
        · have := key_ok (show it.ok from hxo)
          exact okD_mkT (by simp) (okAll_cons okD_int (okAll_cons (okD_good this.1) (okAll_cons (okR_okD (n := 6) this.2) rfl)))
        rw [eqv_key]
        walk_at "f"
        exact ⟨rfl, rfl⟩
      · exact ⟨⟨_, _, rfl⟩, rfl⟩
  · rintro ρ' M' ⟨⟨y2, y3, rfl⟩, rfl⟩
    walk_at "f"
    exact q
def A_lbetween : ASp := fun ss M Q => ∃ xs ys, ss = [.dat (.list (List.map Item.enc xs)), .dat (.list (List.map Item.enc ys))] ∧ (∀ x ∈ xs, Item.ok x) ∧ (∀ x ∈ ys, Item.ok x) ∧ xs.length ≤ 60 ∧ ys.length ≤ 60 ∧ Q (.dat (.list ((betI xs ys).map Chg.enc))) M
theorem keys_shaped {ys : List Item} (h : ∀ y ∈ ys, Item.ok y) (hl : ys.length ≤ 60) : SeqAt.shaped (.list ((ys.map Ab.keyOf).map IKey.enc)) = true := okD_shaped (n := 4) (okD_mkL (by rw [List.length_map, List.length_map]; omega) (okAll_of fun d hd => by
  obtain ⟨k, hk, rfl⟩ := List.mem_map.mp hd
  obtain ⟨y, hy, rfl⟩ := List.mem_map.mp hk
  exact kenc_ok (key_ok (h y hy)))) (by decide)
theorem items_shaped {ys : List Item} (h : ∀ y ∈ ys, Item.ok y) (hl : ys.length ≤ 60) : SeqAt.shaped (.list (ys.map Item.enc)) = true := okD_shaped (n := 8) (okD_mkL (by rw [List.length_map]; omega) (okAll_of fun d hd => by
  obtain ⟨y, hy, rfl⟩ := List.mem_map.mp hd
  exact Item.okD (n := 2) (h y hy))) (by decide)
theorem ok_lbetween (T : Txt K mg a d) : FnOk P w K mg base CX0 2 a.law_between d.law_between ["_law_first", "_law_second"] (conc K A_lbetween) := by
  have G_law_key := ok_law_key (P := P) (w := w) (base := base) T
  refine ab_ok T.F_law_between sc_law_between (fun ss M Q ⟨xs, ys, e, _⟩ => by subst e; rfl) fun cdv Ar outer s H E hr => ?_
  have hu64 := hr.units
  have hu65 := room65 hr
  refine ⟨_, (pss_cons (ps_set (i := 2) sc_law_between.nd rfl (Or.inr rfl) (pe_lc (own := [("_law_item_here", 3)]) rfl sc_law_between.nd (pi_list (pv 1)) (blkOk_by (own := [("_law_item_here", 3)]) (N := ["_law_first", "_law_second", "_law_keys", "_law_item_here", "_law_changes_here"]) (sc := (defScope s_law_between)) (by decide +kernel)) (fun _ _ _ _ _ => (pg_name (i := 3) sc_law_between.nd rfl (Or.inl rfl))) (fun _ _ _ _ _ => pts_nil) (fun _ _ _ _ _ => (pe_call G_law_key (hr.mono (by omega)) (by rfl) T.g_law_key T.F_law_key.kp T.b_law_key .nil pass0 (pa_cons (pv 3) pa_nil)))))
  (pss_cons (ps_setLc (i := 4) (own := [("_law_item_here", 3)]) rfl sc_law_between.nd rfl rfl (sw_true rfl rfl rfl (by decide +kernel)) (pi_list (pv 0)) (blkOk_by (own := [("_law_item_here", 3)]) (N := ["_law_first", "_law_second", "_law_keys", "_law_item_here", "_law_changes_here"]) (sc := (defScope s_law_between)) (by decide +kernel)) (fun _ _ _ _ _ => (pg_name (i := 3) sc_law_between.nd rfl (Or.inl rfl))) (fun _ _ _ _ _ => pts_one (pt_cmpR (r := rNotInD K) (op_notInD hu65) (pe_call G_law_key (hr.mono (by omega)) (by rfl) T.g_law_key T.F_law_key.kp T.b_law_key .nil pass0 (pa_cons (pv 3) pa_nil)) (pv 2) (by rfl))) (fun _ _ _ _ _ => (pe_tup (pa_cons pe_str (pa_cons (pe_call G_law_key (hr.mono (by omega)) (by rfl) T.g_law_key T.F_law_key.kp T.b_law_key .nil pass0 (pa_cons (pv 3) pa_nil)) pa_nil)))))
  (pss_one (ps_ret (pe_op (r := rCatL K) op_catL (pv 4) (pe_lc (own := [("_law_item_here", 3)]) rfl sc_law_between.nd (pi_list (pv 1)) (blkOk_by (own := [("_law_item_here", 3)]) (N := ["_law_first", "_law_second", "_law_keys", "_law_item_here", "_law_changes_here"]) (sc := (defScope s_law_between)) (by decide +kernel)) (fun _ _ _ _ _ => (pg_name (i := 3) sc_law_between.nd rfl (Or.inl rfl))) (fun _ _ _ _ _ => pts_one (pt_cmpR (r := rNotInD K) (op_notInD hu65) (pv 3) (pv 0) (by rfl))) (fun _ _ _ _ _ => (pe_tup (pa_cons pe_str (pa_cons (pv 3) pa_nil)))))))))), ?_⟩
  rintro ss M Q ⟨xs, ys, rfl, hx, hy, lx, ly, q⟩
  walk_at "k"
  show WS K _ [some (.dat (.list (xs.map Item.enc))), some (.dat (.list (ys.map Item.enc))), none, none, none] M _
  have ft : ∀ l : List Item, l.filter (fun _ => true) = l := fun l => List.filter_eq_self.mpr fun _ _ => rfl
  refine ws_seq (ws_set (w_lcF (xs := ys) (enc := Item.enc) (M1 := M) (by decide) (w_var rfl ⟨rfl, rfl⟩) (by omega) (fun _ => true) (fun y => (Ab.keyOf y).enc) (fun y D o hy hD => wt_yes ⟨rfl, rfl⟩) (fun y D o hy _ hD => ?_) ?_))
  · walk_at "f"
    exact ⟨y, rfl, rfl, rfl⟩
  rw [ft, show (ys.map fun y => (Ab.keyOf y).enc) = (ys.map Ab.keyOf).map IKey.enc by rw [List.map_map]; rfl]
  refine ws_seq (ws_set (w_lcF (xs := xs) (enc := Item.enc) (M1 := M) (by decide) (w_var rfl ⟨rfl, rfl⟩) (by omega) (fun x => !decide (Ab.keyOf x ∈ ys.map Ab.keyOf)) (fun x => (Chg.goes x).enc) (fun x D o hx2 hD => ?_) (fun x D o hx2 _ hD => ?_) ?_))
  · walk_at "f"
    refine ⟨x, rfl, ?_⟩
    walk_at "f"
    refine w2_notIn (okD_shaped (kenc_ok (key_ok (hx x hx2))) (by decide)) (keys_shaped hy ly) ?_
    rw [any_eqv eqv_key]
    exact ⟨_, rfl, rfl, rfl⟩
  · walk_at "f"
    refine ⟨x, rfl, ?_⟩
    walk_at "f"
    exact ⟨rfl, rfl⟩
  refine ws_ret (w_op (w_var rfl (w_lcF (xs := ys) (enc := Item.enc) (M1 := M) (by decide) (w_var rfl ⟨rfl, rfl⟩) (by omega) (fun y => !decide (y ∈ xs)) (fun y => (Chg.comes y).enc) (fun y D o hy2 hD => ?_) (fun y D o hy2 _ hD => ?_) ?_)))
  · walk_at "f"
    refine w2_notIn (okD_shaped (Item.okD (n := 2) (hy y hy2)) (by decide)) (items_shaped hx lx) ?_
    rw [any_eqv eqv_item]
    exact ⟨_, rfl, rfl, rfl⟩
  · walk_at "f"
    exact ⟨rfl, rfl⟩
  have l1 := List.length_filter_le (fun x => !decide (Ab.keyOf x ∈ ys.map Ab.keyOf)) xs
  have l2 := List.length_filter_le (fun y => !decide (y ∈ xs)) ys
  refine w2_cat lsv_dat lsv_dat (by rw [List.length_map, List.length_map]; omega) ?_
  unfold betI at q
  rw [List.map_append, List.map_map, List.map_map] at q
  exact q
end
end K03


set_option Elab.async false
set_option linter.all false
set_option maxRecDepth 100000
set_option  maxHeartbeats 4000000
namespace K03
open PySem PyProof.Rows L2 Ab
local macro_rules | `(tactic| walk_at "len") => `(tactic| first | decide | omega | (simp only [List.length_append, List.length_map, List.length_replicate, List.length_cons, List.length_nil, List.length_take, List.length_drop, List.length_reverse, List.length_range]; omega))
local macro_rules | `(tactic| walk_at "str") => `(tactic| first | decide +kernel | exact goodS_ok (by assumption) | assumption)
local macro_rules | `(tactic| walk_at "1") => `(tactic| (first
  | (with_reducible refine ws_set ?_)
  | (with_reducible refine ws_ret ?_)
  | (with_reducible refine ws_if ?_)
  | (with_reducible refine ws_drop ?_)
  | (with_reducible refine w_op ?_)
  | (with_reducible refine w_un ?_)
  | (with_reducible refine w_int ?_)
  | (with_reducible refine w_bl ?_)
  | (with_reducible refine w_non ?_)
  | (with_reducible refine w_str ?_)
  | (with_reducible refine w_cb ?_)
  | (with_reducible refine w_call ?_)
  | (with_reducible refine w_sl ?_)
  | (with_reducible refine w_tupD ?_)
  | (with_reducible refine w_chain ?_)
  | (with_reducible refine w_andV ?_)
  | (with_reducible refine w_orV ?_)
  | (with_reducible refine w_notV ?_)
  | (with_reducible refine wo_none ?_)
  | (with_reducible refine wo_some ?_)
  | (with_reducible refine wa_cons ?_)
  | (with_reducible refine wa_nil ?_)
  | (with_reducible refine wt_test ?_)
  | (with_reducible refine wt_B ?_)
  | (with_reducible refine wt_and ?_)
  | (with_reducible refine wt_or ?_)
  | (with_reducible refine wt_not ?_)
  | (with_reducible refine wt_yes ?_)
  | (with_reducible refine w2_i0 ?_)
  | (with_reducible refine w2_b0 ?_)
  | (with_reducible refine w1_neg ?_)
  | ((with_reducible refine w2_i ?hc ?_); (case hc => first | decide | exact ⟨by decide, by decide⟩ | exact Or.inl ⟨by decide, by decide⟩ | exact Or.inr ⟨by decide, by decide⟩ | exact ⟨by decide, by decide, by decide⟩ | omega); skip)
  | ((with_reducible refine' w_var ?hv ?_); (case hv => exact rfl); skip)
  | ((with_reducible show W2 _ (rEqD _) (Sl.dat (PyData.int _)) (Sl.dat (PyData.int _)) _ _); (refine w2_eqI ?_))
  | ((with_reducible show W2 _ (rNeD _) (Sl.dat (PyData.int _)) (Sl.dat (PyData.int _)) _ _); (refine w2_neI ?_))
  | ((with_reducible show W2 _ (rEqD _) (Sl.dat (PyData.str _)) (Sl.dat (PyData.str _)) _ _); (refine' w2_eqS ?h1 ?h2 ?_); (case h1 => walk_at "str"); (case h2 => walk_at "str"); skip)
  | ((with_reducible show W2 _ (rNeD _) (Sl.dat (PyData.str _)) (Sl.dat (PyData.str _)) _ _); (refine' w2_neS ?h1 ?h2 ?_); (case h1 => walk_at "str"); (case h2 => walk_at "str"); skip)
  | ((with_reducible show W2 _ (rEqD _) _ _ _ _); (refine w2_eq ?ha ?hb ?_); (case ha => first | exact shaped_int _ | exact shaped_bool _ | exact shaped_none); (case hb => first | exact shaped_int _ | exact shaped_bool _ | exact shaped_none); skip)
  | ((with_reducible show W2 _ (rNeD _) _ _ _ _); (refine w2_ne ?ha ?hb ?_); (case ha => first | exact shaped_int _ | exact shaped_bool _ | exact shaped_none); (case hb => first | exact shaped_int _ | exact shaped_bool _ | exact shaped_none); skip)
  | ((with_reducible show W2 _ _ _ _ _ _); (refine w2_isN ?_))
  | ((with_reducible show W2 _ rIsB _ _ _ _); (refine w2_isB ?_))
  | ((with_reducible show W2 _ rNotB _ _ _ _); (refine w2_notB ?_))
  | ((with_reducible show W2 _ _ _ _ _ _); (refine w2_notN ?_))
  | (with_reducible refine wl_lenE ?_)
  | (with_reducible refine wl_lenD ?_)
  | (with_reducible refine wl_lenTD ?_)
  | (with_reducible refine wl_listE ?_)
  | (with_reducible refine wsl_E ?_)
  | ((with_reducible refine' w2_catE ?hl ?_); (try (case hl => walk_at "len")); skip)
  | ((with_reducible refine' w2_rep1 ?h1 ?h2 ?_); (try (case h1 => first | decide | omega)); (try (case h2 => first | decide | omega)); skip)
  | ((with_reducible show WL _ _ [_] _ _); (refine' wl_len ?hl ?_); (case hl => first | exact lsv_dat | exact lsv_ref um_same | exact lsv_ref (by assumption)); skip)
  | ((with_reducible show WL _ _ [_] _ _); (refine' wl_list ?hl ?_); (case hl => first | exact .inl lsv_dat | exact .inl (lsv_ref (by assumption))); skip)
  | ((with_reducible show WSl _ (rSlL _) _ _ _ _ _); (refine' wsl_lst ?hl ?_); (case hl => first | exact lsv_dat | exact lsv_ref um_same | exact lsv_ref (by assumption)); skip)
  | ((with_reducible show WL _ _ [_] _ _); (refine wl_int ?_))
  | ((with_reducible show WL _ _ [_] _ _); (refine wl_intb ?_))
  | ((with_reducible show WL _ _ [_, _] _ _); (refine wl_min ?_))
  | ((with_reducible first | show W2 _ (rIxL _) (Sl.dat (PyData.list (List.cons _ _))) (Sl.dat (PyData.int _)) _ _ | show W2 _ (rIxL _) (Sl.dat (PyData.list (List.map PyData.int (List.cons _ _)))) (Sl.dat (PyData.int _)) _ _); (refine' w2_ixAny ?h0 ?h1 ?_); (case h0 => omega); (case h1 => first | omega | (simp only [List.length_cons, List.length_nil, List.length_map]; omega)); skip)
  | ((with_reducible show W2 _ (rIxL _) _ _ _ _); (refine' w2_ixL ?hs ?hx ?_); (case hs => first | exact lsv_dat | exact lsv_ref um_same | exact lsv_ref (by assumption)); (try (case hx => exact rfl)); skip)
  | ((with_reducible show W2 _ (rIxT _) _ _ _ _); (refine' w2_ixT ?hx ?_); (case hx => exact rfl); skip)
  | ((with_reducible show WL _ (rIsi _) [_, _] _ _); (refine' wl_isi ?hb ?_); (case hb => first | exact isi_bool _ | exact isi_int _ | exact isi_str _ | exact isi_tuple _ | exact isi_list _); skip)
  | ((with_reducible show W _ (tC (V.ty _)) _ _ _); (refine w_raw ?_))
  | ((with_reducible show W _ (tC (V.ref _)) _ _ _); (refine w_raw ?_))
  | ((with_reducible show WSl _ (rSlA _) _ _ _ _ _); (refine wsl_tup ?_))
  | ((with_reducible show WL _ (rTupS _) [Sl.dat (PyData.list _)] _ _); (refine wl_tuple lsv_dat ?_))
  | ((with_reducible show W2 _ (rCatA _) _ _ _ _); (refine' w2_catT ?hl ?_); (try (case hl => walk_at "len")); skip)
  | ((with_reducible show WL _ _ [_] _ _); (refine' wl_lenT ?hl ?_); (case hl => exact tpv_dat); skip)
  | ((with_reducible refine' w_fldI ?hv ?hM ?c ?n ?l ?_); (case hv => exact rfl); (case hM => first | assumption | exact um_same); (case c => assumption); (case n => assumption); (case l => walk_at "fl"); skip)
  | ((with_reducible refine' w_dgetI ?hv ?hM ?hx ?_); (case hv => exact rfl); (case hM => first | assumption | exact um_same); (case hx => walk_at "wg"); skip)
  | ((with_reducible refine' ws_fldI ?hv ?c ?n ?_); (case hv => exact rfl); (case c => assumption); (case n => assumption); skip)
  | (with_reducible refine ws_next ?_)
  | ((with_reducible show WS _ Ends.nx _ _ _); (refine ws_next ?_))
  | (with_reducible refine ite_t rfl ?_)
  | (with_reducible refine ite_f rfl ?_)
  | ((with_reducible refine' ite_t ?hb ?_); (case hb => decide +kernel); skip)
  | ((with_reducible refine' ite_f ?hb ?_); (case hb => decide +kernel); skip)
  | ((with_reducible show ∃ b : Bool, _ = Sl.bl b ∧ _); (with_reducible refine ⟨_, rfl, ?_⟩))
  | ((with_reducible show ∃ i : Int, _ = Sl.int i ∧ _); (with_reducible refine ⟨_, rfl, ?_⟩))
  | ((with_reducible show List.length _ ≤ 100000 ∧ _); (refine ⟨(by simp), ?_⟩))
  | ((with_reducible show ∃ ds : List PyData, datsOf _ = some ds ∧ _); (refine ⟨_, rfl, ?_⟩))))
local macro_rules | `(tactic| walk_at "e") => `(tactic| repeat (first | (with_reducible refine ws_seq ?_) | (walk_at "1")))
local macro_rules | `(tactic| walk_at "g") => `(tactic| repeat (first | (walk_at "1") | ((with_reducible refine w_lstI (wa_cons ?_)); (repeat (walk_at "1")); (with_reducible show ∃ ns : List Int, itemsI _ = some ns ∧ _); (refine ⟨_, rfl, ?_⟩)) | (with_reducible refine w_lstD ?_)))
local macro_rules | `(tactic| walk_at "f") => `(tactic| repeat (first | (with_reducible refine ws_seq ?_) | (walk_at "1") | ((with_reducible refine w_lstI (wa_cons ?_)); (repeat (walk_at "1")); (with_reducible show ∃ ns : List Int, itemsI _ = some ns ∧ _); (refine ⟨_, rfl, ?_⟩)) | (with_reducible refine w_lstD ?_)))
local macro_rules | `(tactic| walk_at "k") => `(tactic| first | dsimp only [cxOf, Cx.nox, Cx.wish] | skip)

local macro_rules | `(tactic| walk_at "fl") => `(tactic| with_reducible first | exact sl_r _ | exact sl_f _ | exact sl_u _ | exact sl_n _)

section
variable {P : Program} {w : World} {K : PySem.W.Frag} {mg : Str → Option Value} {base : Heap} {a : AD} {d : FD}
def A_lchanges : ASp := fun ss M Q => ∃ p xs os, ss = [.raw (.ref p), .dat (.list (List.map Item.enc os))] ∧ M p = some (.lst xs) ∧ DrawL xs ∧ (∀ x ∈ os, Item.ok x) ∧ os.length ≤ 100 ∧ ∀ (chs : List Chg) (ys : List Sl), (∀ x ∈ chs, Chg.ok x) → chs.length ≤ 10 → DrawL ys → Q (.dat (.list (chs.map Chg.enc))) (Ab.um M p (.lst ys))
/-- the map while changes are drawn -/
def dm (M : MH) (p q : Addr) (ys : List Sl) (chs : List Chg) : MH := Ab.um (Ab.um M p (.lst ys)) q (.lst (chs.map fun x => .dat x.enc))
theorem dm_p {M : MH} {p q : Addr} {ys : List Sl} {chs : List Chg} (h : p ≠ q) : dm M p q ys chs p = some (.lst ys) := by unfold dm; rw [um_ne h, um_same]
theorem dm_q {M : MH} {p q : Addr} {ys : List Sl} {chs : List Chg} : dm M p q ys chs q = some (.lst (chs.map fun x => .dat x.enc)) := um_same
theorem dm_draw {M : MH} {p q : Addr} {ys zs : List Sl} {chs : List Chg} (h : p ≠ q) : Ab.um (dm M p q ys chs) p (.lst zs) = dm M p q zs chs := by unfold dm; rw [um_comm h.symm, um_um]
theorem dm_put {M : MH} {p q : Addr} {ys : List Sl} {chs : List Chg} {x : Chg} : Ab.um (dm M p q ys chs) q (.lst ((chs.map fun x => .dat x.enc) ++ [.dat x.enc])) = dm M p q ys (chs ++ [x]) := by unfold dm; rw [um_um, List.map_append]; rfl
theorem ws_mid {K : KX} {t : TS} {ρ : Rho} {M : MH} {nx bk ct : Rho → MH → Prop} {rt : Sl → MH → Prop} (R : Rho → MH → Prop) (h : WS K t ρ M ⟨R, rt, bk, ct⟩) (i : ∀ ρ' M', R ρ' M' → nx ρ' M') : WS K t ρ M ⟨nx, rt, bk, ct⟩ := WS.imp h i (fun _ _ z => z) (fun _ _ z => z) fun _ _ z => z
theorem ok_lchanges (T : Txt K mg a d) : FnOk P w K mg base CX0 8 a.law_changes d.law_changes ["_law_state", "_law_ordered"] (conc K A_lchanges) := by
  have G_law_next : FnOk P w K mg base CX0 1 a.law_next d.law_next ["_law_state", "_law_limit"] (conc K A_next) := ok_next T
  have G_law_item := ok_item (P := P) (w := w) (base := base) T
  have G_law_key := ok_law_key (P := P) (w := w) (base := base) T
  refine ab_ok T.F_law_changes sc_law_changes (fun ss M Q ⟨p, xs, os, e, _⟩ => by subst e; rfl) fun cdv Ar outer s H E hr => ?_
  have hu64 := hr.units
  refine ⟨_, (pss_cons (ps_set (i := 2) sc_law_changes.nd rfl (Or.inl rfl) (pe_lst pa_nil))
  (pss_cons (ps_for PassesOwn.never rfl (pi_range1 rfl T.n_range (pa_cons (pe_call G_law_next (hr.mono (by omega)) (by rfl) T.g_law_next T.F_law_next.kp T.b_law_next .nil pass0 (pa_cons (pv 0) (pa_cons pe_int pa_nil))) pa_nil)) (pg_name (i := 3) sc_law_changes.nd rfl (Or.inl rfl)) (pss_cons (ps_set (i := 4) sc_law_changes.nd rfl (Or.inl rfl) (pe_call G_law_item (hr.mono (by omega)) (by rfl) T.g_law_item T.F_law_item.kp T.b_law_item .nil pass0 (pa_cons (pv 0) pa_nil)))
  (pss_cons (ps_if (PW.pt (pw_and (pt_cmpR op_gt (pe_callB (r := rLenS K) call_len_seq (by rfl) T.n_len PySem.boot_len (pa_cons (pv 1) pa_nil)) pe_int (nomark _)) (pw_and1 (pt_cmpR (r := rEqD K) (op_eqD hu64) (pe_call G_law_next (hr.mono (by omega)) (by rfl) T.g_law_next T.F_law_next.kp T.b_law_next .nil pass0 (pa_cons (pv 0) (pa_cons pe_int pa_nil))) pe_int (nomark _))))) (pss_one (ps_set (i := 4) sc_law_changes.nd rfl (Or.inl rfl) (pe_ix (r := rIxL K) ix_list (pv 1) (pe_call G_law_next (hr.mono (by omega)) (by rfl) T.g_law_next T.F_law_next.kp T.b_law_next .nil pass0 (pa_cons (pv 0) (pa_cons (pe_callB (r := rLenS K) call_len_seq (by rfl) T.n_len PySem.boot_len (pa_cons (pv 1) pa_nil)) pa_nil))) (fun _ _ => rfl)))) pss_nil)
  (pss_one (ps_expr (pe_bm PySem.F.plainAttrs_list PySem.F.slot_list_append PySem.F.type_list_append mt_append (pv 2) (pa_cons (pe_ix (r := rIxL K) ix_list (pe_lst (pa_cons (pe_tup (pa_cons pe_str (pa_cons (pv 4) pa_nil))) (pa_cons (pe_tup (pa_cons pe_str (pa_cons (pe_call G_law_key (hr.mono (by omega)) (by rfl) T.g_law_key T.F_law_key.kp T.b_law_key .nil pass0 (pa_cons (pv 4) pa_nil)) pa_nil))) pa_nil))) (pe_call G_law_next (hr.mono (by omega)) (by rfl) T.g_law_next T.F_law_next.kp T.b_law_next .nil pass0 (pa_cons (pv 0) (pa_cons pe_int pa_nil))) (fun _ _ => rfl)) pa_nil)))))))
  (pss_one (ps_ret (pv 2))))), ?_⟩
  rintro ss M Q ⟨p, xs, os, rfl, hp, hD, hos, lo, q⟩
  walk_at "k"
  show WS K _ [some (.raw (.ref p)), some (.dat (.list (os.map Item.enc))), none, none, none] M _
  refine ws_seq (ws_set (w_lstM (wa_nil ⟨by simp, fun c hc => ?_⟩)))
  have pc : p ≠ c := fun z => by rw [← z, hp] at hc; cases hc
  have e0 : Ab.um M c (.lst []) = dm M p c xs [] := by unfold dm; rw [um_id hp]; rfl
  rw [e0]
  refine ws_seq (ws_forRn ?_)
  walk_at "f"
  refine ⟨p, 11, xs, rfl, dm_p pc, hD, by decide, by decide, fun v zs v0 v1 hz => ?_⟩
  rw [dm_draw pc]
  walk_at "f"
  refine ⟨v, rfl, by omega, by omega, fun i ρ' M' => ∃ y3 y4 chs ys, ρ' = [some (.raw (.ref p)), some (.dat (.list (os.map Item.enc))), some (.raw (.ref c)), y3, y4] ∧ M' = dm M p c ys chs ∧ DrawL ys ∧ chs.length ≤ i ∧ ∀ x ∈ chs, Chg.ok x, ⟨none, none, [], zs, rfl, rfl, hz, Nat.le_refl _, fun _ h => (nomatch h)⟩, ?_, ?_⟩
  · rintro i ρ' M' hi ⟨y3, y4, chs, ys, rfl, rfl, hy, lc, hch⟩
    refine wg_name ?_
    walk_at "f"
    refine ⟨p, ys, [], rfl, rfl, dm_p pc, hy, fun d zs hP hz => ?_⟩
    obtain ⟨it, rfl, hit⟩ := hP
    rw [dm_draw pc]
    show WS K _ [some (.raw (.ref p)), some (.dat (.list (os.map Item.enc))), some (.raw (.ref c)), some (.int (i : Int)), some (.dat it.enc)] (dm M p c zs chs) _
    refine ws_seq (ws_mid (fun ρ' M' => ∃ it ys, ρ' = [some (.raw (.ref p)), some (.dat (.list (os.map Item.enc))), some (.raw (.ref c)), some (.int (i : Int)), some (.dat (Item.enc it))] ∧ M' = dm M p c ys chs ∧ DrawL ys ∧ Item.ok it) ?_ ?_)
    · walk_at "f"
      refine ite_d (fun hl => ?_) (fun hl => ?_)
      · walk_at "f"
        refine ⟨p, 2, zs, rfl, dm_p pc, hz, by decide, by decide, fun v z2 v0 v1 hz2 => ?_⟩
        rw [dm_draw pc]
        walk_at "f"
        refine ite_d (fun hv => ?_) (fun hv => ?_)
        · walk_at "f"
          refine ⟨p, _, z2, rfl, dm_p pc, hz2, by omega, Int.le_trans (b := 100) (by omega) (by decide), fun j z3 j0 j1 hz3 => ?_⟩
          rw [dm_draw pc]
          refine w2_ixAny j0 (by rw [List.length_map]; omega) fun d hd => ?_
          obtain ⟨it2, hi2, rfl⟩ := List.mem_map.mp hd
          exact ⟨it2, z3, rfl, rfl, hz3, hos it2 hi2⟩
        · walk_at "f"
          exact ⟨it, z2, rfl, rfl, hz2, hit⟩
      · walk_at "f"
        exact ⟨it, zs, rfl, rfl, hz, hit⟩
    rintro ρ' M' ⟨it, ys, rfl, rfl, hy, hit⟩
    refine ws_drop (w_bm (w_var rfl ⟨ty_lst (lsv_ref dm_q), wa_cons (w_op ?_)⟩))
    walk_at "f"
    refine ⟨it, rfl, ?_⟩
    walk_at "f"
    refine ⟨p, 2, ys, rfl, dm_p pc, hy, by decide, by decide, fun v z2 v0 v1 hz2 => ?_⟩
    rw [dm_draw pc]
    have hv : v = 0 ∨ v = 1 := by omega
    have fin : ∀ x : Chg, x.ok → ∀ z ∈ chs ++ [x], Chg.ok z := fun x hx y hy => (List.mem_append.mp hy).elim (hch y) fun z => by rw [List.mem_singleton.mp z]; exact hx
    have lf : ∀ x : Chg, (chs ++ [x]).length ≤ i + 1 := fun x => by rw [List.length_append]; exact Nat.succ_le_succ lc
    rcases hv with rfl | rfl
    · refine w2_ixL (x := .dat (Chg.comes it).enc) lsv_dat (by rfl) (wa_nil (wm_append dm_q (by rw [List.length_map]; omega) ?_))
      rw [dm_put]
      exact ⟨_, _, chs ++ [.comes it], z2, rfl, rfl, hz2, lf _, fin (.comes it) hit⟩
    · refine w2_ixL (x := .dat (Chg.goes it).enc) lsv_dat (by rfl) (wa_nil (wm_append dm_q (by rw [List.length_map]; omega) ?_))
      rw [dm_put]
      exact ⟨_, _, chs ++ [.goes it], z2, rfl, rfl, hz2, lf _, fin (.goes it) hit⟩
  rintro ρ' M' ⟨y3, y4, chs, ys, rfl, rfl, hy, lc, hch⟩
  refine ws_ret (w_frz (w_var rfl ⟨c, chs.map Chg.enc, rfl, by rw [dm_q, List.map_map]; rfl, ?_⟩))
  have e1 : del (dm M p c ys chs) c = Ab.um M p (.lst ys) := by unfold dm; rw [del_um (by rw [um_ne pc.symm]; exact hc)]
  rw [e1]
  exact q chs ys hch (by omega) hy
end
end K03


set_option Elab.async false
set_option linter.all false
set_option maxRecDepth 100000
set_option  maxHeartbeats 4000000
namespace K03
open PySem PyProof.Rows L2 Ab
local macro_rules | `(tactic| walk_at "len") => `(tactic| first | decide | omega | (simp only [List.length_append, List.length_map, List.length_replicate, List.length_cons, List.length_nil, List.length_take, List.length_drop, List.length_reverse, List.length_range]; omega))
local macro_rules | `(tactic| walk_at "str") => `(tactic| first | decide +kernel | exact goodS_ok (by assumption) | assumption)
local macro_rules | `(tactic| walk_at "1") => `(tactic| (first
  | (with_reducible refine ws_set ?_)
  | (with_reducible refine ws_ret ?_)
  | (with_reducible refine ws_if ?_)
  | (with_reducible refine ws_drop ?_)
  | (with_reducible refine w_op ?_)
  | (with_reducible refine w_un ?_)
  | (with_reducible refine w_int ?_)
  | (with_reducible refine w_bl ?_)
  | (with_reducible refine w_non ?_)
  | (with_reducible refine w_str ?_)
  | (with_reducible refine w_cb ?_)
  | (with_reducible refine w_call ?_)
  | (with_reducible refine w_sl ?_)
  | (with_reducible refine w_tupD ?_)
  | (with_reducible refine w_chain ?_)
  | (with_reducible refine w_andV ?_)
  | (with_reducible refine w_orV ?_)
  | (with_reducible refine w_notV ?_)
  | (with_reducible refine wo_none ?_)
  | (with_reducible refine wo_some ?_)
  | (with_reducible refine wa_cons ?_)
  | (with_reducible refine wa_nil ?_)
  | (with_reducible refine wt_test ?_)
  | (with_reducible refine wt_B ?_)
  | (with_reducible refine wt_and ?_)
  | (with_reducible refine wt_or ?_)
  | (with_reducible refine wt_not ?_)
  | (with_reducible refine wt_yes ?_)
  | (with_reducible refine w2_i0 ?_)
  | (with_reducible refine w2_b0 ?_)
  | (with_reducible refine w1_neg ?_)
  | ((with_reducible refine w2_i ?hc ?_); (case hc => first | decide | exact ⟨by decide, by decide⟩ | exact Or.inl ⟨by decide, by decide⟩ | exact Or.inr ⟨by decide, by decide⟩ | exact ⟨by decide, by decide, by decide⟩ | omega); skip)
  | ((with_reducible refine' w_var ?hv ?_); (case hv => exact rfl); skip)
  | ((with_reducible show W2 _ (rEqD _) (Sl.dat (PyData.int _)) (Sl.dat (PyData.int _)) _ _); (refine w2_eqI ?_))
  | ((with_reducible show W2 _ (rNeD _) (Sl.dat (PyData.int _)) (Sl.dat (PyData.int _)) _ _); (refine w2_neI ?_))
  | ((with_reducible show W2 _ (rEqD _) (Sl.dat (PyData.str _)) (Sl.dat (PyData.str _)) _ _); (refine' w2_eqS ?h1 ?h2 ?_); (case h1 => walk_at "str"); (case h2 => walk_at "str"); skip)
  | ((with_reducible show W2 _ (rNeD _) (Sl.dat (PyData.str _)) (Sl.dat (PyData.str _)) _ _); (refine' w2_neS ?h1 ?h2 ?_); (case h1 => walk_at "str"); (case h2 => walk_at "str"); skip)
  | ((with_reducible show W2 _ (rEqD _) _ _ _ _); (refine w2_eq ?ha ?hb ?_); (case ha => first | exact shaped_int _ | exact shaped_bool _ | exact shaped_none); (case hb => first | exact shaped_int _ | exact shaped_bool _ | exact shaped_none); skip)
  | ((with_reducible show W2 _ (rNeD _) _ _ _ _); (refine w2_ne ?ha ?hb ?_); (case ha => first | exact shaped_int _ | exact shaped_bool _ | exact shaped_none); (case hb => first | exact shaped_int _ | exact shaped_bool _ | exact shaped_none); skip)
  | ((with_reducible show W2 _ _ _ _ _ _); (refine w2_isN ?_))
  | ((with_reducible show W2 _ rIsB _ _ _ _); (refine w2_isB ?_))
  | ((with_reducible show W2 _ rNotB _ _ _ _); (refine w2_notB ?_))
  | ((with_reducible show W2 _ _ _ _ _ _); (refine w2_notN ?_))
  | (with_reducible refine wl_lenE ?_)
  | (with_reducible refine wl_lenD ?_)
  | (with_reducible refine wl_lenTD ?_)
  | (with_reducible refine wl_listE ?_)
  | (with_reducible refine wsl_E ?_)
  | ((with_reducible refine' w2_catE ?hl ?_); (try (case hl => walk_at "len")); skip)
  | ((with_reducible refine' w2_rep1 ?h1 ?h2 ?_); (try (case h1 => first | decide | omega)); (try (case h2 => first | decide | omega)); skip)
  | ((with_reducible show WL _ _ [_] _ _); (refine' wl_len ?hl ?_); (case hl => first | exact lsv_dat | exact lsv_ref um_same | exact lsv_ref (by assumption)); skip)
  | ((with_reducible show WL _ _ [_] _ _); (refine' wl_list ?hl ?_); (case hl => first | exact .inl lsv_dat | exact .inl (lsv_ref (by assumption))); skip)
  | ((with_reducible show WSl _ (rSlL _) _ _ _ _ _); (refine' wsl_lst ?hl ?_); (case hl => first | exact lsv_dat | exact lsv_ref um_same | exact lsv_ref (by assumption)); skip)
  | ((with_reducible show WL _ _ [_] _ _); (refine wl_int ?_))
  | ((with_reducible show WL _ _ [_] _ _); (refine wl_intb ?_))
  | ((with_reducible show WL _ _ [_, _] _ _); (refine wl_min ?_))
  | ((with_reducible first | show W2 _ (rIxL _) (Sl.dat (PyData.list (List.cons _ _))) (Sl.dat (PyData.int _)) _ _ | show W2 _ (rIxL _) (Sl.dat (PyData.list (List.map PyData.int (List.cons _ _)))) (Sl.dat (PyData.int _)) _ _); (refine' w2_ixAny ?h0 ?h1 ?_); (case h0 => omega); (case h1 => first | omega | (simp only [List.length_cons, List.length_nil, List.length_map]; omega)); skip)
  | ((with_reducible show W2 _ (rIxL _) _ _ _ _); (refine' w2_ixL ?hs ?hx ?_); (case hs => first | exact lsv_dat | exact lsv_ref um_same | exact lsv_ref (by assumption)); (try (case hx => exact rfl)); skip)
  | ((with_reducible show W2 _ (rIxT _) _ _ _ _); (refine' w2_ixT ?hx ?_); (case hx => exact rfl); skip)
  | ((with_reducible show WL _ (rIsi _) [_, _] _ _); (refine' wl_isi ?hb ?_); (case hb => first | exact isi_bool _ | exact isi_int _ | exact isi_str _ | exact isi_tuple _ | exact isi_list _); skip)
  | ((with_reducible show W _ (tC (V.ty _)) _ _ _); (refine w_raw ?_))
  | ((with_reducible show W _ (tC (V.ref _)) _ _ _); (refine w_raw ?_))
  | ((with_reducible show WSl _ (rSlA _) _ _ _ _ _); (refine wsl_tup ?_))
  | ((with_reducible show WL _ (rTupS _) [Sl.dat (PyData.list _)] _ _); (refine wl_tuple lsv_dat ?_))
  | ((with_reducible show W2 _ (rCatA _) _ _ _ _); (refine' w2_catT ?hl ?_); (try (case hl => walk_at "len")); skip)
  | ((with_reducible show WL _ _ [_] _ _); (refine' wl_lenT ?hl ?_); (case hl => exact tpv_dat); skip)
  | ((with_reducible refine' w_fldI ?hv ?hM ?c ?n ?l ?_); (case hv => exact rfl); (case hM => first | assumption | exact um_same); (case c => assumption); (case n => assumption); (case l => walk_at "fl"); skip)
  | ((with_reducible refine' w_dgetI ?hv ?hM ?hx ?_); (case hv => exact rfl); (case hM => first | assumption | exact um_same); (case hx => walk_at "wg"); skip)
  | ((with_reducible refine' ws_fldI ?hv ?c ?n ?_); (case hv => exact rfl); (case c => assumption); (case n => assumption); skip)
  | (with_reducible refine ws_next ?_)
  | ((with_reducible show WS _ Ends.nx _ _ _); (refine ws_next ?_))
  | (with_reducible refine ite_t rfl ?_)
  | (with_reducible refine ite_f rfl ?_)
  | ((with_reducible refine' ite_t ?hb ?_); (case hb => decide +kernel); skip)
  | ((with_reducible refine' ite_f ?hb ?_); (case hb => decide +kernel); skip)
  | ((with_reducible show ∃ b : Bool, _ = Sl.bl b ∧ _); (with_reducible refine ⟨_, rfl, ?_⟩))
  | ((with_reducible show ∃ i : Int, _ = Sl.int i ∧ _); (with_reducible refine ⟨_, rfl, ?_⟩))
  | ((with_reducible show List.length _ ≤ 100000 ∧ _); (refine ⟨(by simp), ?_⟩))
  | ((with_reducible show ∃ ds : List PyData, datsOf _ = some ds ∧ _); (refine ⟨_, rfl, ?_⟩))))
local macro_rules | `(tactic| walk_at "e") => `(tactic| repeat (first | (with_reducible refine ws_seq ?_) | (walk_at "1")))
local macro_rules | `(tactic| walk_at "g") => `(tactic| repeat (first | (walk_at "1") | ((with_reducible refine w_lstI (wa_cons ?_)); (repeat (walk_at "1")); (with_reducible show ∃ ns : List Int, itemsI _ = some ns ∧ _); (refine ⟨_, rfl, ?_⟩)) | (with_reducible refine w_lstD ?_)))
local macro_rules | `(tactic| walk_at "f") => `(tactic| repeat (first | (with_reducible refine ws_seq ?_) | (walk_at "1") | ((with_reducible refine w_lstI (wa_cons ?_)); (repeat (walk_at "1")); (with_reducible show ∃ ns : List Int, itemsI _ = some ns ∧ _); (refine ⟨_, rfl, ?_⟩)) | (with_reducible refine w_lstD ?_)))
local macro_rules | `(tactic| walk_at "k") => `(tactic| first | dsimp only [cxOf, Cx.nox, Cx.wish] | skip)

local macro_rules | `(tactic| walk_at "fl") => `(tactic| with_reducible first | exact sl_r _ | exact sl_f _ | exact sl_u _ | exact sl_n _)

section
variable {P : Program} {w : World} {K : PySem.W.Frag} {mg : Str → Option Value} {base : Heap} {a : AD} {d : FD}
/-! a state that is spoilt -/
/-- a copy that is being spoilt: its rows first -/
structure Sp1 (M0 M' : MH) (B : SA) (od : Obj) (v : HO) (i : Nat) : Prop where
  fz : M' B.f = some (.frz od v (.dK (kvF B)))
  ext : ∀ b u, M0 b = some u → b ≠ B.f → (∀ n, valG B.fa n ≠ some b) → M' b = some u
  rows : ∀ n a, valG B.fa n = some a → ∃ rs : List PyData, M' a = some (.lst (rs.map .dat)) ∧ rs.length ≤ 1000 + i
structure Sp2 (M0 M' : MH) (B : SA) (i : Nat) : Prop where
  r : ∃ R, M' B.r = some (.dK (kvG id R)) ∧ R.length ≤ 40 + i
  u : ∃ U, M' B.u = some (.dK (kvG PyData.tuple U)) ∧ U.length ≤ 40 + i ∧ ∀ n l, valG U n = some l → l.length ≤ 8
  n : ∃ N, M' B.n = some (.dK (kvG id N)) ∧ N.length ≤ 40 + i
  ext : ∀ b u, M0 b = some u → b ≠ B.r → b ≠ B.u → b ≠ B.n → M' b = some u
theorem SeAt.tr {C : Addr} {M N : MH} {A : SA} {c : Ct} (h : SeAt C M A c) (e : ∀ b u, A.own b → M b = some u → N b = some u) : SeAt C N A c := ⟨e _ _ (.inl rfl) h.ho, e _ _ (.inr (.inl rfl)) h.hr, e _ _ (.inr (.inr (.inl rfl))) h.hf, e _ _ (.inr (.inr (.inr (.inl rfl)))) h.hu, e _ _ (.inr (.inr (.inr (.inr (.inl rfl))))) h.hn, h.ne, h.keys, fun n a z => e _ _ (.inr (.inr (.inr (.inr (.inr ⟨n, z⟩))))) (h.rows n a z), h.inj⟩
theorem SeAt.some {C : Addr} {M : MH} {A : SA} {c : Ct} (h : SeAt C M A c) {b : Addr} (ho : A.own b) : ∃ u, M b = .some u := by
  cases e : M b with
  | none => exact absurd ho (h.new e)
  | some u => exact ⟨u, rfl⟩

theorem chgs_okD {cs : List Chg} (h : ∀ x ∈ cs, Chg.ok x) (hl : cs.length ≤ 100) : okD 9 (.list (cs.map Chg.enc)) = true := okD_mkL (by rw [List.length_map]; omega) (okAll_of fun d hd => by
  obtain ⟨x, hx, rfl⟩ := List.mem_map.mp hd
  exact Chg.okD (h x hx))
theorem bet_ok {xs ys : List Item} (hx : ∀ x ∈ xs, Item.ok x) (hy : ∀ y ∈ ys, Item.ok y) : ∀ z ∈ betI xs ys, Chg.ok z := fun z hz => by
  unfold betI at hz
  rcases List.mem_append.mp hz with hz | hz
  · obtain ⟨x, h, rfl⟩ := List.mem_map.mp hz
    exact hx x (List.mem_filter.mp h).1
  · obtain ⟨x, h, rfl⟩ := List.mem_map.mp hz
    exact hy x (List.mem_filter.mp h).1
theorem bet_len (xs ys : List Item) : (betI xs ys).length ≤ xs.length + ys.length := by
  unfold betI
  rw [List.length_append, List.length_map, List.length_map]
  exact Nat.add_le_add (List.length_filter_le _ _) (List.length_filter_le _ _)
theorem bet_self (ys : List Item) : betI ys ys = [] := by
  unfold betI
  have h1 : (ys.filter fun x => !decide (Ab.keyOf x ∈ ys.map Ab.keyOf)) = [] := List.filter_eq_nil_iff.mpr fun x hx => by
    rw [decide_eq_true (List.mem_map.mpr ⟨x, hx, rfl⟩)]
    exact Bool.false_ne_true
  have h2 : (ys.filter fun y => !decide (y ∈ ys)) = [] := List.filter_eq_nil_iff.mpr fun x hx => by
    rw [decide_eq_true hx]
    exact Bool.false_ne_true
  rw [h1, h2]
  rfl
/-- a new state of ordered items -/
theorem holds_new {xs : List Item} (hx : ∀ x ∈ xs, Item.ok x) (px : xs.Pairwise iLt) : Holds (puts xs) xs xs.length := by
  have := holds_puts hx
  rw [orderd_id px] at this
  exact this
/-- what a change needs -/
theorem chg_st {xs : List Item} {chs : List Chg} (hx : ∀ x ∈ xs, Item.ok x) (px : xs.Pairwise iLt) (hc : ∀ x ∈ chs, Chg.ok x) (hl : 2 * xs.length + chs.length < 64) : ∀ i, i ≤ chs.length → CtOk (chgs (puts xs).tidy (chs.take i)) ∧ Ct.small (chgs (puts xs).tidy (chs.take i)) := fun i hi => by
  have h := (holds_new hx px).tidy.chgs (cs := chs.take i) fun x z => hc x (List.mem_of_mem_take z)
  have e : (chs.take i).length ≤ chs.length := by rw [List.length_take]; omega
  exact ⟨h.N.ok (by omega), h.N.small (by omega)⟩
theorem ok_law (T : Txt K mg a d) : FnOk P w K mg base CX0 12 a.law d.law ["_law_script"] (scriptA K) := by
  have cl := T.cl_State
  have n1 := T.na_State_relations
  have n2 := T.na_State_facts
  have n3 := T.na_State_rules
  have n4 := T.na_State_denials
  have G_law_next : FnOk P w K mg base CX0 1 a.law_next d.law_next ["_law_state", "_law_limit"] (conc K A_next) := ok_next T
  have G_law_items := ok_litems (P := P) (w := w) (base := base) T
  have G_law_changed := ok_lchanged (P := P) (w := w) (base := base) T
  have G_law_changes := ok_lchanges (P := P) (w := w) (base := base) T
  have G_law_between := ok_lbetween (P := P) (w := w) (base := base) T
  have G_between := ok_between (P := P) (w := w) (base := base) T
  have G_State___init__ := ok_init (P := P) (w := w) (base := base) T
  have G_State_change := ok_change (P := P) (w := w) (base := base) T
  have G_law_is_state := ok_isstate (P := P) (w := w) (base := base) T
  have S1 := (ok_sameN (P := P) (w := w) (base := base) T 10)
  have S2 := (ok_sameM (P := P) (w := w) (base := base) T 8)
  have G_law_same : FnOk P w K mg base CX0 10 a.law_same d.law_same ["_law_actual", "_law_expected"] (conc K (orA (A_sameN 10) (A_sameM 8))) := fn_or S1 S2
  refine ab_ok T.F_law sc_law (fun ss M Q ⟨p, xs, e, _⟩ => by subst e; rfl) fun cdv Ar outer s H E hr => ?_
  have hu64 := hr.units
  refine ⟨_, (pss_cons (ps_set (i := 1) sc_law.nd rfl (Or.inl rfl) (pe_lst (pa_cons (pe_callTy (r := rListS K) call_list_of (by rfl) T.n_list (by decide +kernel) (pa_cons (pv 0) pa_nil)) (pa_cons pe_int (pa_cons pe_int (pa_cons pe_int pa_nil))))))
  (pss_cons (ps_set (i := 2) sc_law.nd rfl (Or.inl rfl) (pe_ix (r := rIxT K) ix_tup (pe_call G_law_items (hr.mono (by omega)) (by rfl) T.g_law_items T.F_law_items.kp T.b_law_items .nil pass0 (pa_cons (pv 1) (pa_cons pe_int pa_nil))) pe_int (fun _ _ => rfl)))
  (pss_cons (ps_set (i := 3) sc_law.nd rfl (Or.inl rfl) (pe_ix (r := rIxT K) ix_tup (pe_call G_law_items (hr.mono (by omega)) (by rfl) T.g_law_items T.F_law_items.kp T.b_law_items .nil pass0 (pa_cons (pv 1) (pa_cons pe_int pa_nil))) pe_int (fun _ _ => rfl)))
  (pss_cons (ps_if (pt_cmpR (r := rEqD K) (op_eqD hu64) (pe_call G_law_next (hr.mono (by omega)) (by rfl) T.g_law_next T.F_law_next.kp T.b_law_next .nil pass0 (pa_cons (pv 1) (pa_cons pe_int pa_nil))) pe_int (nomark _)) (pss_one (ps_set (i := 3) sc_law.nd rfl (Or.inl rfl) (pe_call G_law_changed (hr.mono (by omega)) (by rfl) T.g_law_changed T.F_law_changed.kp T.b_law_changed .nil pass0 (pa_cons (pv 2) (pa_cons (pe_call G_law_changes (hr.mono (by omega)) (by rfl) T.g_law_changes T.F_law_changes.kp T.b_law_changes .nil pass0 (pa_cons (pv 1) (pa_cons (pv 2) pa_nil))) pa_nil))))) pss_nil)
  (pss_cons (ps_set (i := 4) sc_law.nd rfl (Or.inl rfl) (pe_make T.mk_State G_State___init__ (hr.mono (by omega)) (by rfl) T.g_State T.b_State___init__ .nil pass0 (pa_cons (pe_callTy (r := rListS K) call_list_of (by rfl) T.n_list (by decide +kernel) (pa_cons (pv 2) pa_nil)) pa_nil)))
  (pss_cons (ps_set (i := 5) sc_law.nd rfl (Or.inl rfl) (pe_make T.mk_State G_State___init__ (hr.mono (by omega)) (by rfl) T.g_State T.b_State___init__ .nil pass0 (pa_cons (pe_callTy (r := rListS K) call_list_of (by rfl) T.n_list (by decide +kernel) (pa_cons (pv 3) pa_nil)) pa_nil)))
  (pss_cons (ps_set (i := 6) sc_law.nd rfl (Or.inl rfl) (pe_call G_between (hr.mono (by omega)) (by rfl) T.g_between T.F_between.kp T.b_between .nil pass0 (pa_cons (pv 4) (pa_cons (pv 5) pa_nil))))
  (pss_cons (ps_if (PW.pt (pw_or (pt_not (pt_val (pe_call G_law_same (hr.mono (by omega)) (by rfl) T.g_law_same T.F_law_same.kp T.b_law_same .nil pass0 (pa_cons (pv 6) (pa_cons (pe_call G_law_between (hr.mono (by omega)) (by rfl) T.g_law_between T.F_law_between.kp T.b_law_between .nil pass0 (pa_cons (pv 2) (pa_cons (pv 3) pa_nil))) pa_nil))))) (pw_or1 (pt_not (pt_val (pe_call G_law_is_state (hr.mono (by omega)) (by rfl) T.g_law_is_state T.F_law_is_state.kp T.b_law_is_state .nil pass0 (pa_cons (pe_meth (pv 4) T.cl_State T.m_State_change G_State_change (hr.mono (by omega)) T.b_State_change .nil pass0 (pa_cons (pv 6) pa_nil)) (pa_cons (pv 3) pa_nil)))))))) (pss_one (ps_ret pe_bl)) pss_nil)
  (pss_cons (ps_if (PW.pt (pw_or (pt_not (pt_val (pe_call G_law_same (hr.mono (by omega)) (by rfl) T.g_law_same T.F_law_same.kp T.b_law_same .nil pass0 (pa_cons (pe_call G_between (hr.mono (by omega)) (by rfl) T.g_between T.F_between.kp T.b_between .nil pass0 (pa_cons (pv 5) (pa_cons (pv 5) pa_nil))) (pa_cons (pe_lst pa_nil) pa_nil))))) (pw_or (pt_not (pt_val (pe_call G_law_is_state (hr.mono (by omega)) (by rfl) T.g_law_is_state T.F_law_is_state.kp T.b_law_is_state .nil pass0 (pa_cons (pv 4) (pa_cons (pv 2) pa_nil))))) (pw_or1 (pt_not (pt_val (pe_call G_law_is_state (hr.mono (by omega)) (by rfl) T.g_law_is_state T.F_law_is_state.kp T.b_law_is_state .nil pass0 (pa_cons (pv 5) (pa_cons (pv 3) pa_nil))))))))) (pss_one (ps_ret pe_bl)) pss_nil)
  (pss_cons (ps_set (i := 6) sc_law.nd rfl (Or.inl rfl) (pe_call G_law_changes (hr.mono (by omega)) (by rfl) T.g_law_changes T.F_law_changes.kp T.b_law_changes .nil pass0 (pa_cons (pv 1) (pa_cons (pv 2) pa_nil))))
  (pss_cons (ps_set (i := 7) sc_law.nd rfl (Or.inl rfl) (pe_callTy (r := rListS K) call_list_of (by rfl) T.n_list (by decide +kernel) (pa_cons (pv 6) pa_nil)))
  (pss_cons (ps_set (i := 8) sc_law.nd rfl (Or.inl rfl) (pe_meth (pv 4) T.cl_State T.m_State_change G_State_change (hr.mono (by omega)) T.b_State_change .nil pass0 (pa_cons (pv 7) pa_nil)))
  (pss_cons (ps_if (PW.pt (pw_or (pt_not (pt_val (pe_call G_law_is_state (hr.mono (by omega)) (by rfl) T.g_law_is_state T.F_law_is_state.kp T.b_law_is_state .nil pass0 (pa_cons (pv 8) (pa_cons (pe_call G_law_changed (hr.mono (by omega)) (by rfl) T.g_law_changed T.F_law_changed.kp T.b_law_changed .nil pass0 (pa_cons (pv 2) (pa_cons (pv 6) pa_nil))) pa_nil))))) (pw_or1 (pt_not (pt_val (pe_call G_law_same (hr.mono (by omega)) (by rfl) T.g_law_same T.F_law_same.kp T.b_law_same .nil pass0 (pa_cons (pv 7) (pa_cons (pv 6) pa_nil)))))))) (pss_one (ps_ret pe_bl)) pss_nil)
  (pss_cons (ps_lock (ps_for PassesOwn.never rfl (pi_keys (pe_fld (pv 8) rfl)) (pg_name (i := 9) sc_law.nd rfl (Or.inl rfl)) (pss_cons (ps_set (i := 10) sc_law.nd rfl (Or.inl rfl) (pe_dget (hu1 hu64) (pe_fld (pv 8) rfl) (pv 9) (fun _ _ => rfl)))
  (pss_one (ps_expr (pe_bm PySem.F.plainAttrs_list PySem.F.slot_list_append PySem.F.type_list_append mt_append (pv 10) (pa_cons (pe_tup (pa_cons pe_str pa_nil)) pa_nil)))))))
  (pss_cons (ps_for PassesOwn.never rfl (pi_list (pe_lst (pa_cons (pe_fld (pv 8) rfl) (pa_cons (pe_fld (pv 8) rfl) (pa_cons (pe_fld (pv 8) rfl) pa_nil))))) (pg_name (i := 11) sc_law.nd rfl (Or.inl rfl)) (pss_one (ps_dput (hu1 hu64) (pv 11) pe_str (pe_tup pa_nil) rfl)))
  (pss_one (ps_ret (pe_call G_law_is_state (hr.mono (by omega)) (by rfl) T.g_law_is_state T.F_law_is_state.kp T.b_law_is_state .nil pass0 (pa_cons (pv 4) (pa_cons (pv 2) pa_nil)))))))))))))))))))), ?_⟩
  rintro ss M Q ⟨sc, ns, rfl, hl, hb, hs, q⟩
  walk_at "k"
  show WS K _ [some sc, none, none, none, none, none, none, none, none, none, none, none] M _
  refine ws_seq (ws_set (w_lstM ?_))
  walk_at "g"
  refine wl_list (.inl (hs M)) ?_
  walk_at "g"
  intro p hp
  have hD : DrawL [.dat (.list (ns.map .int)), .int 0, .int 0, .int 1] := ⟨ns, 0, 0, 1, rfl, by decide⟩
  walk_at "f"
  refine ⟨p, _, 12, rfl, um_same, hD, by decide, by decide, fun its ys hits hlen hD1 => ?_⟩
  rw [um_um]
  refine w_int (w2_ixT rfl ?_)
  have px := orderd_pw its
  have okx := orderd_ok hits
  have lx : (orderd its).length ≤ 12 := Nat.le_trans (orderd_len its) (by omega)
  generalize orderd its = xs at px okx lx
  walk_at "f"
  refine ⟨p, _, 12, rfl, um_same, hD1, by decide, by decide, fun its2 ys2 hits2 hlen2 hD2 => ?_⟩
  rw [um_um]
  refine w_int (w2_ixT rfl ?_)
  have py0 := orderd_pw its2
  have oky0 := orderd_ok hits2
  have ly0 : (orderd its2).length ≤ 12 := Nat.le_trans (orderd_len its2) (by omega)
  generalize orderd its2 = ys0 at py0 oky0 ly0
  show WS K _ [some sc, some (.raw (.ref p)), some (.dat (.list (xs.map Item.enc))), some (.dat (.list (ys0.map Item.enc))), none, none, none, none, none, none, none, none] (Ab.um M p (.lst ys2)) _
  refine ws_seq (ws_mid (fun ρ' M' => ∃ (ys : List Item) (zs : List Sl), ρ' = [some sc, some (.raw (.ref p)), some (.dat (.list (xs.map Item.enc))), some (.dat (.list (ys.map Item.enc))), none, none, none, none, none, none, none, none] ∧ M' = Ab.um M p (.lst zs) ∧ DrawL zs ∧ ys.Pairwise iLt ∧ (∀ y ∈ ys, Item.ok y) ∧ ys.length ≤ 22) ?_ ?_)
  · walk_at "f"
    refine a_next hD2 (by decide) (by decide) fun v zs v0 v1 hz => ?_
    walk_at "f"
    refine ite_d (fun hv => ?_) (fun hv => ?_)
    · walk_at "f"
      refine ⟨p, zs, xs, rfl, um_same, hz, okx, by omega, fun chs zs2 hch lch hz2 => ?_⟩
      rw [um_um]
      walk_at "f"
      refine ⟨xs, chs, rfl, okx, hch, by omega, ?_⟩
      have := chgIs_len chs xs
      exact ⟨chgIs xs chs, zs2, rfl, rfl, hz2, chgIs_pw px, chgIs_ok okx hch, by omega⟩
    · walk_at "f"
      exact ⟨ys0, zs, rfl, rfl, hz, py0, oky0, by omega⟩
  rintro ρ' M1 ⟨ys, zs, rfl, e1, hz, py, oky, ly⟩
  have M1p : M1 p = some (.lst zs) := by rw [e1]; exact um_same
  clear e1
  have Hx := holds_new okx px
  have Hy := holds_new oky py
  obtain ⟨cx1, cx2, lkx⟩ := Hx.fine (by omega) (by omega)
  obtain ⟨cy1, cy2, lky⟩ := Hy.fine (by omega) (by omega)
  have ix := init_ok okx (by omega)
  have iy := init_ok oky (by omega)
  have lsx : ∀ (zs : List Item) (M' : MH), LsV K (.dat (.list (zs.map Item.enc))) M' (zs.map fun it => Sl.dat it.enc) := fun zs M' => by
    have z := lsv_dat (K := K) (M := M') (ds := zs.map Item.enc)
    rw [List.map_map] at z
    exact z
  refine ws_seq (ws_set (w_make (wa_cons (w_cb (wa_cons (w_var rfl (wa_nil (wl_list (.inl lsv_dat) (wa_nil fun x dx hx => .inl ⟨x, dx, _, xs, rfl, um_same, lsx xs _, ix, fun M2 ⟨A, eo, hA, fA⟩ => ⟨rfl, ?_⟩⟩)))))))))
  have xp : p ≠ x := fun z => by rw [← z, M1p] at hx; cases hx
  obtain ⟨M2p, op⟩ := fA p _ (by rw [um_ne xp]; exact M1p) xp
  rw [← eo]
  show WS K _ [some sc, some (.raw (.ref p)), some (.dat (.list (xs.map Item.enc))), some (.dat (.list (ys.map Item.enc))), some (.raw (.ref A.o)), none, none, none, none, none, none, none] M2 _
  refine ws_seq (ws_set (w_make (wa_cons (w_cb (wa_cons (w_var rfl (wa_nil (wl_list (.inl lsv_dat) (wa_nil fun x2 dx2 hx2 => .inl ⟨x2, dx2, _, ys, rfl, um_same, lsx ys _, iy, fun M3 ⟨A2, eo2, hA2, fA2⟩ => ⟨rfl, ?_⟩⟩)))))))))
  have e3 : ∀ b u, M2 b = some u → M3 b = some u ∧ ¬ A2.own b := fun b u hb => by
    have bx : b ≠ x2 := fun z => by rw [z, hx2] at hb; cases hb
    exact fA2 b u (by rw [um_ne bx]; exact hb) bx
  have hA3 := hA.ext fun b u hb => (e3 b u hb).1
  obtain ⟨M3p, _⟩ := e3 p _ M2p
  rw [← eo2]
  show WS K _ [some sc, some (.raw (.ref p)), some (.dat (.list (xs.map Item.enc))), some (.dat (.list (ys.map Item.enc))), some (.raw (.ref A.o)), some (.raw (.ref A2.o)), none, none, none, none, none, none] M3 _
  walk_at "f"
  refine ⟨A, _, A2, _, xs, ys, rfl, hA3, cx1, cx2, hA2, cy1, cy2, lkx.items, lky.items, px, py, okx, oky, by omega, by omega, fun M4 e4 => ?_⟩
  have hA4 := hA3.ext e4
  have hB4 := hA2.ext e4
  have M4p := e4 _ _ M3p
  have lb := bet_len xs ys
  have okb := bet_ok okx oky
  walk_at "f"
  refine ⟨xs, ys, rfl, okx, oky, by omega, by omega, ?_⟩
  walk_at "f"
  refine .inl ⟨.list ((betI xs ys).map Chg.enc), rfl, chgs_okD okb (by omega), ?_⟩
  walk_at "f"
  refine w_meth (w_var rfl ⟨A.o, A.dx, sfld A, rfl, hA4.ho, by kernel_rfl, wa_cons (w_var rfl (wa_nil ⟨A, _, _, betI xs ys, rfl, ?_, hA4, cx1, cx2, by rw [lkx.items]; exact ix, okb, by rw [lkx.items]; exact chg_st okx px okb (by omega), fun M5 A5 h5 f5 => ?_⟩))⟩)
  · have z := lsv_dat (K := K) (M := M4) (ds := (betI xs ys).map Chg.enc)
    rw [List.map_map] at z
    exact z
  rw [lkx.items] at h5
  have H5 := Hx.tidy.chgs okb
  rw [bet_makes px py] at H5
  obtain ⟨c51, c52, lk5⟩ := H5.fine (by omega) (by omega)
  have hA5 := hA4.ext fun b u hb => (f5 b u hb).1
  have hB5 := hB4.ext fun b u hb => (f5 b u hb).1
  have M5p := (f5 _ _ M4p).1
  walk_at "f"
  refine ⟨A5, _, ys, rfl, h5, c51, c52, lk5, oky, by omega, fun M6 e6 => ?_⟩
  have hA6 := hA5.ext e6
  have hB6 := hB5.ext e6
  have M6p := e6 _ _ M5p
  walk_at "f"
  refine ⟨A2, _, A2, _, ys, ys, rfl, hB6, cy1, cy2, hB6, cy1, cy2, lky.items, lky.items, py, py, oky, oky, by omega, by omega, fun M7 e7 => ?_⟩
  rw [bet_self]
  have hA7 := hA6.ext e7
  have hB7 := hB6.ext e7
  have M7p := e7 _ _ M6p
  walk_at "f"
  refine .inl ⟨.list [], rfl, by decide, ?_⟩
  walk_at "f"
  refine ⟨A, _, xs, rfl, hA7, cx1, cx2, lkx, okx, by omega, fun M8 e8 => ?_⟩
  have hA8 := hA7.ext e8
  have hB8 := hB7.ext e8
  have M8p := e8 _ _ M7p
  walk_at "f"
  refine ⟨A2, _, ys, rfl, hB8, cy1, cy2, lky, oky, by omega, fun M9 e9 => ?_⟩
  have hA9 := hA8.ext e9
  have M9p := e9 _ _ M8p
  walk_at "f"
  refine ⟨p, zs, xs, rfl, M9p, hz, okx, by omega, fun chs zs3 hch lch hz3 => ?_⟩
  have hA10 := hA9.um (x := .lst zs3) op
  generalize Ab.um M9 p (.lst zs3) = M10 at hA10
  refine ws_seq (ws_set (w_cb (wa_cons (w_var rfl (wa_nil (wl_listM (.inl lsv_dat) fun p7 h7 => ?_))))))
  have hA11 := hA10.um (x := .lst ((chs.map Chg.enc).map .dat)) (hA10.new h7)
  have q7 : Ab.um M10 p7 (.lst ((chs.map Chg.enc).map .dat)) p7 = some (.lst ((chs.map Chg.enc).map .dat)) := um_same
  generalize Ab.um M10 p7 (.lst ((chs.map Chg.enc).map .dat)) = M11 at hA11 q7
  refine ws_seq (ws_set (w_meth (w_var rfl ⟨A.o, A.dx, sfld A, rfl, hA11.ho, by kernel_rfl, wa_cons (w_var rfl (wa_nil ⟨A, _, _, chs, rfl, lsv_ref (by rw [q7, List.map_map]; rfl), hA11, cx1, cx2, by rw [lkx.items]; exact ix, hch, by rw [lkx.items]; exact chg_st okx px hch (by omega), fun M7 B hB fB => ?_⟩))⟩)))
  rw [lkx.items] at hB
  have oAB : ∀ b, A.own b → ¬ B.own b := fun b ho => by
    obtain ⟨u, hu⟩ := hA11.some ho
    exact (fB b u hu).2
  have hA7 := hA11.ext fun b u hb => (fB b u hb).1
  have q8 := (fB _ _ q7).1
  have HB := Hx.tidy.chgs hch
  have lo := chgIs_len chs xs
  obtain ⟨ok8, sm8, lk8⟩ := HB.fine (by omega) (by omega)
  generalize (chgs (puts xs).tidy chs).tidy = c8 at hB ok8 sm8 lk8
  show WS K _ [some sc, some (.raw (.ref p)), some (.dat (.list (xs.map Item.enc))), some (.dat (.list (ys.map Item.enc))), some (.raw (.ref A.o)), some (.raw (.ref A2.o)), some (.dat (.list (chs.map Chg.enc))), some (.raw (.ref p7)), some (.raw (.ref B.o)), none, none, none] M7 _
  walk_at "f"
  refine ⟨xs, chs, rfl, okx, hch, by omega, ?_⟩
  walk_at "f"
  refine ⟨B, _, chgIs xs chs, rfl, hB, ok8, sm8, lk8, chgIs_ok okx hch, by omega, fun M8 e8 => ?_⟩
  have hA8 := hA7.ext e8
  have hB8 := hB.ext e8
  have q9 := e8 _ _ q8
  have l1 := lR_len (chgIs xs chs)
  have l2 := lU_len (chgIs xs chs)
  have l3 := lD_len (chgIs xs chs)
  have k1 := lk8.r.1
  have k2 := lk8.u.1
  have k3 := lk8.d.1
  walk_at "f"
  refine .inr ⟨p7, chs.map Chg.enc, rfl, q9, chgs_okD hch (by omega), ?_⟩
  walk_at "f"
  refine ws_seq (ws_lock hB8.hf fun od v => ?_)
  have oo := hB8.oo
  refine ws_for (wi_keys (w_fldI rfl (by rw [um_ne oo.2.1.symm]; exact hB8.ho) cl n2 (sl_f _) ⟨B.f, od, v, kvF B, rfl, um_same, fun i ρ' M' => (∃ y9' y13, ρ' = [some sc, some (.raw (.ref p)), some (.dat (.list (xs.map Item.enc))), some (.dat (.list (ys.map Item.enc))), some (.raw (.ref A.o)), some (.raw (.ref A2.o)), some (.dat (.list (chs.map Chg.enc))), some (.raw (.ref p7)), some (.raw (.ref B.o)), y9', y13, none]) ∧ Sp1 M8 M' B od v i, ⟨⟨none, none, rfl⟩, um_same, fun b u hb hn _ => by rw [um_ne hn]; exact hb, fun n ad hv => ⟨(rowsOf c8 n).map encR, ?_, ?_⟩⟩, fun i ρ' M' _ ⟨_, hs⟩ => hs.fz, ?_, ?_⟩))
  · rw [um_ne (hB8.off hv).2.2.1, hB8.rows n ad hv, List.map_map]
    rfl
  · rw [List.length_map]
    have := (ok8.row (n := n)).2
    omega
  · rintro i ρ' M' hi ⟨⟨y9', y13, rfl⟩, hs⟩
    have hif : i < B.fa.length := by unfold kvF at hi; rw [List.length_map] at hi; exact hi
    have gi : ((kvF B).map fun q => kS q.1).getD i .non = .str B.fa[i].1 := by
      rw [List.getD_eq_getElem?_getD, List.getElem?_map]
      unfold kvF
      rw [List.getElem?_map, List.getElem?_eq_getElem hif]
      rfl
    obtain ⟨ad, hv⟩ := valG_of (kvs := B.fa) (n := B.fa[i].1) (List.mem_map.mpr ⟨_, List.getElem_mem hif, rfl⟩)
    dsimp only
    rw [gi]
    generalize B.fa[i].1 = n at hv
    have ev : valG (kvF B) (.inr n) = some (.raw (.ref ad)) := by
      have := valG_inr (fun p : Addr => Sl.raw (.ref p)) n B.fa
      rw [hv] at this
      exact this
    have hoB : M' B.o = some (.ins a.State B.dx (sfld B)) := hs.ext _ _ hB8.ho oo.2.1.symm fun n e => (hB8.off e).1 rfl
    obtain ⟨rs, hrs, hrl⟩ := hs.rows n ad hv
    refine wg_name (ws_seq (ws_set (w_dget (w_fldI rfl hoB cl n2 (sl_f _) (w_var rfl ⟨kvF B, .inr n, _, dcv_frz hs.fz, rfl, ev, ?_⟩)))))
    have hlen9 : 1000 + i < 2000 := by
      have := sm8.1
      have e := congrArg List.length hB8.keys
      rw [List.length_map, List.length_map] at e
      omega
    refine ws_drop (w_bm (w_var rfl ⟨ty_lst (lsv_ref hrs), wa_cons (w_tupD (wa_cons (w_str (wa_nil ⟨_, rfl, by simp, wa_nil (wm_append hrs (by rw [List.length_map]; omega) ?_)⟩))))⟩))
    have nf := (hB8.off hv).2.2.1
    refine ⟨⟨_, _, rfl⟩, by rw [um_ne nf.symm]; exact hs.fz, fun b u hb h1 h2 => by rw [um_ne fun z => h2 n (by rw [z]; exact hv)]; exact hs.ext b u hb h1 h2, fun n' a' hv' => ?_⟩
    by_cases e : a' = ad
    · rw [e, um_same]
      refine ⟨rs ++ [.tuple [.str "spoilt"]], by rw [List.map_append]; rfl, by rw [List.length_append]; exact Nat.succ_le_succ hrl⟩
    · rw [um_ne e]
      obtain ⟨rs', h1, h2⟩ := hs.rows n' a' hv'
      exact ⟨rs', h1, Nat.le_succ_of_le h2⟩
  rintro ρ' M' ⟨⟨y9', y13, rfl⟩, hs⟩
  refine ⟨hs.fz, ?_⟩
  have hA9 : SeAt a.State (Ab.um M' B.f (.dK (kvF B))) A (puts xs).tidy := hA8.tr fun b u ho hb => by
    have nb := oAB b ho
    have nf : b ≠ B.f := fun z => nb (.inr (.inr (.inl z)))
    rw [um_ne nf]
    exact hs.ext b u hb nf fun n e => nb (.inr (.inr (.inr (.inr (.inr ⟨n, e⟩)))))
  have h9r : Ab.um M' B.f (.dK (kvF B)) B.r = some (.dK (kvR c8)) := by
    rw [um_ne hB8.ne.1]
    exact hs.ext _ _ hB8.hr hB8.ne.1 fun n e => (hB8.off e).2.1 rfl
  have h9u : Ab.um M' B.f (.dK (kvF B)) B.u = some (.dK (kvU c8)) := by
    rw [um_ne hB8.ne.2.2.2.1.symm]
    exact hs.ext _ _ hB8.hu hB8.ne.2.2.2.1.symm fun n e => (hB8.off e).2.2.2.1 rfl
  have h9n : Ab.um M' B.f (.dK (kvF B)) B.n = some (.dK (kvN c8)) := by
    rw [um_ne hB8.ne.2.2.2.2.1.symm]
    exact hs.ext _ _ hB8.hn hB8.ne.2.2.2.2.1.symm fun n e => (hB8.off e).2.2.2.2 rfl
  have h9o : Ab.um M' B.f (.dK (kvF B)) B.o = some (.ins a.State B.dx (sfld B)) := by
    rw [um_ne oo.2.1.symm]
    exact hs.ext _ _ hB8.ho oo.2.1.symm fun n e => (hB8.off e).1 rfl
  have h9f : Ab.um M' B.f (.dK (kvF B)) B.f = some (.dK (kvF B)) := um_same
  have h9w : ∀ n ad, valG B.fa n = some ad → ∃ rs : List PyData, Ab.um M' B.f (.dK (kvF B)) ad = some (.lst (rs.map .dat)) ∧ rs.length ≤ 1000 + (kvF B).length := fun n ad hv => by
    rw [um_ne (hB8.off hv).2.2.1]
    exact hs.rows n ad hv
  generalize Ab.um M' B.f (.dK (kvF B)) = M9 at hA9 h9r h9u h9n h9o h9f h9w
  walk_at "f"
  refine ws_for (wi_list (w_lstM (wa_cons (w_fldI rfl h9o cl n1 (sl_r _) (wa_cons (w_fldI rfl h9o cl n3 (sl_u _) (wa_cons (w_fldI rfl h9o cl n4 (sl_n _) (wa_nil ⟨by simp, fun p14 hp14 => ?_⟩)))))))))
  have x10 := nw_ext (x := .lst [.raw (.ref B.r), .raw (.ref B.u), .raw (.ref B.n)]) hp14
  have hA10 := hA9.ext x10
  have l14 : Ab.um M9 p14 (.lst [.raw (.ref B.r), .raw (.ref B.u), .raw (.ref B.n)]) p14 = some (.lst [.raw (.ref B.r), .raw (.ref B.u), .raw (.ref B.n)]) := um_same
  have h10r := x10 _ _ h9r
  have h10u := x10 _ _ h9u
  have h10n := x10 _ _ h9n
  have h10o := x10 _ _ h9o
  have h10f := x10 _ _ h9f
  have h10w : ∀ n ad, valG B.fa n = some ad → ∃ rs : List PyData, Ab.um M9 p14 (.lst [.raw (.ref B.r), .raw (.ref B.u), .raw (.ref B.n)]) ad = some (.lst (rs.map .dat)) ∧ rs.length ≤ 1000 + (kvF B).length := fun n ad hv => by
    obtain ⟨rs, h1, h2⟩ := h9w n ad hv
    exact ⟨rs, x10 _ _ h1, h2⟩
  generalize Ab.um M9 p14 (.lst [.raw (.ref B.r), .raw (.ref B.u), .raw (.ref B.n)]) = M10 at x10 hA10 l14 h10r h10u h10n h10o h10f h10w
  obtain ⟨ne1, ne2, ne3, ne4, ne5, ne6⟩ := hB8.ne
  have q1 : p14 ≠ B.r := fun z => by rw [z, h9r] at hp14; cases hp14
  have q2 : p14 ≠ B.u := fun z => by rw [z, h9u] at hp14; cases hp14
  have q3 : p14 ≠ B.n := fun z => by rw [z, h9n] at hp14; cases hp14
  have er : kvR c8 = kvG id (c8.rel.map fun p => (p.1, PyData.int p.2)) := by unfold kvR kvG; rw [List.map_map]; rfl
  have eu : kvU c8 = kvG PyData.tuple (c8.rul.map fun p => (p.1, [PyData.str p.2.rel, encT p.2.hd, encB p.2.b])) := by unfold kvU kvG; rw [List.map_map]; rfl
  have en : kvN c8 = kvG id (c8.den.map fun p => (p.1, encB p.2)) := by unfold kvN kvG; rw [List.map_map]; rfl
  rw [er] at h10r
  rw [eu] at h10u
  rw [en] at h10n
  refine ⟨_, lsv_ref l14, fun i ρ' M' => (∃ y14, ρ' = [some sc, some (.raw (.ref p)), some (.dat (.list (xs.map Item.enc))), some (.dat (.list (ys.map Item.enc))), some (.raw (.ref A.o)), some (.raw (.ref A2.o)), some (.dat (.list (chs.map Chg.enc))), some (.raw (.ref p7)), some (.raw (.ref B.o)), y9', y13, y14]) ∧ Sp2 M10 M' B i, ⟨⟨none, rfl⟩, ⟨_, h10r, by rw [List.length_map]; omega⟩, ⟨_, h10u, by rw [List.length_map]; omega, fun n l hv => ?_⟩, ⟨_, h10n, by rw [List.length_map]; omega⟩, fun b u hb _ _ _ => hb⟩, fun i ρ' M' _ ⟨_, hs2⟩ => lsv_ref (hs2.ext _ _ l14 q1 q2 q3), ?_, ?_⟩
  · obtain ⟨x, _, e⟩ := List.mem_map.mp (valG_mem hv)
    injection e with _ e
    rw [← e]
    exact show 3 ≤ 8 by decide
  · rintro i ρ' M' hi ⟨⟨y14, rfl⟩, hs2⟩
    obtain ⟨R, hr1, hr2⟩ := hs2.r
    obtain ⟨U, hu1, hu2, hu3⟩ := hs2.u
    obtain ⟨N, hn1, hn2⟩ := hs2.n
    match i, hi with
    | 0, _ =>
      refine wg_name (ws_dput (w_tupD (wa_nil ⟨[], rfl, by simp, w_var rfl (w_str ⟨B.r, _, .inr "zz", rfl, rfl, hr1, by unfold kvG; rw [List.length_map]; omega, ⟨_, rfl⟩, ?_⟩)⟩)))
      have e := kvG_put id R "zz" (PyData.tuple [])
      rw [show Sl.dat (id (PyData.tuple [])) = Sl.dat (.tuple []) from rfl] at e
      rw [e]
      exact ⟨⟨_, um_same, putLen hr2⟩, ⟨U, by rw [um_ne ne2.symm]; exact hu1, Nat.le_succ_of_le hu2, hu3⟩, ⟨N, by rw [um_ne ne3.symm]; exact hn1, Nat.le_succ_of_le hn2⟩, fun b u hb h1 h2 h3 => by rw [um_ne h1]; exact hs2.ext b u hb h1 h2 h3⟩
    | 1, _ =>
      refine wg_name (ws_dput (w_tupD (wa_nil ⟨[], rfl, by simp, w_var rfl (w_str ⟨B.u, _, .inr "zz", rfl, rfl, hu1, by unfold kvG; rw [List.length_map]; omega, ⟨_, rfl⟩, ?_⟩)⟩)))
      have e := kvG_put PyData.tuple U "zz" []
      rw [e]
      have hu4 : ∀ n l, valG (putG U "zz" []) n = some l → l.length ≤ 8 := fun n l hv => by
        rw [valG_put] at hv
        split at hv
        · cases hv
          decide
        · exact hu3 n l hv
      exact ⟨⟨R, by rw [um_ne ne2]; exact hr1, Nat.le_succ_of_le hr2⟩, ⟨_, um_same, putLen hu2, hu4⟩, ⟨N, by rw [um_ne ne6.symm]; exact hn1, Nat.le_succ_of_le hn2⟩, fun b u hb h1 h2 h3 => by rw [um_ne h2]; exact hs2.ext b u hb h1 h2 h3⟩
    | 2, _ =>
      refine wg_name (ws_dput (w_tupD (wa_nil ⟨[], rfl, by simp, w_var rfl (w_str ⟨B.n, _, .inr "zz", rfl, rfl, hn1, by unfold kvG; rw [List.length_map]; omega, ⟨_, rfl⟩, ?_⟩)⟩)))
      have e := kvG_put id N "zz" (PyData.tuple [])
      rw [show Sl.dat (id (PyData.tuple [])) = Sl.dat (.tuple []) from rfl] at e
      rw [e]
      exact ⟨⟨R, by rw [um_ne ne3]; exact hr1, Nat.le_succ_of_le hr2⟩, ⟨U, by rw [um_ne ne6]; exact hu1, Nat.le_succ_of_le hu2, hu3⟩, ⟨_, um_same, putLen hn2⟩, fun b u hb h1 h2 h3 => by rw [um_ne h3]; exact hs2.ext b u hb h1 h2 h3⟩
    | i + 3, hi => exact absurd hi (by simp)
  rintro ρ' M11 ⟨⟨y14, rfl⟩, hs2⟩
  have hA11 := hA10.tr fun b u ho hb => by
    have nb := oAB b ho
    exact hs2.ext b u hb (fun z => nb (.inr (.inl z))) (fun z => nb (.inr (.inr (.inr (.inl z))))) fun z => nb (.inr (.inr (.inr (.inr (.inl z)))))
  walk_at "f"
  exact ⟨A, _, xs, rfl, hA11, cx1, cx2, lkx, okx, by omega, fun M12 e12 => q _⟩
end
theorem all_mk {l : PySem.W.OpenLaw} {w : World} {K : PySem.W.Frag} {h : Heap} {mg : Str → Option Value} {fa cc_State f0 f1 f2 f3 f4 f5 f6 f7 f8 f9 f10 f11 f12 f13 f14 f15 f16 f17 f18 f19 f20 f21 f22 f23 f24 f25 f26 f27 f28 f29 f30 f31 f32 f33 f34 f35 u0 : Addr} (X : K.In h) (G : h.Ns mainGlobals mg) (hfa : mg "law" = some (.ref fa))
    {od0 an0 od1 an1 od2 an2 od3 an3 od4 an4 od5 an5 od6 an6 od7 an7 od8 an8 od9 an9 od10 an10 od11 an11 od12 an12 od13 an13 od14 an14 od15 an15 od16 an16 od17 an17 od18 an18 od19 an19 od20 an20 od21 an21 od22 an22 od23 an23 od24 an24 od25 an25 od26 an26 od27 an27 od28 an28 od29 an29 od30 an30 od31 an31 od32 an32 od33 an33 od34 an34 od35 an35 : Option Addr} {sl0 sl1 sl2 sl3 sl4 sl5 sl6 sl7 sl8 sl9 sl10 sl11 sl12 sl13 sl14 sl15 sl16 sl17 sl18 sl19 sl20 sl21 sl22 sl23 sl24 sl25 sl26 sl27 sl28 sl29 sl30 sl31 sl32 sl33 sl34 sl35 : Array (Option Value)} {oc0 kV0 dc0 pm0 cd0 ct0 oc1 kV1 dc1 pm1 cd1 ct1 oc2 kV2 dc2 pm2 cd2 ct2 oc3 kV3 dc3 pm3 cd3 ct3 oc4 kV4 dc4 pm4 cd4 ct4 oc5 kV5 dc5 pm5 cd5 ct5 oc6 kV6 dc6 pm6 cd6 ct6 oc7 kV7 dc7 pm7 cd7 ct7 oc8 kV8 dc8 pm8 cd8 ct8 oc9 kV9 dc9 pm9 cd9 ct9 oc10 kV10 dc10 pm10 cd10 ct10 oc11 kV11 dc11 pm11 cd11 ct11 oc12 kV12 dc12 pm12 cd12 ct12 oc13 kV13 dc13 pm13 cd13 ct13 oc14 kV14 dc14 pm14 cd14 ct14 oc15 kV15 dc15 pm15 cd15 ct15 oc16 kV16 dc16 pm16 cd16 ct16 oc17 kV17 dc17 pm17 cd17 ct17 oc18 kV18 dc18 pm18 cd18 ct18 oc19 kV19 dc19 pm19 cd19 ct19 oc20 kV20 dc20 pm20 cd20 ct20 oc21 kV21 dc21 pm21 cd21 ct21 oc22 kV22 dc22 pm22 cd22 ct22 oc23 kV23 dc23 pm23 cd23 ct23 oc24 kV24 dc24 pm24 cd24 ct24 oc25 kV25 dc25 pm25 cd25 ct25 oc26 kV26 dc26 pm26 cd26 ct26 oc27 kV27 dc27 pm27 cd27 ct27 oc28 kV28 dc28 pm28 cd28 ct28 oc29 kV29 dc29 pm29 cd29 ct29 oc30 kV30 dc30 pm30 cd30 ct30 oc31 kV31 dc31 pm31 cd31 ct31 oc32 kV32 dc32 pm32 cd32 ct32 oc33 kV33 dc33 pm33 cd33 ct33 oc34 kV34 dc34 pm34 cd34 ct34 oc35 kV35 dc35 pm35 cd35 ct35 : Value}
    (a0 : PySem.W.nsIn K mainGlobals "value_key" = some (some (.ref f0))) (l0 : K.lookup f0 = some ⟨oc0, od0, .func (PySem.W.fnOf "value_key" "value_key" (defArgs s_value_key) (defBody s_value_key) (defScope s_value_key) .none kV0 dc0 pm0 an0 cd0 ct0), sl0⟩) (c_0 : PySem.W.codeIn K cd0 "value_key" = true) (k0 : PySem.W.keepIn K (.ref f0) = true)
    (a1 : PySem.W.nsIn K mainGlobals "row_key" = some (some (.ref f1))) (l1 : K.lookup f1 = some ⟨oc1, od1, .func (PySem.W.fnOf "row_key" "row_key" (defArgs s_row_key) (defBody s_row_key) (defScope s_row_key) .none kV1 dc1 pm1 an1 cd1 ct1), sl1⟩) (c_1 : PySem.W.codeIn K cd1 "row_key" = true) (k1 : PySem.W.keepIn K (.ref f1) = true)
    (a2 : PySem.W.nsIn K mainGlobals "key_of" = some (some (.ref f2))) (l2 : K.lookup f2 = some ⟨oc2, od2, .func (PySem.W.fnOf "key_of" "key_of" (defArgs s_key_of) (defBody s_key_of) (defScope s_key_of) .none kV2 dc2 pm2 an2 cd2 ct2), sl2⟩) (c_2 : PySem.W.codeIn K cd2 "key_of" = true) (k2 : PySem.W.keepIn K (.ref f2) = true)
    (a3 : PySem.W.nsIn K mainGlobals "key_order" = some (some (.ref f3))) (l3 : K.lookup f3 = some ⟨oc3, od3, .func (PySem.W.fnOf "key_order" "key_order" (defArgs s_key_order) (defBody s_key_order) (defScope s_key_order) .none kV3 dc3 pm3 an3 cd3 ct3), sl3⟩) (c_3 : PySem.W.codeIn K cd3 "key_order" = true) (k3 : PySem.W.keepIn K (.ref f3) = true)
    {dT4 dE4 : Addr} {oT4 oE4 : Obj}
    (a4 : PySem.W.findIn K (.ref cc_State) "__init__" = some (some (.ref f4))) (q4 : PySem.W.isFn K (.ref f4) = true) (l4 : K.lookup f4 = some ⟨oc4, od4, .func (PySem.W.fnOf "__init__" "State.__init__" (defArgs s_State___init__) (defBody s_State___init__) (defScope s_State___init__) (.ref dT4) kV4 dc4 pm4 an4 cd4 ct4), sl4⟩) (c_4 : PySem.W.codeIn K cd4 "State.__init__" = true) (k4 : PySem.W.keepIn K (.ref f4) = true)
    (lT4 : K.lookup dT4 = some oT4) (dTo4 : ∃ n, oT4.data = .seq #[.ref dE4] n) (lE4 : K.lookup dE4 = some oE4) (dEo4 : oE4.cls = .type "tuple" ∧ oE4.dict = none ∧ ∃ n, oE4.data = .seq #[] n)
    (a5 : PySem.W.findIn K (.ref cc_State) "put" = some (some (.ref f5))) (q5 : PySem.W.isFn K (.ref f5) = true) (l5 : K.lookup f5 = some ⟨oc5, od5, .func (PySem.W.fnOf "put" "State.put" (defArgs s_State_put) (defBody s_State_put) (defScope s_State_put) .none kV5 dc5 pm5 an5 cd5 ct5), sl5⟩) (c_5 : PySem.W.codeIn K cd5 "State.put" = true) (k5 : PySem.W.keepIn K (.ref f5) = true)
    (a6 : PySem.W.findIn K (.ref cc_State) "take" = some (some (.ref f6))) (q6 : PySem.W.isFn K (.ref f6) = true) (l6 : K.lookup f6 = some ⟨oc6, od6, .func (PySem.W.fnOf "take" "State.take" (defArgs s_State_take) (defBody s_State_take) (defScope s_State_take) .none kV6 dc6 pm6 an6 cd6 ct6), sl6⟩) (c_6 : PySem.W.codeIn K cd6 "State.take" = true) (k6 : PySem.W.keepIn K (.ref f6) = true)
    (a7 : PySem.W.findIn K (.ref cc_State) "tidy" = some (some (.ref f7))) (q7 : PySem.W.isFn K (.ref f7) = true) (l7 : K.lookup f7 = some ⟨oc7, od7, .func (PySem.W.fnOf "tidy" "State.tidy" (defArgs s_State_tidy) (defBody s_State_tidy) (defScope s_State_tidy) .none kV7 dc7 pm7 an7 cd7 ct7), sl7⟩) (c_7 : PySem.W.codeIn K cd7 "State.tidy" = true) (k7 : PySem.W.keepIn K (.ref f7) = true)
    (a8 : PySem.W.findIn K (.ref cc_State) "all_items" = some (some (.ref f8))) (q8 : PySem.W.isFn K (.ref f8) = true) (l8 : K.lookup f8 = some ⟨oc8, od8, .func (PySem.W.fnOf "all_items" "State.all_items" (defArgs s_State_all_items) (defBody s_State_all_items) (defScope s_State_all_items) .none kV8 dc8 pm8 an8 cd8 ct8), sl8⟩) (c_8 : PySem.W.codeIn K cd8 "State.all_items" = true) (k8 : PySem.W.keepIn K (.ref f8) = true)
    (a9 : PySem.W.findIn K (.ref cc_State) "has" = some (some (.ref f9))) (q9 : PySem.W.isFn K (.ref f9) = true) (l9 : K.lookup f9 = some ⟨oc9, od9, .func (PySem.W.fnOf "has" "State.has" (defArgs s_State_has) (defBody s_State_has) (defScope s_State_has) .none kV9 dc9 pm9 an9 cd9 ct9), sl9⟩) (c_9 : PySem.W.codeIn K cd9 "State.has" = true) (k9 : PySem.W.keepIn K (.ref f9) = true)
    (a10 : PySem.W.findIn K (.ref cc_State) "copy" = some (some (.ref f10))) (q10 : PySem.W.isFn K (.ref f10) = true) (l10 : K.lookup f10 = some ⟨oc10, od10, .func (PySem.W.fnOf "copy" "State.copy" (defArgs s_State_copy) (defBody s_State_copy) (defScope s_State_copy) .none kV10 dc10 pm10 an10 cd10 ct10), sl10⟩) (c_10 : PySem.W.codeIn K cd10 "State.copy" = true) (k10 : PySem.W.keepIn K (.ref f10) = true)
    (a11 : PySem.W.findIn K (.ref cc_State) "change" = some (some (.ref f11))) (q11 : PySem.W.isFn K (.ref f11) = true) (l11 : K.lookup f11 = some ⟨oc11, od11, .func (PySem.W.fnOf "change" "State.change" (defArgs s_State_change) (defBody s_State_change) (defScope s_State_change) .none kV11 dc11 pm11 an11 cd11 ct11), sl11⟩) (c_11 : PySem.W.codeIn K cd11 "State.change" = true) (k11 : PySem.W.keepIn K (.ref f11) = true)
    (a12 : PySem.W.nsIn K mainGlobals "between" = some (some (.ref f12))) (l12 : K.lookup f12 = some ⟨oc12, od12, .func (PySem.W.fnOf "between" "between" (defArgs s_between) (defBody s_between) (defScope s_between) .none kV12 dc12 pm12 an12 cd12 ct12), sl12⟩) (c_12 : PySem.W.codeIn K cd12 "between" = true) (k12 : PySem.W.keepIn K (.ref f12) = true)
    (a13 : PySem.W.nsIn K mainGlobals "_law_next" = some (some (.ref f13))) (l13 : K.lookup f13 = some ⟨oc13, od13, .func (PySem.W.fnOf "_law_next" "_law_next" (defArgs s_law_next) (defBody s_law_next) (defScope s_law_next) .none kV13 dc13 pm13 an13 cd13 ct13), sl13⟩) (c_13 : PySem.W.codeIn K cd13 "_law_next" = true) (k13 : PySem.W.keepIn K (.ref f13) = true)
    (a14 : PySem.W.nsIn K mainGlobals "_law_same" = some (some (.ref f14))) (l14 : K.lookup f14 = some ⟨oc14, od14, .func (PySem.W.fnOf "_law_same" "_law_same" (defArgs s_law_same) (defBody s_law_same) (defScope s_law_same) .none kV14 dc14 pm14 an14 cd14 ct14), sl14⟩) (c_14 : PySem.W.codeIn K cd14 "_law_same" = true) (k14 : PySem.W.keepIn K (.ref f14) = true)
    (a15 : PySem.W.nsIn K mainGlobals "_law_characters" = some (some (.ref f15))) (l15 : K.lookup f15 = some ⟨oc15, od15, .func (PySem.W.fnOf "_law_characters" "_law_characters" (defArgs s_law_characters) (defBody s_law_characters) (defScope s_law_characters) .none kV15 dc15 pm15 an15 cd15 ct15), sl15⟩) (c_15 : PySem.W.codeIn K cd15 "_law_characters" = true) (k15 : PySem.W.keepIn K (.ref f15) = true)
    (a16 : PySem.W.nsIn K mainGlobals "_law_value" = some (some (.ref f16))) (l16 : K.lookup f16 = some ⟨oc16, od16, .func (PySem.W.fnOf "_law_value" "_law_value" (defArgs s_law_value) (defBody s_law_value) (defScope s_law_value) .none kV16 dc16 pm16 an16 cd16 ct16), sl16⟩) (c_16 : PySem.W.codeIn K cd16 "_law_value" = true) (k16 : PySem.W.keepIn K (.ref f16) = true)
    (a17 : PySem.W.nsIn K mainGlobals "_law_row" = some (some (.ref f17))) (l17 : K.lookup f17 = some ⟨oc17, od17, .func (PySem.W.fnOf "_law_row" "_law_row" (defArgs s_law_row) (defBody s_law_row) (defScope s_law_row) .none kV17 dc17 pm17 an17 cd17 ct17), sl17⟩) (c_17 : PySem.W.codeIn K cd17 "_law_row" = true) (k17 : PySem.W.keepIn K (.ref f17) = true)
    (a18 : PySem.W.nsIn K mainGlobals "_law_name" = some (some (.ref f18))) (l18 : K.lookup f18 = some ⟨oc18, od18, .func (PySem.W.fnOf "_law_name" "_law_name" (defArgs s_law_name) (defBody s_law_name) (defScope s_law_name) .none kV18 dc18 pm18 an18 cd18 ct18), sl18⟩) (c_18 : PySem.W.codeIn K cd18 "_law_name" = true) (k18 : PySem.W.keepIn K (.ref f18) = true)
    (a19 : PySem.W.nsIn K mainGlobals "_law_term" = some (some (.ref f19))) (l19 : K.lookup f19 = some ⟨oc19, od19, .func (PySem.W.fnOf "_law_term" "_law_term" (defArgs s_law_term) (defBody s_law_term) (defScope s_law_term) .none kV19 dc19 pm19 an19 cd19 ct19), sl19⟩) (c_19 : PySem.W.codeIn K cd19 "_law_term" = true) (k19 : PySem.W.keepIn K (.ref f19) = true)
    (a20 : PySem.W.nsIn K mainGlobals "_law_terms" = some (some (.ref f20))) (l20 : K.lookup f20 = some ⟨oc20, od20, .func (PySem.W.fnOf "_law_terms" "_law_terms" (defArgs s_law_terms) (defBody s_law_terms) (defScope s_law_terms) .none kV20 dc20 pm20 an20 cd20 ct20), sl20⟩) (c_20 : PySem.W.codeIn K cd20 "_law_terms" = true) (k20 : PySem.W.keepIn K (.ref f20) = true)
    (a21 : PySem.W.nsIn K mainGlobals "_law_literal" = some (some (.ref f21))) (l21 : K.lookup f21 = some ⟨oc21, od21, .func (PySem.W.fnOf "_law_literal" "_law_literal" (defArgs s_law_literal) (defBody s_law_literal) (defScope s_law_literal) .none kV21 dc21 pm21 an21 cd21 ct21), sl21⟩) (c_21 : PySem.W.codeIn K cd21 "_law_literal" = true) (k21 : PySem.W.keepIn K (.ref f21) = true)
    (a22 : PySem.W.nsIn K mainGlobals "_law_body" = some (some (.ref f22))) (l22 : K.lookup f22 = some ⟨oc22, od22, .func (PySem.W.fnOf "_law_body" "_law_body" (defArgs s_law_body) (defBody s_law_body) (defScope s_law_body) .none kV22 dc22 pm22 an22 cd22 ct22), sl22⟩) (c_22 : PySem.W.codeIn K cd22 "_law_body" = true) (k22 : PySem.W.keepIn K (.ref f22) = true)
    (a23 : PySem.W.nsIn K mainGlobals "_law_item" = some (some (.ref f23))) (l23 : K.lookup f23 = some ⟨oc23, od23, .func (PySem.W.fnOf "_law_item" "_law_item" (defArgs s_law_item) (defBody s_law_item) (defScope s_law_item) .none kV23 dc23 pm23 an23 cd23 ct23), sl23⟩) (c_23 : PySem.W.codeIn K cd23 "_law_item" = true) (k23 : PySem.W.keepIn K (.ref f23) = true)
    (a24 : PySem.W.nsIn K mainGlobals "_law_before" = some (some (.ref f24))) (l24 : K.lookup f24 = some ⟨oc24, od24, .func (PySem.W.fnOf "_law_before" "_law_before" (defArgs s_law_before) (defBody s_law_before) (defScope s_law_before) .none kV24 dc24 pm24 an24 cd24 ct24), sl24⟩) (c_24 : PySem.W.codeIn K cd24 "_law_before" = true) (k24 : PySem.W.keepIn K (.ref f24) = true)
    (a25 : PySem.W.nsIn K mainGlobals "_law_order" = some (some (.ref f25))) (l25 : K.lookup f25 = some ⟨oc25, od25, .func (PySem.W.fnOf "_law_order" "_law_order" (defArgs s_law_order) (defBody s_law_order) (defScope s_law_order) .none kV25 dc25 pm25 an25 cd25 ct25), sl25⟩) (c_25 : PySem.W.codeIn K cd25 "_law_order" = true) (k25 : PySem.W.keepIn K (.ref f25) = true)
    (a26 : PySem.W.nsIn K mainGlobals "_law_key" = some (some (.ref f26))) (l26 : K.lookup f26 = some ⟨oc26, od26, .func (PySem.W.fnOf "_law_key" "_law_key" (defArgs s_law_key) (defBody s_law_key) (defScope s_law_key) .none kV26 dc26 pm26 an26 cd26 ct26), sl26⟩) (c_26 : PySem.W.codeIn K cd26 "_law_key" = true) (k26 : PySem.W.keepIn K (.ref f26) = true)
    (a27 : PySem.W.nsIn K mainGlobals "_law_key_order" = some (some (.ref f27))) (l27 : K.lookup f27 = some ⟨oc27, od27, .func (PySem.W.fnOf "_law_key_order" "_law_key_order" (defArgs s_law_key_order) (defBody s_law_key_order) (defScope s_law_key_order) .none kV27 dc27 pm27 an27 cd27 ct27), sl27⟩) (c_27 : PySem.W.codeIn K cd27 "_law_key_order" = true) (k27 : PySem.W.keepIn K (.ref f27) = true)
    (a28 : PySem.W.nsIn K mainGlobals "_law_placed" = some (some (.ref f28))) (l28 : K.lookup f28 = some ⟨oc28, od28, .func (PySem.W.fnOf "_law_placed" "_law_placed" (defArgs s_law_placed) (defBody s_law_placed) (defScope s_law_placed) .none kV28 dc28 pm28 an28 cd28 ct28), sl28⟩) (c_28 : PySem.W.codeIn K cd28 "_law_placed" = true) (k28 : PySem.W.keepIn K (.ref f28) = true)
    (a29 : PySem.W.nsIn K mainGlobals "_law_items" = some (some (.ref f29))) (l29 : K.lookup f29 = some ⟨oc29, od29, .func (PySem.W.fnOf "_law_items" "_law_items" (defArgs s_law_items) (defBody s_law_items) (defScope s_law_items) .none kV29 dc29 pm29 an29 cd29 ct29), sl29⟩) (c_29 : PySem.W.codeIn K cd29 "_law_items" = true) (k29 : PySem.W.keepIn K (.ref f29) = true)
    (a30 : PySem.W.nsIn K mainGlobals "_law_is_dict" = some (some (.ref f30))) (l30 : K.lookup f30 = some ⟨oc30, od30, .func (PySem.W.fnOf "_law_is_dict" "_law_is_dict" (defArgs s_law_is_dict) (defBody s_law_is_dict) (defScope s_law_is_dict) .none kV30 dc30 pm30 an30 cd30 ct30), sl30⟩) (c_30 : PySem.W.codeIn K cd30 "_law_is_dict" = true) (k30 : PySem.W.keepIn K (.ref f30) = true)
    (a31 : PySem.W.nsIn K mainGlobals "_law_is_state" = some (some (.ref f31))) (l31 : K.lookup f31 = some ⟨oc31, od31, .func (PySem.W.fnOf "_law_is_state" "_law_is_state" (defArgs s_law_is_state) (defBody s_law_is_state) (defScope s_law_is_state) .none kV31 dc31 pm31 an31 cd31 ct31), sl31⟩) (c_31 : PySem.W.codeIn K cd31 "_law_is_state" = true) (k31 : PySem.W.keepIn K (.ref f31) = true)
    (a32 : PySem.W.nsIn K mainGlobals "_law_changed" = some (some (.ref f32))) (l32 : K.lookup f32 = some ⟨oc32, od32, .func (PySem.W.fnOf "_law_changed" "_law_changed" (defArgs s_law_changed) (defBody s_law_changed) (defScope s_law_changed) .none kV32 dc32 pm32 an32 cd32 ct32), sl32⟩) (c_32 : PySem.W.codeIn K cd32 "_law_changed" = true) (k32 : PySem.W.keepIn K (.ref f32) = true)
    (a33 : PySem.W.nsIn K mainGlobals "_law_changes" = some (some (.ref f33))) (l33 : K.lookup f33 = some ⟨oc33, od33, .func (PySem.W.fnOf "_law_changes" "_law_changes" (defArgs s_law_changes) (defBody s_law_changes) (defScope s_law_changes) .none kV33 dc33 pm33 an33 cd33 ct33), sl33⟩) (c_33 : PySem.W.codeIn K cd33 "_law_changes" = true) (k33 : PySem.W.keepIn K (.ref f33) = true)
    (a34 : PySem.W.nsIn K mainGlobals "_law_between" = some (some (.ref f34))) (l34 : K.lookup f34 = some ⟨oc34, od34, .func (PySem.W.fnOf "_law_between" "_law_between" (defArgs s_law_between) (defBody s_law_between) (defScope s_law_between) .none kV34 dc34 pm34 an34 cd34 ct34), sl34⟩) (c_34 : PySem.W.codeIn K cd34 "_law_between" = true) (k34 : PySem.W.keepIn K (.ref f34) = true)
    (a35 : PySem.W.nsIn K mainGlobals "law" = some (some (.ref f35))) (l35 : K.lookup f35 = some ⟨oc35, od35, .func (PySem.W.fnOf "law" "law" (defArgs s_law) (defBody s_law) (defScope s_law) .none kV35 dc35 pm35 an35 cd35 ct35), sl35⟩) (c_35 : PySem.W.codeIn K cd35 "law" = true) (k35 : PySem.W.keepIn K (.ref f35) = true)
    (g_State : PySem.W.nsIn K mainGlobals "State" = some (some (.ref cc_State))) (pg_State : PySem.W.plainGet K cc_State Str.empty = true) (hd_State : PySem.W.hasDictIn K cc_State = true) (po_State : PySem.W.plainOver K cc_State = true) (sa_State : PySem.W.findIn K (.ref cc_State) "__setattr__" = some (some (.builtin "object.__setattr__"))) (mk_State : PySem.W.makesIn K cc_State = true) (kc_State : PySem.W.keepIn K (.ref cc_State) = true)
    (na_State_relations : PySem.W.findIn K (.ref cc_State) "relations" = some none)
    (na_State_facts : PySem.W.findIn K (.ref cc_State) "facts" = some none)
    (na_State_rules : PySem.W.findIn K (.ref cc_State) "rules" = some none)
    (na_State_denials : PySem.W.findIn K (.ref cc_State) "denials" = some none)
    (z0 : PySem.W.nsIn K mainGlobals "bool" = some none)
    (z1 : PySem.W.nsIn K mainGlobals "dict" = some none)
    (z2 : PySem.W.nsIn K mainGlobals "int" = some none)
    (z3 : PySem.W.nsIn K mainGlobals "isinstance" = some none)
    (z4 : PySem.W.nsIn K mainGlobals "len" = some none)
    (z5 : PySem.W.nsIn K mainGlobals "list" = some none)
    (z6 : PySem.W.nsIn K mainGlobals "min" = some none)
    (z7 : PySem.W.nsIn K mainGlobals "range" = some none)
    (z8 : PySem.W.nsIn K mainGlobals "sorted" = some none)
    (z9 : PySem.W.nsIn K mainGlobals "str" = some none)
    (z10 : PySem.W.nsIn K mainGlobals "tuple" = some none)
    {uo0 : Obj} (v0 : PySem.W.nsIn K mainGlobals "WORDS" = some (some (.ref u0))) (vl0 : K.lookup u0 = some uo0) (vo0 : uo0.cls = .type "tuple" ∧ uo0.dict = none ∧ ∃ its n, uo0.data = .seq its n ∧ its.size ≤ sizeLine ∧ Vals [.str "relation", .str "fact", .str "rule", .str "denial"] its.toList)
    : ∃ fd : FuncData, (∀ (s : Shared) (v : Value), BindsTo s fd ⟨[v], []⟩ [("_law_script", v)]) ∧ ∀ base : Heap, K.In base → base.Ns mainGlobals mg → FnOk l.prog w K mg base CX0 12 fa fd ["_law_script"] (Ab.scriptA K) := by
  have e := hfa.symm.trans (PySem.W.mg_of X G a35)
  cases e
  have F0 := fun_mk (st := s_value_key) l0 c_0 k0
  have b0 := F0.binds (ps := ["value"]) fun _ _ _ _ _ _ us hl => match us, hl with | [_], _ => rfl
  have F1 := fun_mk (st := s_row_key) l1 c_1 k1
  have b1 := F1.binds (ps := ["row"]) fun _ _ _ _ _ _ us hl => match us, hl with | [_], _ => rfl
  have F2 := fun_mk (st := s_key_of) l2 c_2 k2
  have b2 := F2.binds (ps := ["item"]) fun _ _ _ _ _ _ us hl => match us, hl with | [_], _ => rfl
  have F3 := fun_mk (st := s_key_order) l3 c_3 k3
  have b3 := F3.binds (ps := ["key"]) fun _ _ _ _ _ _ us hl => match us, hl with | [_], _ => rfl
  obtain ⟨nT4, hT4⟩ := dTo4
  have F4 := fund_mk (st := s_State___init__) l4 c_4 k4 lT4 hT4
  obtain ⟨dsb4, vb4, b4⟩ := F4.binds1 (ps := ["self", "items"]) 2 1 (by simp) rfl fun _ _ _ _ _ _ _ us its h1 h2 => match us, its, h1, h2 with | [_, _], [_], _, _ => ⟨_, rfl, rfl⟩
  rw [vals_nil vb4] at b4
  obtain ⟨dsbd4, vbd4, bd4⟩ := F4.binds1 (ps := ["self", "items"]) 1 0 (by simp) rfl fun _ _ _ _ _ _ _ us its h1 h2 => match us, its, h1, h2 with | [_], [_], _, _ => ⟨_, rfl, rfl⟩
  rw [vals_ref1 vbd4] at bd4
  have F5 := fun_mk (st := s_State_put) l5 c_5 k5
  have b5 := F5.binds (ps := ["self", "item"]) fun _ _ _ _ _ _ us hl => match us, hl with | [_, _], _ => rfl
  have F6 := fun_mk (st := s_State_take) l6 c_6 k6
  have b6 := F6.binds (ps := ["self", "key"]) fun _ _ _ _ _ _ us hl => match us, hl with | [_, _], _ => rfl
  have F7 := fun_mk (st := s_State_tidy) l7 c_7 k7
  have b7 := F7.binds (ps := ["self"]) fun _ _ _ _ _ _ us hl => match us, hl with | [_], _ => rfl
  have F8 := fun_mk (st := s_State_all_items) l8 c_8 k8
  have b8 := F8.binds (ps := ["self"]) fun _ _ _ _ _ _ us hl => match us, hl with | [_], _ => rfl
  have F9 := fun_mk (st := s_State_has) l9 c_9 k9
  have b9 := F9.binds (ps := ["self", "relation", "row"]) fun _ _ _ _ _ _ us hl => match us, hl with | [_, _, _], _ => rfl
  have F10 := fun_mk (st := s_State_copy) l10 c_10 k10
  have b10 := F10.binds (ps := ["self"]) fun _ _ _ _ _ _ us hl => match us, hl with | [_], _ => rfl
  have F11 := fun_mk (st := s_State_change) l11 c_11 k11
  have b11 := F11.binds (ps := ["self", "changes"]) fun _ _ _ _ _ _ us hl => match us, hl with | [_, _], _ => rfl
  have F12 := fun_mk (st := s_between) l12 c_12 k12
  have b12 := F12.binds (ps := ["first", "second"]) fun _ _ _ _ _ _ us hl => match us, hl with | [_, _], _ => rfl
  have F13 := fun_mk (st := s_law_next) l13 c_13 k13
  have b13 := F13.binds (ps := ["_law_state", "_law_limit"]) fun _ _ _ _ _ _ us hl => match us, hl with | [_, _], _ => rfl
  have F14 := fun_mk (st := s_law_same) l14 c_14 k14
  have b14 := F14.binds (ps := ["_law_actual", "_law_expected"]) fun _ _ _ _ _ _ us hl => match us, hl with | [_, _], _ => rfl
  have F15 := fun_mk (st := s_law_characters) l15 c_15 k15
  have b15 := F15.binds (ps := []) fun _ _ _ _ _ _ us hl => match us, hl with | [], _ => rfl
  have F16 := fun_mk (st := s_law_value) l16 c_16 k16
  have b16 := F16.binds (ps := ["_law_state"]) fun _ _ _ _ _ _ us hl => match us, hl with | [_], _ => rfl
  have F17 := fun_mk (st := s_law_row) l17 c_17 k17
  have b17 := F17.binds (ps := ["_law_state", "_law_width"]) fun _ _ _ _ _ _ us hl => match us, hl with | [_, _], _ => rfl
  have F18 := fun_mk (st := s_law_name) l18 c_18 k18
  have b18 := F18.binds (ps := ["_law_state"]) fun _ _ _ _ _ _ us hl => match us, hl with | [_], _ => rfl
  have F19 := fun_mk (st := s_law_term) l19 c_19 k19
  have b19 := F19.binds (ps := ["_law_state"]) fun _ _ _ _ _ _ us hl => match us, hl with | [_], _ => rfl
  have F20 := fun_mk (st := s_law_terms) l20 c_20 k20
  have b20 := F20.binds (ps := ["_law_state"]) fun _ _ _ _ _ _ us hl => match us, hl with | [_], _ => rfl
  have F21 := fun_mk (st := s_law_literal) l21 c_21 k21
  have b21 := F21.binds (ps := ["_law_state"]) fun _ _ _ _ _ _ us hl => match us, hl with | [_], _ => rfl
  have F22 := fun_mk (st := s_law_body) l22 c_22 k22
  have b22 := F22.binds (ps := ["_law_state"]) fun _ _ _ _ _ _ us hl => match us, hl with | [_], _ => rfl
  have F23 := fun_mk (st := s_law_item) l23 c_23 k23
  have b23 := F23.binds (ps := ["_law_state"]) fun _ _ _ _ _ _ us hl => match us, hl with | [_], _ => rfl
  have F24 := fun_mk (st := s_law_before) l24 c_24 k24
  have b24 := F24.binds (ps := ["_law_first", "_law_second"]) fun _ _ _ _ _ _ us hl => match us, hl with | [_, _], _ => rfl
  have F25 := fun_mk (st := s_law_order) l25 c_25 k25
  have b25 := F25.binds (ps := ["_law_first", "_law_second"]) fun _ _ _ _ _ _ us hl => match us, hl with | [_, _], _ => rfl
  have F26 := fun_mk (st := s_law_key) l26 c_26 k26
  have b26 := F26.binds (ps := ["_law_item_here"]) fun _ _ _ _ _ _ us hl => match us, hl with | [_], _ => rfl
  have F27 := fun_mk (st := s_law_key_order) l27 c_27 k27
  have b27 := F27.binds (ps := ["_law_first", "_law_second"]) fun _ _ _ _ _ _ us hl => match us, hl with | [_, _], _ => rfl
  have F28 := fun_mk (st := s_law_placed) l28 c_28 k28
  have b28 := F28.binds (ps := ["_law_items_here", "_law_item_here"]) fun _ _ _ _ _ _ us hl => match us, hl with | [_, _], _ => rfl
  have F29 := fun_mk (st := s_law_items) l29 c_29 k29
  have b29 := F29.binds (ps := ["_law_state", "_law_most"]) fun _ _ _ _ _ _ us hl => match us, hl with | [_, _], _ => rfl
  have F30 := fun_mk (st := s_law_is_dict) l30 c_30 k30
  have b30 := F30.binds (ps := ["_law_actual", "_law_expected"]) fun _ _ _ _ _ _ us hl => match us, hl with | [_, _], _ => rfl
  have F31 := fun_mk (st := s_law_is_state) l31 c_31 k31
  have b31 := F31.binds (ps := ["_law_actual", "_law_ordered"]) fun _ _ _ _ _ _ us hl => match us, hl with | [_, _], _ => rfl
  have F32 := fun_mk (st := s_law_changed) l32 c_32 k32
  have b32 := F32.binds (ps := ["_law_ordered", "_law_changes_here"]) fun _ _ _ _ _ _ us hl => match us, hl with | [_, _], _ => rfl
  have F33 := fun_mk (st := s_law_changes) l33 c_33 k33
  have b33 := F33.binds (ps := ["_law_state", "_law_ordered"]) fun _ _ _ _ _ _ us hl => match us, hl with | [_, _], _ => rfl
  have F34 := fun_mk (st := s_law_between) l34 c_34 k34
  have b34 := F34.binds (ps := ["_law_first", "_law_second"]) fun _ _ _ _ _ _ us hl => match us, hl with | [_, _], _ => rfl
  have F35 := fun_mk (st := s_law) l35 c_35 k35
  have b35 := F35.binds (ps := ["_law_script"]) fun _ _ _ _ _ _ us hl => match us, hl with | [_], _ => rfl
  have T : Txt K mg ⟨f0, f1, f2, f3, f4, f5, f6, f7, f8, f9, f10, f11, f12, f13, f14, f15, f16, f17, f18, f19, f20, f21, f22, f23, f24, f25, f26, f27, f28, f29, f30, f31, f32, f33, f34, fa, dE4, cc_State, u0⟩ ⟨_, _, _, _, _, _, _, _, _, _, _, _, _, _, _, _, _, _, _, _, _, _, _, _, _, _, _, _, _, _, _, _, _, _, _, _⟩ := ⟨F0, PySem.W.mg_of X G a0, b0, F1, PySem.W.mg_of X G a1, b1, F2, PySem.W.mg_of X G a2, b2, F3, PySem.W.mg_of X G a3, b3, F4, bd4, ⟨oE4, dEo4.2.2.choose, lE4, dEo4.1, dEo4.2.1, dEo4.2.2.choose_spec⟩, ⟨a4, q4, k4⟩, b4, F5, ⟨a5, q5, k5⟩, b5, F6, ⟨a6, q6, k6⟩, b6, F7, ⟨a7, q7, k7⟩, b7, F8, ⟨a8, q8, k8⟩, b8, F9, ⟨a9, q9, k9⟩, b9, F10, ⟨a10, q10, k10⟩, b10, F11, ⟨a11, q11, k11⟩, b11, F12, PySem.W.mg_of X G a12, b12, F13, PySem.W.mg_of X G a13, b13, F14, PySem.W.mg_of X G a14, b14, F15, PySem.W.mg_of X G a15, b15, F16, PySem.W.mg_of X G a16, b16, F17, PySem.W.mg_of X G a17, b17, F18, PySem.W.mg_of X G a18, b18, F19, PySem.W.mg_of X G a19, b19, F20, PySem.W.mg_of X G a20, b20, F21, PySem.W.mg_of X G a21, b21, F22, PySem.W.mg_of X G a22, b22, F23, PySem.W.mg_of X G a23, b23, F24, PySem.W.mg_of X G a24, b24, F25, PySem.W.mg_of X G a25, b25, F26, PySem.W.mg_of X G a26, b26, F27, PySem.W.mg_of X G a27, b27, F28, PySem.W.mg_of X G a28, b28, F29, PySem.W.mg_of X G a29, b29, F30, PySem.W.mg_of X G a30, b30, F31, PySem.W.mg_of X G a31, b31, F32, PySem.W.mg_of X G a32, b32, F33, PySem.W.mg_of X G a33, b33, F34, PySem.W.mg_of X G a34, b34, F35, PySem.W.mg_of X G a35, b35, PySem.W.mg_of X G g_State, ⟨pg_State, hd_State, po_State, sa_State⟩, ⟨mk_State, a4, q4, kc_State⟩, na_State_relations, na_State_facts, na_State_rules, na_State_denials, PySem.W.mg_none_of X G z0, PySem.W.mg_none_of X G z1, PySem.W.mg_none_of X G z2, PySem.W.mg_none_of X G z3, PySem.W.mg_none_of X G z4, PySem.W.mg_none_of X G z5, PySem.W.mg_none_of X G z6, PySem.W.mg_none_of X G z7, PySem.W.mg_none_of X G z8, PySem.W.mg_none_of X G z9, PySem.W.mg_none_of X G z10, PySem.W.mg_of X G v0, let ⟨x1, x2, its, n, x3, x4, x5⟩ := vo0; ⟨⟨uo0, vl0, x1, x2⟩, fun _ => .inr ⟨uo0, its, n, vl0, x1, x3, x4, x5⟩⟩⟩
  exact ⟨_, fun s v => .of_eq rfl, fun base _ _ => ok_law T⟩
end K03
open PySem PySem.W PyProof.Rows
set_option maxRecDepth 100000 in
set_option maxHeartbeats 0 in
theorem PySem.Challenge.cw_rulestead_k03_changes_holds : PySem.Challenge.rw_rulestead_k03_changes.Holds := by
  w_on; o_law; k_head; (case hw => w_witness2)
  k_fill
  refine L2.walk_ofB (l := PySem.Challenge.rw_rulestead_k03_changes) (n := 63) (k := 12) (x := "_law_script") (CX := fun _ => L2.CX0) (sp := fun w => Ab.scriptA _) rfl (by decide) rfl ⟨rfl, by decide, by decide⟩ (fun w h Y => PySem.W.kIn_of Y) ?F (fun _ H a ns hl hb hO hS => Ab.script_in hl hb hS) (fun _ _ _ _ _ h => h)
  case F =>
    intro w mg fa h KX G hmg
    refine' K03.all_mk KX G hmg ?a0 ?l0 ?c_0 ?k0 ?a1 ?l1 ?c_1 ?k1 ?a2 ?l2 ?c_2 ?k2 ?a3 ?l3 ?c_3 ?k3 ?a4 ?q4 ?l4 ?c_4 ?k4 ?lT4 ?dTo4 ?lE4 ?dEo4 ?a5 ?q5 ?l5 ?c_5 ?k5 ?a6 ?q6 ?l6 ?c_6 ?k6 ?a7 ?q7 ?l7 ?c_7 ?k7 ?a8 ?q8 ?l8 ?c_8 ?k8 ?a9 ?q9 ?l9 ?c_9 ?k9 ?a10 ?q10 ?l10 ?c_10 ?k10 ?a11 ?q11 ?l11 ?c_11 ?k11 ?a12 ?l12 ?c_12 ?k12 ?a13 ?l13 ?c_13 ?k13 ?a14 ?l14 ?c_14 ?k14 ?a15 ?l15 ?c_15 ?k15 ?a16 ?l16 ?c_16 ?k16 ?a17 ?l17 ?c_17 ?k17 ?a18 ?l18 ?c_18 ?k18 ?a19 ?l19 ?c_19 ?k19 ?a20 ?l20 ?c_20 ?k20 ?a21 ?l21 ?c_21 ?k21 ?a22 ?l22 ?c_22 ?k22 ?a23 ?l23 ?c_23 ?k23 ?a24 ?l24 ?c_24 ?k24 ?a25 ?l25 ?c_25 ?k25 ?a26 ?l26 ?c_26 ?k26 ?a27 ?l27 ?c_27 ?k27 ?a28 ?l28 ?c_28 ?k28 ?a29 ?l29 ?c_29 ?k29 ?a30 ?l30 ?c_30 ?k30 ?a31 ?l31 ?c_31 ?k31 ?a32 ?l32 ?c_32 ?k32 ?a33 ?l33 ?c_33 ?k33 ?a34 ?l34 ?c_34 ?k34 ?a35 ?l35 ?c_35 ?k35 ?g_State ?pg_State ?hd_State ?po_State ?sa_State ?mk_State ?kc_State ?na_State_relations ?na_State_facts ?na_State_rules ?na_State_denials ?z0 ?z1 ?z2 ?z3 ?z4 ?z5 ?z6 ?z7 ?z8 ?z9 ?z10 ?v0 ?vl0 ?vo0
    (case g_State => k_is)
    (case a0 => k_is)
    (case l0 => k_is)
    (case c_0 => k_is)
    (case k0 => k_is)
    (case a1 => k_is)
    (case l1 => k_is)
    (case c_1 => k_is)
    (case k1 => k_is)
    (case a2 => k_is)
    (case l2 => k_is)
    (case c_2 => k_is)
    (case k2 => k_is)
    (case a3 => k_is)
    (case l3 => k_is)
    (case c_3 => k_is)
    (case k3 => k_is)
    (case a4 => k_is)
    (case q4 => k_is)
    (case l4 => k_is)
    (case c_4 => k_is)
    (case k4 => k_is)
    (case lT4 => k_is)
    (case dTo4 => exact ⟨_, rfl⟩)
    (case lE4 => k_is)
    (case dEo4 => exact ⟨rfl, rfl, _, rfl⟩)
    (case a5 => k_is)
    (case q5 => k_is)
    (case l5 => k_is)
    (case c_5 => k_is)
    (case k5 => k_is)
    (case a6 => k_is)
    (case q6 => k_is)
    (case l6 => k_is)
    (case c_6 => k_is)
    (case k6 => k_is)
    (case a7 => k_is)
    (case q7 => k_is)
    (case l7 => k_is)
    (case c_7 => k_is)
    (case k7 => k_is)
    (case a8 => k_is)
    (case q8 => k_is)
    (case l8 => k_is)
    (case c_8 => k_is)
    (case k8 => k_is)
    (case a9 => k_is)
    (case q9 => k_is)
    (case l9 => k_is)
    (case c_9 => k_is)
    (case k9 => k_is)
    (case a10 => k_is)
    (case q10 => k_is)
    (case l10 => k_is)
    (case c_10 => k_is)
    (case k10 => k_is)
    (case a11 => k_is)
    (case q11 => k_is)
    (case l11 => k_is)
    (case c_11 => k_is)
    (case k11 => k_is)
    (case a12 => k_is)
    (case l12 => k_is)
    (case c_12 => k_is)
    (case k12 => k_is)
    (case a13 => k_is)
    (case l13 => k_is)
    (case c_13 => k_is)
    (case k13 => k_is)
    (case a14 => k_is)
    (case l14 => k_is)
    (case c_14 => k_is)
    (case k14 => k_is)
    (case a15 => k_is)
    (case l15 => k_is)
    (case c_15 => k_is)
    (case k15 => k_is)
    (case a16 => k_is)
    (case l16 => k_is)
    (case c_16 => k_is)
    (case k16 => k_is)
    (case a17 => k_is)
    (case l17 => k_is)
    (case c_17 => k_is)
    (case k17 => k_is)
    (case a18 => k_is)
    (case l18 => k_is)
    (case c_18 => k_is)
    (case k18 => k_is)
    (case a19 => k_is)
    (case l19 => k_is)
    (case c_19 => k_is)
    (case k19 => k_is)
    (case a20 => k_is)
    (case l20 => k_is)
    (case c_20 => k_is)
    (case k20 => k_is)
    (case a21 => k_is)
    (case l21 => k_is)
    (case c_21 => k_is)
    (case k21 => k_is)
    (case a22 => k_is)
    (case l22 => k_is)
    (case c_22 => k_is)
    (case k22 => k_is)
    (case a23 => k_is)
    (case l23 => k_is)
    (case c_23 => k_is)
    (case k23 => k_is)
    (case a24 => k_is)
    (case l24 => k_is)
    (case c_24 => k_is)
    (case k24 => k_is)
    (case a25 => k_is)
    (case l25 => k_is)
    (case c_25 => k_is)
    (case k25 => k_is)
    (case a26 => k_is)
    (case l26 => k_is)
    (case c_26 => k_is)
    (case k26 => k_is)
    (case a27 => k_is)
    (case l27 => k_is)
    (case c_27 => k_is)
    (case k27 => k_is)
    (case a28 => k_is)
    (case l28 => k_is)
    (case c_28 => k_is)
    (case k28 => k_is)
    (case a29 => k_is)
    (case l29 => k_is)
    (case c_29 => k_is)
    (case k29 => k_is)
    (case a30 => k_is)
    (case l30 => k_is)
    (case c_30 => k_is)
    (case k30 => k_is)
    (case a31 => k_is)
    (case l31 => k_is)
    (case c_31 => k_is)
    (case k31 => k_is)
    (case a32 => k_is)
    (case l32 => k_is)
    (case c_32 => k_is)
    (case k32 => k_is)
    (case a33 => k_is)
    (case l33 => k_is)
    (case c_33 => k_is)
    (case k33 => k_is)
    (case a34 => k_is)
    (case l34 => k_is)
    (case c_34 => k_is)
    (case k34 => k_is)
    (case a35 => k_is)
    (case l35 => k_is)
    (case c_35 => k_is)
    (case k35 => k_is)
    (case pg_State => k_is)
    (case hd_State => k_is)
    (case po_State => k_is)
    (case sa_State => k_is)
    (case mk_State => k_is)
    (case kc_State => k_is)
    (case na_State_relations => k_is)
    (case na_State_facts => k_is)
    (case na_State_rules => k_is)
    (case na_State_denials => k_is)
    (case z0 => k_is)
    (case z1 => k_is)
    (case z2 => k_is)
    (case z3 => k_is)
    (case z4 => k_is)
    (case z5 => k_is)
    (case z6 => k_is)
    (case z7 => k_is)
    (case z8 => k_is)
    (case z9 => k_is)
    (case z10 => k_is)
    (case v0 => k_is)
    (case vl0 => k_is)
    (case vo0 => exact ⟨rfl, rfl, _, _, rfl, by decide, .cons ⟨_, rfl⟩ (.cons ⟨_, rfl⟩ (.cons ⟨_, rfl⟩ (.cons ⟨_, rfl⟩ (.nil))))⟩)


