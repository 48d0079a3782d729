import PyProof.Rows.All
import Wide.All
import OpenK.AllK
import Wide.FinOn
import KE.KeyNested
import KE.DataFind
import HandS.Deep
import HandS.DictComp
import HandS.Iter
import HandS.ForMost
import HandS.Wide
import HandS.IsInst
import HandS.Style
import HandS.ForExc
import HandS.ExcOwn
import HandS.TryOnly
import HandS.SetKeys
import HandS.EndBits
import KE.DataCmp
import HandS.TupLe
import HandS.Text
import HandS.Strs
import HandS.TupAny
import HandS.CallSlots
import HandS.WordsDict
import PyProof.DictUpdate
import HandS.ExcIs
import KE.SortKeyHeap
import HandS.SortKw
import HandS.Defaults
import HandS.More
import HandS.StrMore
import KE.GoesRaise
import HandS.ExcInit
import HandS.ExcField
import HandS.ClsMeth
import HandS.Nested
import KE.KExcSuper
import KE.KSuper
import KE.KExcMake
import PySem.Challenge.RW_rulestead_k23_sound_states
set_option Elab.async false
set_option linter.all false
set_option maxRecDepth 1000000
set_option  maxHeartbeats 4000000
namespace Ab
open PySem PySem.Spec PyProof.Rows L2
abbrev NK := NestedKey
/-- what is true of the object at a -/
def NDict (P : Program) (w : World) (a : Addr) (kvs : List (NK × Addr × V)) (h : Heap) : Prop :=
  kvs.length ≤ sizeLine ∧ (a == sysModules) = false ∧ ∃ xs : List (NK × Addr × Value), Paired (fun p q => p.1 = q.1 ∧ p.2.1 = q.2.1 ∧ RelV p.2.2 q.2.2) kvs xs ∧
    ∃ o es ep, h.get? a = some o ∧ o.ExactDict ∧ o.data = .dict es ep ∧ es.toList = xs.map (entryOfKey (nestedKind P w)) ∧ (xs.map (·.1)).Nodup
def HN (P : Program) (w : World) (a : Addr) (kvs : List (NK × Addr × V)) : HO := .ext (NDict P w a kvs)
def rRemD (K : PySem.W.Frag) : V → List V → Hp → VK → Prop := fun x xs H Q => ∃ (a : Addr) (ws : List V) (y : V) (d : PyData) (ds : List PyData) (j : Nat), x = V.ref a ∧ xs = [y] ∧ H a = some (.lst ws) ∧ DpAll K H ws ds ∧ Dp K H y d ∧
  SeqAt.shaped (.list ds) = true ∧ SeqAt.shaped d = true ∧ (∃ z, ds[j]? = some z ∧ PyData.eqv z d = true) ∧ (∀ (m : Nat) (z' : PyData), m < j → ds[m]? = some z' → PyData.eqv z' d = false) ∧ Q .non (upd H a (.lst (ws.eraseIdx j)))
theorem mt_remD {X : Cx} (hu : X.A.units + 65 < cLine) : MtR X "list.remove" (rRemD X.K) := by
  intro pins s σ H x xs v us Q I rx rxs h
  obtain ⟨a, ws, y, d, ds, j, rfl, rfl, hH, ha, hy, sl, sd, ⟨z, hz, hzj⟩, hno, q⟩ := h
  cases rx
  obtain ⟨uy, rfl, ry⟩ := rxs.one
  obtain ⟨bs, r1⟩ := Dp.reads I d y uy hy ry
  have hxs : PyData.canLayAll0 ds = true := SeqAt.canLay_of_shaped sl
  have hroom : X.A.units + 1 + min (PyData.depthAll ds) d.depth < cLine := room_in_shaped sd hu
  obtain ⟨hsz0, its, n, rv, hl, e0⟩ := I.lstM hH
  obtain ⟨as, h4⟩ := Dp.readsAll I ds _ its ha rv
  have hn : its.length = ds.length := SeqAt.ReadsAll.length ds its as h4
  have hmap : its.map (SeqAt.readOf s.heap) = ds := SeqAt.readsAll_map ds its as hxs h4
  obtain ⟨hjd, _⟩ := List.getElem?_eq_some_iff.mp hz
  have hjl : j < its.length := by omega
  have hj : j < its.toArray.size := by simpa using hjl
  have at_ : ∀ (m : Nat) (hm : m < its.toArray.size) (z' : PyData), ds[m]? = some z' → SeqAt.readOf s.heap its.toArray[m] = z' := by
    intro m hm z' hz'
    have hml : m < its.length := by simpa using hm
    rw [← hmap, List.getElem?_map, List.getElem?_eq_getElem hml] at hz'
    have e1 : SeqAt.readOf s.heap its[m] = z' := Option.some.inj (show some (SeqAt.readOf s.heap its[m]) = some z' from hz')
    simpa using e1
  have hsz : its.toArray.size ≤ sizeLine := by rw [List.size_toArray, ← hl]; exact hsz0
  refine call_meets PySem.F.slot_list_remove ⟨_, e0, rfl⟩ PySem.F.entry_list_remove (PySem.F.args_list_remove_2 _ _)
    (SeqAt.list_removeAt a its.toArray n none #[] uy (fun u => PyData.eqv (SeqAt.readOf s.heap u) d) j hj ?_ ?_ hsz) ⟨e0, SeqAt.items_eqAt (vs := its.toArray) (show ReadsAll s.heap its.toArray.toList ds as from h4) r1 hxs (SeqAt.canLay_of_shaped sd) hroom, ?_⟩
  · show PyData.eqv (SeqAt.readOf s.heap its.toArray[j]) d = true
    rw [at_ j hj z hz]
    exact hzj
  · intro m hm hmj
    have hmd : m < ds.length := by omega
    have hz' : ds[m]? = some ds[m] := List.getElem?_eq_getElem hmd
    show PyData.eqv (SeqAt.readOf s.heap its.toArray[m]) d = false
    rw [at_ m hm _ hz']
    exact hno m _ hmj hz'
  · refine ⟨.non, _, I.lset (its' := its.eraseIdx j) hH e0 ?_ (rv.eraseIdx j) ?_, rfl, q⟩
    · show its.toArray.eraseIdxIfInBounds j = (its.eraseIdx j).toArray
      rw [List.eraseIdxIfInBounds_toArray]
    · rw [List.length_eraseIdx]
      split <;> omega
/-- what stands of a walk within the block -/
structure Mid (Y : Cx) (fp : List Addr) (tn : Nat → Heap → Prop) (σ : L2.St) (i : Nat) (H : Hp) (s : Shared) : Prop where
  inv : Inv Y [] σ H s
  at_ : tn i s.heap
  fr : ∀ b ∈ fp, H b = none
end Ab
set_option Elab.async false
set_option linter.all false
set_option maxRecDepth 1000000
set_option  maxHeartbeats 4000000
namespace Ab
open PySem L2
theorem same_new {H : Hp} {p : Addr} {o : HO} (h : H p = none) : Same H (upd H p o) := fun b u e => by
  rw [upd_ne (ne_of_none e h)]
  exact e
theorem same_rd {H H' : Hp} {a : Addr} {u : HO} (e : Same H H') (h : Rd H a u) : Rd H' a u := by
  rcases h with h | ⟨o, h⟩
  · exact .inl (e _ _ h)
  · exact .inr ⟨o, e _ _ h⟩
theorem same_t {K : PySem.W.Frag} {H H' : Hp} {a : Addr} {xs : List V} (e : Same H H') (h : SqT K H a xs) : SqT K H' a xs := by
  rcases h with h | h
  · exact .inl (same_rd e h)
  · exact .inr h
def kD : Key → PyData
  | .inl i => .int i
  | .inr x => .str x
mutual
inductive Dq (K : PySem.W.Frag) (H : Hp) : V → PyData → Prop
  | non : Dq K H .non .none
  | bl (b : Bool) : Dq K H (.bl b) (.bool b)
  | int (i : Int) : Dq K H (.int i) (.int i)
  | str (x : Str) : Dq K H (.str x) (.str x)
  | lst {a : Addr} {xs : List V} {ds : List PyData} : H a = some (.lst xs) → DqAll K H xs ds → Dq K H (.ref a) (.list ds)
  | tup {a : Addr} {xs : List V} {ds : List PyData} : SqT K H a xs → DqAll K H xs ds → Dq K H (.ref a) (.tuple ds)
  | dct {a : Addr} {vs : List (Key × V)} {kvs : List (PyData × PyData)} : Rd H a (.dK vs) → DqKs K H vs kvs → Dq K H (.ref a) (.dict kvs)
inductive DqAll (K : PySem.W.Frag) (H : Hp) : List V → List PyData → Prop
  | nil : DqAll K H [] []
  | cons {v : V} {vs : List V} {d : PyData} {ds : List PyData} : Dq K H v d → DqAll K H vs ds → DqAll K H (v :: vs) (d :: ds)
inductive DqKs (K : PySem.W.Frag) (H : Hp) : List (Key × V) → List (PyData × PyData) → Prop
  | nil : DqKs K H [] []
  | cons {k : Key} {v : V} {vs : List (Key × V)} {x d : PyData} {ds : List (PyData × PyData)} : x = kD k → Dq K H v d → DqKs K H vs ds → DqKs K H ((k, v) :: vs) ((x, d) :: ds)
end
section
variable {K : PySem.W.Frag} {B B' : Hp}
mutual
theorem dq_dp : ∀ (d : PyData) (v : V), d.hasDict = false → Dq K B v d → Dp K B v d
  | .none, _, _, h => by cases h; exact .non
  | .bool b, _, _, h => by cases h; exact .bl b
  | .int i, _, _, h => by cases h; exact .int i
  | .str x, _, _, h => by cases h; exact .str x
  | .list ds, _, l, h => by
    cases h with
    | lst hs ha => exact .lst (.inl (.inl hs)) (dqa_dp ds _ (by simpa [PyData.hasDict] using l) ha)
  | .tuple ds, _, l, h => by
    cases h with
    | tup hs ha => exact .tup hs (dqa_dp ds _ (by simpa [PyData.hasDict] using l) ha)
  | .dict _, _, l, h => by simp [PyData.hasDict] at l
theorem dqa_dp : ∀ (ds : List PyData) (vs : List V), PyData.hasDictAll ds = false → DqAll K B vs ds → DpAll K B vs ds
  | [], _, _, h => by cases h; exact .nil
  | d :: ds, _, l, h => by
    cases h with
    | cons h1 h2 =>
      rw [PyData.hasDictAll, Bool.or_eq_false_iff] at l
      exact .cons (dq_dp d _ l.1 h1) (dqa_dp ds _ l.2 h2)
end
theorem dq_dpS {d : PyData} {v : V} (h : SeqAt.shaped d = true) (o : Dq K B v d) : Dp K B v d := dq_dp d v (PyData.hasDict_of_canLay d (SeqAt.canLay_of_shaped h)) o
theorem dqa_dpS {ds : List PyData} {vs : List V} (h : SeqAt.shaped (.list ds) = true) (o : DqAll K B vs ds) : DpAll K B vs ds := dqa_dp ds vs (by simpa [PyData.hasDict] using PyData.hasDict_of_canLay _ (SeqAt.canLay_of_shaped h)) o
mutual
theorem dp_same0 (e : Same B B') : ∀ {v : V} {d : PyData}, Dq K B v d → Dq K B' v d
  | _, _, .non => .non
  | _, _, .bl b => .bl b
  | _, _, .int i => .int i
  | _, _, .str x => .str x
  | _, _, .lst hs ha => .lst (e _ _ hs) (dpa_same0 e ha)
  | _, _, .tup hs ha => .tup (same_t e hs) (dpa_same0 e ha)
  | _, _, .dct hs ha => .dct (same_rd e hs) (dpk_same0 e ha)
theorem dpa_same0 (e : Same B B') : ∀ {vs : List V} {ds : List PyData}, DqAll K B vs ds → DqAll K B' vs ds
  | _, _, .nil => .nil
  | _, _, .cons h t => .cons (dp_same0 e h) (dpa_same0 e t)
theorem dpk_same0 (e : Same B B') : ∀ {vs : List (Key × V)} {ds : List (PyData × PyData)}, DqKs K B vs ds → DqKs K B' vs ds
  | _, _, .nil => .nil
  | _, _, .cons q h t => .cons q (dp_same0 e h) (dpk_same0 e t)
end
theorem dp_same (e : Same B B') (d : PyData) (v : V) (h : Dq K B v d) : Dq K B' v d := dp_same0 e h
theorem dpa_same (e : Same B B') (ds : List PyData) (vs : List V) (h : DqAll K B vs ds) : DqAll K B' vs ds := dpa_same0 e h
end
inductive Sl where
  /-- data that nobody changes -/
  | dat (d : PyData)
  /-- just this value -/
  | raw (v : V)
  /-- what else is known of it, as long as things are only added -/
  | abs (P : Hp → V → Prop) (m : ∀ B B' v, Same B B' → P B v → P B' v)
abbrev Sl.int (i : Int) : Sl := .dat (.int i)
abbrev Sl.bl (b : Bool) : Sl := .dat (.bool b)
abbrev Sl.str (x : Str) : Sl := .dat (.str x)
abbrev Sl.non : Sl := .dat .none
abbrev Sl.ref (a : Addr) : Sl := .raw (.ref a)
def SlOk (K : PySem.W.Frag) (B : Hp) (v : V) : Sl → Prop
  | .dat d => Dq K B v d
  | .raw u => v = u
  | .abs P _ => P B v
section
variable {K : PySem.W.Frag} {B B' : Hp} {v : V} {s : Sl}
theorem SlOk.mono (e : Same B B') (h : SlOk K B v s) : SlOk K B' v s := by
  cases s with
  | dat d => exact dp_same e d v h
  | raw u => exact h
  | abs P m => exact m _ _ _ e h
theorem slok_int {i : Int} : SlOk K B (.int i) (.int i) := Dq.int i
theorem slok_bl {b : Bool} : SlOk K B (.bl b) (.bl b) := Dq.bl b
theorem slok_str {x : Str} : SlOk K B (.str x) (.str x) := Dq.str x
theorem slok_non : SlOk K B .non .non := Dq.non
theorem slok_ref {a : Addr} : SlOk K B (.ref a) (.ref a) := rfl
theorem of_int {i : Int} (h : SlOk K B v (.int i)) : v = .int i := by cases h; rfl
theorem of_bl {b : Bool} (h : SlOk K B v (.bl b)) : v = .bl b := by cases h; rfl
theorem of_str {x : Str} (h : SlOk K B v (.str x)) : v = .str x := by cases h; rfl
theorem of_non (h : SlOk K B v .non) : v = .non := by cases h; rfl
abbrev SlAll (K : PySem.W.Frag) (B : Hp) : List V → List Sl → Prop := Paired fun v s => SlOk K B v s
theorem SlAll.mono (e : Same B B') {vs : List V} {ss : List Sl} (h : SlAll K B vs ss) : SlAll K B' vs ss := Paired.mapP h fun _ _ q => q.mono e
theorem sla_dat : ∀ {vs : List V} {ds : List PyData}, DqAll K B vs ds → SlAll K B vs (ds.map .dat)
  | _, _, .nil => .nil
  | _, _, .cons h t => .cons h (sla_dat t)
theorem dpa_of : ∀ {vs : List V} {ds : List PyData}, SlAll K B vs (ds.map .dat) → DqAll K B vs ds
  | _, [], .nil => .nil
  | _, _ :: _, .cons h t => .cons h (dpa_of t)
theorem DqAll.length : ∀ {vs : List V} {ds : List PyData}, DqAll K B vs ds → vs.length = ds.length
  | _, _, .nil => rfl
  | _, _, .cons _ t => congrArg (· + 1) (DqAll.length t)
theorem DqAll.app : ∀ {vs ws : List V} {ds es : List PyData}, DqAll K B vs ds → DqAll K B ws es → DqAll K B (vs ++ ws) (ds ++ es)
  | _, _, _, _, .nil, h => h
  | _, _, _, _, .cons h t, h' => .cons h (DqAll.app t h')
theorem DqAll.take : ∀ (n : Nat) {vs : List V} {ds : List PyData}, DqAll K B vs ds → DqAll K B (vs.take n) (ds.take n)
  | 0, _, _, _ => .nil
  | _ + 1, _, _, .nil => .nil
  | n + 1, _, _, .cons h t => .cons h (DqAll.take n t)
theorem DqAll.drop : ∀ (n : Nat) {vs : List V} {ds : List PyData}, DqAll K B vs ds → DqAll K B (vs.drop n) (ds.drop n)
  | 0, _, _, h => h
  | _ + 1, _, _, .nil => .nil
  | n + 1, _, _, .cons _ t => DqAll.drop n t
theorem DqAll.get : ∀ {i : Nat} {vs : List V} {ds : List PyData} {d : PyData}, DqAll K B vs ds → ds[i]? = some d → ∃ v, vs[i]? = some v ∧ Dq K B v d
  | _, _, _, _, .nil, e => by simp at e
  | 0, _, _, _, .cons h _, e => by simp at e; subst e; exact ⟨_, rfl, h⟩
  | i + 1, _, _, _, .cons _ t, e => by
    obtain ⟨v, h1, h2⟩ := DqAll.get (i := i) t (by simpa using e)
    exact ⟨v, by simpa using h1, h2⟩
theorem SlAll.get : ∀ {i : Nat} {vs : List V} {ss : List Sl} {s : Sl}, SlAll K B vs ss → ss[i]? = some s → ∃ v, vs[i]? = some v ∧ SlOk K B v s
  | _, _, _, _, .nil, e => by simp at e
  | 0, _, _, _, .cons h _, e => by simp at e; subst e; exact ⟨_, rfl, h⟩
  | i + 1, _, _, _, .cons _ t, e => by
    obtain ⟨v, h1, h2⟩ := SlAll.get (i := i) t (by simpa using e)
    exact ⟨v, by simpa using h1, h2⟩
theorem SlAll.setI {v : V} {s : Sl} (r : SlOk K B v s) : ∀ (i : Nat) {vs : List V} {ss : List Sl}, SlAll K B vs ss → SlAll K B (vs.set i v) (ss.set i s)
  | _, _, _, .nil => .nil
  | 0, _, _, .cons _ t => .cons r t
  | i + 1, _, _, .cons q t => .cons q (SlAll.setI r i t)
theorem SlAll.app : ∀ {vs ws : List V} {ds es : List Sl}, SlAll K B vs ds → SlAll K B ws es → SlAll K B (vs ++ ws) (ds ++ es)
  | _, _, _, _, .nil, h => h
  | _, _, _, _, .cons h t, h' => .cons h (SlAll.app t h')
end
abbrev Rho := List (Option Sl)
def Rl0 (K : PySem.W.Frag) (B : Hp) : L2.St → Rho → Prop
  | [], [] => True
  | x :: σ, y :: ρ => (∀ s, y = some s → ∃ v, x = some v ∧ SlOk K B v s) ∧ Rl0 K B σ ρ
  | _, _ => False
section
variable {K : PySem.W.Frag} {B B' : Hp}
theorem Rl0.mono (e : Same B B') : ∀ {σ : L2.St} {ρ : Rho}, Rl0 K B σ ρ → Rl0 K B' σ ρ
  | [], [], _ => trivial
  | _ :: _, _ :: _, ⟨h, t⟩ => ⟨fun s q => let ⟨v, e1, e2⟩ := h s q; ⟨v, e1, e2.mono e⟩, Rl0.mono e t⟩
theorem Rl0.get : ∀ {i : Nat} {σ : L2.St} {ρ : Rho} {s : Sl}, Rl0 K B σ ρ → ρ[i]? = some (some s) → ∃ v, σ[i]? = some (some v) ∧ SlOk K B v s
  | _, [], [], _, _, e => by simp at e
  | 0, _ :: _, _ :: _, s, ⟨h, _⟩, e => by
    obtain ⟨v, e1, e2⟩ := h s (by simpa using e)
    exact ⟨v, by rw [e1]; rfl, e2⟩
  | i + 1, _ :: _, _ :: _, s, ⟨_, t⟩, e => by
    obtain ⟨v, h1, h2⟩ := Rl0.get (i := i) t (by simpa using e)
    exact ⟨v, by simpa using h1, h2⟩
theorem Rl0.put {v : V} {s : Sl} (r : SlOk K B v s) : ∀ (i : Nat) {σ : L2.St} {ρ : Rho}, Rl0 K B σ ρ → Rl0 K B (σ.set i (some v)) (ρ.set i (some s))
  | _, [], [], _ => trivial
  | 0, _ :: _, _ :: _, ⟨_, t⟩ => ⟨fun s' q => (by cases q; exact ⟨v, rfl, r⟩), t⟩
  | i + 1, _ :: _, _ :: _, ⟨h, t⟩ => ⟨h, Rl0.put r i t⟩
theorem Rl0.non : ∀ (i : Nat) {σ : L2.St} {ρ : Rho}, Rl0 K B σ ρ → Rl0 K B (σ.set i none) (ρ.set i none)
  | _, [], [], _ => trivial
  | 0, _ :: _, _ :: _, ⟨_, t⟩ => ⟨fun s' q => (by cases q), t⟩
  | i + 1, _ :: _, _ :: _, ⟨h, t⟩ => ⟨h, Rl0.non i t⟩
def wipeR (ρ : Rho) : List Nat → Rho
  | [] => ρ
  | v :: vs => (wipeR ρ vs).set v none
theorem Rl0.wiped {σ : L2.St} {ρ : Rho} (h : Rl0 K B σ ρ) : ∀ vs : List Nat, Rl0 K B (wipe σ vs) (wipeR ρ vs)
  | [] => h
  | v :: vs => Rl0.non v (Rl0.wiped h vs)
theorem rl_start : ∀ {vs : List V} {ss : List Sl} (n : Nat), SlAll K B vs ss → Rl0 K B (vs.map some ++ List.replicate n none) (ss.map some ++ List.replicate n none)
  | _, _, n, .nil => by
    show Rl0 K B (List.replicate n none) (List.replicate n none)
    induction n with
    | zero => trivial
    | succ n ih => exact ⟨fun s q => (by cases q), ih⟩
  | _, _, n, .cons h t => ⟨fun s q => (by cases q; exact ⟨_, rfl, h⟩), rl_start n t⟩
/-- what is known of a frame stands in another list of what is known, slot by slot -/
theorem wipe_set (σ : L2.St) (x : Option V) : ∀ (vs : List Nat) (j : Nat), j ∈ vs → wipe (σ.set j x) vs = wipe σ vs
  | [], _, h => by cases h
  | v :: vs, j, h => by
    show (wipe (σ.set j x) vs).set v none = (wipe σ vs).set v none
    by_cases hj : j ∈ vs
    · rw [wipe_set σ x vs j hj]
    · have e : j = v := by
        rcases List.mem_cons.mp h with h | h
        · exact h
        · exact absurd h hj
      subst e
      have out : ∀ (vs : List Nat) (σ : L2.St), j ∉ vs → wipe (σ.set j x) vs = (wipe σ vs).set j x := by
        intro vs
        induction vs with
        | nil => intro σ _; rfl
        | cons w ws ih =>
          intro σ hn
          have h1 : j ≠ w := fun e => hn (by rw [e]; exact List.mem_cons_self)
          have h2 : j ∉ ws := fun e => hn (List.mem_cons_of_mem _ e)
          show (wipe (σ.set j x) ws).set w none = ((wipe σ ws).set w none).set j x
          rw [ih σ h2, List.set_comm _ _ h1]
      rw [out vs σ hj, List.set_set]
theorem wipe_wipe (σ : L2.St) : ∀ (vs : List Nat), wipe (wipe σ vs) vs = wipe σ vs
  | [] => rfl
  | v :: vs => by
    show (wipe ((wipe σ vs).set v none) vs).set v none = (wipe σ vs).set v none
    by_cases hv : v ∈ vs
    · rw [wipe_set _ _ vs v hv, wipe_wipe σ vs]
    · have out : ∀ (vs : List Nat) (σ : L2.St), v ∉ vs → wipe (σ.set v none) vs = (wipe σ vs).set v none := by
        intro vs
        induction vs with
        | nil => intro σ _; rfl
        | cons w ws ih =>
          intro σ hn
          have h1 : v ≠ w := fun e => hn (by rw [e]; exact List.mem_cons_self)
          have h2 : v ∉ ws := fun e => hn (List.mem_cons_of_mem _ e)
          show (wipe (σ.set v none) ws).set w none = ((wipe σ ws).set w none).set v none
          rw [ih σ h2, List.set_comm _ _ h1]
      rw [out vs _ hv, wipe_wipe σ vs, List.set_set]
end
inductive MO where
  | lst (xs : List Sl)
  | dK (kvs : List (Key × Sl))
  | ins (C dx : Addr) (fs : List (Str × Sl))
  | xd (fs : List (Str × Sl))
  | ho (o : HO)
  /-- a dict whose keys are nested tuples -/
  | dN (P : Program) (w : World) (a : Addr) (kvs : List (NK × Sl))
  /-- known to somebody else for a while: read, not changed -/
  | frz (ob : Obj) (v : HO) (o : MO)
abbrev MH := Addr → Option MO
def um (M : MH) (a : Addr) (o : MO) : MH := fun b => if b = a then some o else M b
def del (M : MH) (a : Addr) : MH := fun b => if b = a then none else M b
theorem um_same {M : MH} {a : Addr} {o : MO} : um M a o a = some o := by unfold um; rw [if_pos rfl]
theorem um_ne {M : MH} {a b : Addr} {o : MO} (h : b ≠ a) : um M a o b = M b := by unfold um; rw [if_neg h]
theorem um_um {M : MH} {a : Addr} {o u : MO} : um (um M a o) a u = um M a u := by
  funext b; unfold um; split <;> rfl
theorem um_id {M : MH} {a : Addr} {o : MO} (h : M a = some o) : um M a o = M := by
  funext b
  by_cases e : b = a
  · subst e; rw [um_same, h]
  · rw [um_ne e]
theorem um_comm {M : MH} {a b : Addr} {o u : MO} (h : a ≠ b) : um (um M a o) b u = um (um M b u) a o := by
  funext c
  by_cases e1 : c = a
  · subst e1
    rw [um_ne h, um_same, um_same]
  · by_cases e2 : c = b
    · subst e2
      rw [um_same, um_ne e1, um_same]
    · rw [um_ne e2, um_ne e1, um_ne e1, um_ne e2]
theorem del_same {M : MH} {a : Addr} : del M a a = none := by unfold del; rw [if_pos rfl]
theorem del_ne {M : MH} {a b : Addr} (h : b ≠ a) : del M a b = M b := by unfold del; rw [if_neg h]
theorem del_um {M : MH} {a : Addr} {o : MO} (h : M a = none) : del (um M a o) a = M := by
  funext b
  by_cases e : b = a
  · subst e; rw [del_same, h]
  · rw [del_ne e, um_ne e]
abbrev SlKs {κ : Type} (K : PySem.W.Frag) (B : Hp) : List (κ × V) → List (κ × Sl) → Prop := Paired fun p q => p.1 = q.1 ∧ SlOk K B p.2 q.2
/-- keys and values stand -/
abbrev SlNs (K : PySem.W.Frag) (B : Hp) : List (NK × Addr × V) → List (NK × Sl) → Prop := Paired fun p q => p.1 = q.1 ∧ (Dq K B (.ref p.2.1) p.1.data ∧ p.1.depth ≤ 8) ∧ SlOk K B p.2.2 q.2
def MOk (K : PySem.W.Frag) (B : Hp) (u : HO) : MO → Prop
  | .lst xs => ∃ vs, u = .lst vs ∧ SlAll K B vs xs
  | .dK kvs => ∃ vs, u = .dK vs ∧ SlKs K B vs kvs
  | .ins C dx fs => ∃ vs, u = .ins C dx vs ∧ SlKs K B vs fs
  | .xd fs => ∃ vs, u = .xd vs ∧ SlKs K B vs fs
  | .ho o => u = o
  | .dN P w a kvs => ∃ vs, u = HN P w a vs ∧ SlNs K B vs kvs
  | .frz ob v o => u = .frz ob v ∧ MOk K B v o
theorem MOk.mono {K : PySem.W.Frag} {B B' : Hp} (e : Same B B') {u : HO} {o : MO} (h : MOk K B u o) : MOk K B' u o := by
  induction o generalizing u with
  | lst xs => obtain ⟨vs, h1, h2⟩ := h; exact ⟨vs, h1, h2.mono e⟩
  | dK xs => obtain ⟨vs, h1, h2⟩ := h; exact ⟨vs, h1, Paired.mapP h2 fun _ _ q => ⟨q.1, q.2.mono e⟩⟩
  | ins C dx xs => obtain ⟨vs, h1, h2⟩ := h; exact ⟨vs, h1, Paired.mapP h2 fun _ _ q => ⟨q.1, q.2.mono e⟩⟩
  | xd xs => obtain ⟨vs, h1, h2⟩ := h; exact ⟨vs, h1, Paired.mapP h2 fun _ _ q => ⟨q.1, q.2.mono e⟩⟩
  | ho o => exact h
  | dN P w a kvs => obtain ⟨vs, h1, h2⟩ := h; exact ⟨vs, h1, Paired.mapP h2 fun _ _ q => ⟨q.1, ⟨dp_same e _ _ q.2.1.1, q.2.1.2⟩, q.2.2.mono e⟩⟩
  | frz ob v o ih => exact ⟨h.1, ih h.2⟩
structure Sep (K : PySem.W.Frag) (B : Hp) (M : MH) (H : Hp) : Prop where
  sub : Same B H
  has : ∀ a o, M a = some o → B a = none ∧ ∃ u, H a = some u ∧ MOk K B u o
section
variable {K : PySem.W.Frag} {B H : Hp} {M : MH}
theorem Sep.freeB (S : Sep K B M H) {p : Addr} (h : H p = none) : B p = none := S.sub.free h
theorem Sep.freeM (S : Sep K B M H) {p : Addr} (h : H p = none) : M p = none := by
  cases e : M p with
  | none => rfl
  | some o =>
    obtain ⟨_, u, hu, _⟩ := S.has p o e
    rw [h] at hu; cases hu
/-- a new object that nobody will change -/
theorem Sep.alloc (S : Sep K B M H) {p : Addr} {o : HO} (h : H p = none) : Sep K (upd B p o) M (upd H p o) := by
  have hB := S.freeB h
  refine ⟨fun b u e => ?_, fun a u e => ?_⟩
  · by_cases hb : b = p
    · subst hb; rw [upd_same] at e ⊢; exact e
    · rw [upd_ne hb] at e ⊢; exact S.sub b u e
  · obtain ⟨h1, w, h2, h3⟩ := S.has a u e
    have hne : a ≠ p := ne_of_none h2 h
    exact ⟨by rw [upd_ne hne]; exact h1, w, by rw [upd_ne hne]; exact h2, h3.mono (same_new hB)⟩
/-- a new object that may be changed -/
theorem Sep.new (S : Sep K B M H) {p : Addr} {u : HO} {o : MO} (h : H p = none) (ok : MOk K B u o) : Sep K B (um M p o) (upd H p u) := by
  have hB := S.freeB h
  refine ⟨fun b w e => ?_, fun a w e => ?_⟩
  · rw [upd_ne (ne_of_none e hB)]; exact S.sub b w e
  · by_cases ha : a = p
    · subst ha
      rw [um_same] at e; cases e
      exact ⟨hB, u, upd_same, ok⟩
    · rw [um_ne ha] at e
      obtain ⟨h1, w', h2, h3⟩ := S.has a w e
      exact ⟨h1, w', by rw [upd_ne ha]; exact h2, h3⟩
/-- it is changed -/
theorem Sep.put (S : Sep K B M H) {p : Addr} {u : HO} {o o' : MO} (h : M p = some o) (ok : MOk K B u o') : Sep K B (um M p o') (upd H p u) := by
  obtain ⟨hB, _, _, _⟩ := S.has p o h
  refine ⟨fun b w e => ?_, fun a w e => ?_⟩
  · rw [upd_ne (ne_of_none e hB)]; exact S.sub b w e
  · by_cases ha : a = p
    · subst ha
      rw [um_same] at e; cases e
      exact ⟨hB, u, upd_same, ok⟩
    · rw [um_ne ha] at e
      obtain ⟨h1, w', h2, h3⟩ := S.has a w e
      exact ⟨h1, w', by rw [upd_ne ha]; exact h2, h3⟩
/-- it will not be changed any more -/
theorem Sep.freeze (S : Sep K B M H) {p : Addr} {u : HO} {o : MO} (h : M p = some o) (hu : H p = some u) : Sep K (upd B p u) (del M p) H := by
  obtain ⟨hB, _, _, _⟩ := S.has p o h
  refine ⟨fun b w e => ?_, fun a w e => ?_⟩
  · by_cases hb : b = p
    · subst hb; rw [upd_same] at e; cases e; exact hu
    · rw [upd_ne hb] at e; exact S.sub b w e
  · by_cases ha : a = p
    · subst ha; rw [del_same] at e; cases e
    · rw [del_ne ha] at e
      obtain ⟨h1, w', h2, h3⟩ := S.has a w e
      exact ⟨by rw [upd_ne ha]; exact h1, w', h2, h3.mono (same_new hB)⟩
/-- less may be said -/
theorem Sep.drop (S : Sep K B M H) {p : Addr} : Sep K B (del M p) H := ⟨S.sub, fun a o e => by
  by_cases ha : a = p
  · subst ha; rw [del_same] at e; cases e
  · rw [del_ne ha] at e; exact S.has a o e⟩
end
/-- a list that is known else -/
def LsK (K : PySem.W.Frag) (s : Sl) (xs : List Sl) : Prop := ∀ (B H : Hp) (v : V), Same B H → SlOk K B v s → ∃ a vs, v = .ref a ∧ SqL K H a vs ∧ SlAll K B vs xs
/-- a list that is read: data, or one that may change -/
def LsV (K : PySem.W.Frag) (s : Sl) (M : MH) (xs : List Sl) : Prop := (∃ ds, s = .dat (.list ds) ∧ xs = ds.map .dat) ∨ (∃ a, s = .raw (.ref a) ∧ M a = some (.lst xs)) ∨ LsK K s xs
def TpV (s : Sl) (xs : List Sl) : Prop := ∃ ds, s = .dat (.tuple ds) ∧ xs = ds.map .dat
theorem lsv_dat {K : PySem.W.Frag} {ds : List PyData} {M : MH} : LsV K (.dat (.list ds)) M (ds.map .dat) := .inl ⟨ds, rfl, rfl⟩
theorem lsv_ref {K : PySem.W.Frag} {a : Addr} {M : MH} {xs : List Sl} (h : M a = some (.lst xs)) : LsV K (.raw (.ref a)) M xs := .inr (.inl ⟨a, rfl, h⟩)
theorem tpv_dat {ds : List PyData} : TpV (.dat (.tuple ds)) (ds.map .dat) := ⟨ds, rfl, rfl⟩
section
variable {K : PySem.W.Frag} {B H : Hp} {M : MH} {v : V} {s : Sl} {xs : List Sl}
theorem LsV.get (h : LsV K s M xs) (S : Sep K B M H) (o : SlOk K B v s) : ∃ a vs, v = .ref a ∧ SqL K H a vs ∧ SlAll K B vs xs := by
  rcases h with ⟨ds, rfl, rfl⟩ | ⟨a, rfl, e⟩ | h
  · cases o with
    | lst hs ha => exact ⟨_, _, rfl, .inl (.inl (S.sub _ _ hs)), sla_dat ha⟩
  · obtain ⟨_, u, hu, vs, rfl, ha⟩ := S.has a _ e
    exact ⟨a, vs, o, SqL.of hu, ha⟩
  · exact h B H v S.sub o
/-- a list that is no constant of the module -/
def LsR (s : Sl) (M : MH) (xs : List Sl) : Prop := (∃ ds, s = .dat (.list ds) ∧ xs = ds.map .dat) ∨ ∃ a, s = .raw (.ref a) ∧ M a = some (.lst xs)
theorem lsr_dat {ds : List PyData} {M : MH} : LsR (.dat (.list ds)) M (ds.map .dat) := .inl ⟨ds, rfl, rfl⟩
theorem LsR.get (h : LsR s M xs) (S : Sep K B M H) (o : SlOk K B v s) : ∃ a vs, v = .ref a ∧ Rd H a (.lst vs) ∧ SlAll K B vs xs := by
  rcases h with ⟨ds, rfl, rfl⟩ | ⟨a, rfl, e⟩
  · cases o with
    | lst hs ha => exact ⟨_, _, rfl, .inl (S.sub _ _ hs), sla_dat ha⟩
  · obtain ⟨_, u, hu, vs, rfl, ha⟩ := S.has a _ e
    exact ⟨a, vs, o, Rd.of hu, ha⟩
theorem TpV.get (h : TpV s xs) (S : Sep K B M H) (o : SlOk K B v s) : ∃ a vs, v = .ref a ∧ SqT K H a vs ∧ SlAll K B vs xs := by
  obtain ⟨ds, rfl, rfl⟩ := h
  cases o with
  | tup hs ha => exact ⟨_, _, rfl, same_t S.sub hs, sla_dat ha⟩
theorem SlAll.len {vs : List V} (h : SlAll K B vs xs) : vs.length = xs.length := Paired.length h
end
/-- where a def stands: the module's part, what is wanted of an exception (W), and what is told of it (X) -/
structure KX where
  K : PySem.W.Frag
  W : WX
  X : Value → Option Addr → Rho → MH → Prop
/-- nothing is raised -/
abbrev KX.pure (K : PySem.W.Frag) : KX := ⟨K, fun _ _ _ _ => False, fun _ _ _ _ => False⟩
instance : Coe KX PySem.W.Frag := ⟨KX.K⟩
instance : Coe PySem.W.Frag KX := ⟨KX.pure⟩
def XOk (k : KX) (B : Hp) : Prop := ∀ C d ρ' M' σ' B' H', k.X C d ρ' M' → Same B B' → Rl0 k.K B' σ' ρ' → Sep k.K B' M' H' → k.W C d σ' H'
structure Rl (k : KX) (B : Hp) (σ : L2.St) (ρ : Rho) : Prop where
  r : Rl0 k.K B σ ρ
  x : XOk k B
section
variable {k : KX} {B B' : Hp} {σ : L2.St} {ρ : Rho}
theorem Rl.mono (e : Same B B') (h : Rl k B σ ρ) : Rl k B' σ ρ := ⟨h.r.mono e, fun C d ρ' M' σ' B2 H' q e2 => h.x C d ρ' M' σ' B2 H' q (e.trans e2)⟩
theorem Rl.get {i : Nat} {s : Sl} (h : Rl k B σ ρ) (e : ρ[i]? = some (some s)) : ∃ v, σ[i]? = some (some v) ∧ SlOk k.K B v s := h.r.get e
theorem Rl.put {v : V} {s : Sl} (r : SlOk k.K B v s) (i : Nat) (h : Rl k B σ ρ) : Rl k B (σ.set i (some v)) (ρ.set i (some s)) := ⟨h.r.put r i, h.x⟩
theorem Rl.non (i : Nat) (h : Rl k B σ ρ) : Rl k B (σ.set i none) (ρ.set i none) := ⟨h.r.non i, h.x⟩
theorem Rl.wiped (h : Rl k B σ ρ) (vs : List Nat) : Rl k B (wipe σ vs) (wipeR ρ vs) := ⟨h.r.wiped vs, h.x⟩
end
def W (K : KX) (te : TE) (ρ : Rho) (M : MH) (Q : Sl → MH → Prop) : Prop :=
  ∀ σ B H, Rl K B σ ρ → Sep K B M H → ∀ Q0 : VK, (∀ s v M' B' H', Q s M' → Same B B' → Sep K B' M' H' → SlOk K B' v s → Q0 v H') → te σ H Q0
def WT (K : KX) (te : TT) (ρ : Rho) (M : MH) (Q : Bool → MH → Prop) : Prop :=
  ∀ σ B H, Rl K B σ ρ → Sep K B M H → ∀ Q0 : Bool → Hp → Prop, (∀ b M' B' H', Q b M' → Same B B' → Sep K B' M' H' → Q0 b H') → te σ H Q0
def WA (K : KX) (te : TA) (ρ : Rho) (M : MH) (Q : List Sl → MH → Prop) : Prop :=
  ∀ σ B H, Rl K B σ ρ → Sep K B M H → ∀ Q0 : List V → Hp → Prop, (∀ ss vs M' B' H', Q ss M' → Same B B' → Sep K B' M' H' → SlAll K B' vs ss → Q0 vs H') → te σ H Q0
def WO (K : KX) (te : TO) (ρ : Rho) (M : MH) (Q : Option Int → MH → Prop) : Prop :=
  ∀ σ B H, Rl K B σ ρ → Sep K B M H → ∀ Q0 : Option Int → Hp → Prop, (∀ b M' B' H', Q b M' → Same B B' → Sep K B' M' H' → Q0 b H') → te σ H Q0
/-- operations on values -/
def W2 (K : PySem.W.Frag) (r : R2) (x y : Sl) (M : MH) (Q : Sl → MH → Prop) : Prop :=
  ∀ B H v w, Sep K B M H → SlOk K B v x → SlOk K B w y → ∀ Q0 : VK, (∀ s z M' B' H', Q s M' → Same B B' → Sep K B' M' H' → SlOk K B' z s → Q0 z H') → r v w H Q0
def W1 (K : PySem.W.Frag) (r : V → Hp → VK → Prop) (x : Sl) (M : MH) (Q : Sl → MH → Prop) : Prop :=
  ∀ B H v, Sep K B M H → SlOk K B v x → ∀ Q0 : VK, (∀ s z M' B' H', Q s M' → Same B B' → Sep K B' M' H' → SlOk K B' z s → Q0 z H') → r v H Q0
def WL (K : PySem.W.Frag) (r : List V → Hp → VK → Prop) (xs : List Sl) (M : MH) (Q : Sl → MH → Prop) : Prop :=
  ∀ B H vs, Sep K B M H → SlAll K B vs xs → ∀ Q0 : VK, (∀ s z M' B' H', Q s M' → Same B B' → Sep K B' M' H' → SlOk K B' z s → Q0 z H') → r vs H Q0
def WM (K : PySem.W.Frag) (r : V → List V → Hp → VK → Prop) (x : Sl) (xs : List Sl) (M : MH) (Q : Sl → MH → Prop) : Prop :=
  ∀ B H v vs, Sep K B M H → SlOk K B v x → SlAll K B vs xs → ∀ Q0 : VK, (∀ s z M' B' H', Q s M' → Same B B' → Sep K B' M' H' → SlOk K B' z s → Q0 z H') → r v vs H Q0
def WSl (K : PySem.W.Frag) (r : V → Option Int → Option Int → Hp → VK → Prop) (x : Sl) (lo hi : Option Int) (M : MH) (Q : Sl → MH → Prop) : Prop :=
  ∀ B H v, Sep K B M H → SlOk K B v x → ∀ Q0 : VK, (∀ s z M' B' H', Q s M' → Same B B' → Sep K B' M' H' → SlOk K B' z s → Q0 z H') → r v lo hi H Q0
/-- targets -/
def WG (K : KX) (g : TG) (x : Sl) (ρ : Rho) (M : MH) (Q : Rho → MH → Prop) : Prop :=
  ∀ σ B H v, Rl K B σ ρ → Sep K B M H → SlOk K B v x → ∀ Q0 : L2.St → Hp → Prop, (∀ ρ' M' σ' B' H', Q ρ' M' → Same B B' → Rl K B' σ' ρ' → Sep K B' M' H' → Q0 σ' H') → g v σ H Q0
/-- statements -/
structure AE where
  nx : Rho → MH → Prop
  rt : Sl → MH → Prop
  bk : Rho → MH → Prop
  ct : Rho → MH → Prop
def NoR : Rho → MH → Prop := fun _ _ => False
def WS (K : KX) (t : TS) (ρ : Rho) (M : MH) (P : AE) : Prop :=
  ∀ σ B H D, Rl K B σ ρ → Sep K B M H →
    (∀ ρ' M' σ' B' H', P.nx ρ' M' → Same B B' → Rl K B' σ' ρ' → Sep K B' M' H' → D.nx σ' H') →
    (∀ s v M' B' H', P.rt s M' → Same B B' → Sep K B' M' H' → SlOk K B' v s → D.rt v H') →
    (∀ ρ' M' σ' B' H', P.bk ρ' M' → Same B B' → Rl K B' σ' ρ' → Sep K B' M' H' → D.bk σ' H') →
    (∀ ρ' M' σ' B' H', P.ct ρ' M' → Same B B' → Rl K B' σ' ρ' → Sep K B' M' H' → D.ct σ' H') → t D σ H
section
variable {K : KX} {ρ : Rho} {M : MH} {Q Q' : Sl → MH → Prop} {ta tb te tc : TE} {r r' : R2} {P : AE}
theorem W.imp (h : W K te ρ M Q) (k : ∀ s M', Q s M' → Q' s M') : W K te ρ M Q' := fun σ B H hR hS Q0 q => h σ B H hR hS Q0 fun s v M' B' H' z => q s v M' B' H' (k _ _ z)
theorem WS.imp {t : TS} {P' : AE} (h : WS K t ρ M P) (h1 : ∀ ρ' M', P.nx ρ' M' → P'.nx ρ' M') (h2 : ∀ s M', P.rt s M' → P'.rt s M') (h3 : ∀ ρ' M', P.bk ρ' M' → P'.bk ρ' M') (h4 : ∀ ρ' M', P.ct ρ' M' → P'.ct ρ' M') : WS K t ρ M P' :=
  fun σ B H D hR hS a b c d => h σ B H D hR hS (fun ρ' M' σ' B' H' z => a ρ' M' σ' B' H' (h1 _ _ z)) (fun s v M' B' H' z => b s v M' B' H' (h2 _ _ z)) (fun ρ' M' σ' B' H' z => c ρ' M' σ' B' H' (h3 _ _ z)) (fun ρ' M' σ' B' H' z => d ρ' M' σ' B' H' (h4 _ _ z))
theorem w_var {i : Nat} {s : Sl} (h : ρ[i]? = some (some s)) (q : Q s M) : W K (tVar i) ρ M Q := fun σ B H hR hS Q0 k => by
  obtain ⟨v, e, o⟩ := hR.get h
  exact ⟨v, e, k s v M B H q (Same.refl B) hS o⟩
theorem w_int {i : Int} (q : Q (.int i) M) : W K (tC (.int i)) ρ M Q := fun σ B H hR hS Q0 k => k _ _ M B H q (Same.refl B) hS slok_int
theorem w_str {x : Str} (q : Q (.str x) M) : W K (tC (.str x)) ρ M Q := fun σ B H hR hS Q0 k => k _ _ M B H q (Same.refl B) hS slok_str
theorem w_bl {b : Bool} (q : Q (.bl b) M) : W K (tC (.bl b)) ρ M Q := fun σ B H hR hS Q0 k => k _ _ M B H q (Same.refl B) hS slok_bl
theorem w_non (q : Q .non M) : W K (tC .non) ρ M Q := fun σ B H hR hS Q0 k => k _ _ M B H q (Same.refl B) hS slok_non
theorem w_raw {v : V} (q : Q (.raw v) M) : W K (tC v) ρ M Q := fun σ B H hR hS Q0 k => k (.raw v) v M B H q (Same.refl B) hS rfl
theorem w_op (h : W K ta ρ M fun x M1 => W K tb ρ M1 fun y M2 => W2 K r x y M2 Q) : W K (tOp r ta tb) ρ M Q := fun σ B H hR hS Q0 k =>
  h σ B H hR hS _ fun x v M1 B1 H1 hb e1 S1 o1 => hb σ B1 H1 (hR.mono e1) S1 _ fun y w M2 B2 H2 hr e2 S2 o2 =>
    hr B2 H2 v w S2 (o1.mono e2) o2 Q0 fun s z M3 B3 H3 q e3 S3 o3 => k s z M3 B3 H3 q ((e1.trans e2).trans e3) S3 o3
theorem w_un {r : V → Hp → VK → Prop} (h : W K ta ρ M fun x M1 => W1 K r x M1 Q) : W K (tUn r ta) ρ M Q := fun σ B H hR hS Q0 k =>
  h σ B H hR hS _ fun x v M1 B1 H1 hr e1 S1 o1 => hr B1 H1 v S1 o1 Q0 fun s z M3 B3 H3 q e3 S3 o3 => k s z M3 B3 H3 q (e1.trans e3) S3 o3
theorem wa_nil {Q : List Sl → MH → Prop} (q : Q [] M) : WA K tNil ρ M Q := fun σ B H hR hS Q0 k => k [] [] M B H q (Same.refl B) hS .nil
theorem wa_cons {tr : TA} {Q : List Sl → MH → Prop} (h : W K ta ρ M fun x M1 => WA K tr ρ M1 fun xs M2 => Q (x :: xs) M2) : WA K (tCons ta tr) ρ M Q := fun σ B H hR hS Q0 k =>
  h σ B H hR hS _ fun x v M1 B1 H1 hb e1 S1 o1 => hb σ B1 H1 (hR.mono e1) S1 _ fun xs vs M2 B2 H2 q e2 S2 o2 =>
    k (x :: xs) (v :: vs) M2 B2 H2 q (e1.trans e2) S2 (.cons (o1.mono e2) o2)
/-- a built-in called -/
theorem w_cb {t : TA} {r : List V → Hp → VK → Prop} (h : WA K t ρ M fun xs M1 => WL K r xs M1 Q) : W K (tCB r t) ρ M Q := fun σ B H hR hS Q0 k =>
  h σ B H hR hS _ fun xs vs M1 B1 H1 hr e1 S1 o1 => hr B1 H1 vs S1 o1 Q0 fun s z M3 B3 H3 q e3 S3 o3 => k s z M3 B3 H3 q (e1.trans e3) S3 o3
/-- a tuple, a list of data -/
theorem w_tup {t : TA} (h : WA K t ρ M fun xs M1 => ∃ ds, xs = ds.map .dat ∧ ds.length ≤ 1000000 ∧ Q (.dat (.tuple ds)) M1) : W K (tTup t) ρ M Q := fun σ B H hR hS Q0 k =>
  h σ B H hR hS _ fun xs vs M1 B1 H1 ⟨ds, e, hl, q⟩ e1 S1 o1 => by
    subst e
    have hd := dpa_of o1
    have hlen := DqAll.length hd
    exact ⟨Nat.le_trans (by omega) (show 1000000 ≤ sizeLine by decide), fun p hp => k _ _ M1 (upd B1 p (.tup vs)) _ q (e1.trans (same_new (S1.freeB hp))) (S1.alloc hp) (Dq.tup (SqT.of upd_same) (dpa_same (same_new (S1.freeB hp)) _ _ hd))⟩
theorem w_lst {t : TA} (h : WA K t ρ M fun xs M1 => ∃ ds, xs = ds.map .dat ∧ ds.length ≤ 1000000 ∧ Q (.dat (.list ds)) M1) : W K (tLst t) ρ M Q := fun σ B H hR hS Q0 k =>
  h σ B H hR hS _ fun xs vs M1 B1 H1 ⟨ds, e, hl, q⟩ e1 S1 o1 => by
    subst e
    have hd := dpa_of o1
    have hlen := DqAll.length hd
    exact ⟨Nat.le_trans (by omega) (show 1000000 ≤ sizeLine by decide), fun p hp => k _ _ M1 (upd B1 p (.lst vs)) _ q (e1.trans (same_new (S1.freeB hp))) (S1.alloc hp) (Dq.lst upd_same (dpa_same (same_new (S1.freeB hp)) _ _ hd))⟩
/-- a list that will be changed -/
theorem w_lstM {t : TA} (h : WA K t ρ M fun xs M1 => xs.length ≤ 1000000 ∧ ∀ p, M1 p = none → Q (.raw (.ref p)) (um M1 p (.lst xs))) : W K (tLst t) ρ M Q := fun σ B H hR hS Q0 k =>
  h σ B H hR hS _ fun xs vs M1 B1 H1 ⟨hl, q⟩ e1 S1 o1 => by
    have hlen := SlAll.len o1
    exact ⟨Nat.le_trans (by omega) (show 1000000 ≤ sizeLine by decide), fun p hp => k _ _ _ B1 _ (q p (S1.freeM hp)) e1 (S1.new hp ⟨vs, rfl, o1⟩) rfl⟩
/-- tests -/
theorem wt_test {Q : Bool → MH → Prop} (h : W K te ρ M fun s M1 => ∃ b, s = .bl b ∧ Q b M1) : WT K (tTest te) ρ M Q := fun σ B H hR hS Q0 k =>
  h σ B H hR hS _ fun s v M1 B1 H1 ⟨b, e, q⟩ e1 S1 o1 => by
    subst e
    exact ⟨b, of_bl o1, k b M1 B1 H1 q e1 S1⟩
theorem wt_B {Q : Bool → MH → Prop} (h : W K te ρ M fun s M1 => ∃ b, s = .bl b ∧ Q b M1) : WT K (tB te) ρ M Q := fun σ B H hR hS Q0 k =>
  h σ B H hR hS _ fun s v M1 B1 H1 ⟨b, e, q⟩ e1 S1 o1 => by
    subst e
    exact ⟨b, of_bl o1, k b M1 B1 H1 q e1 S1⟩
theorem wt_and {t u : TT} {Q : Bool → MH → Prop} (h : WT K t ρ M fun b M1 => if b = true then WT K u ρ M1 Q else Q false M1) : WT K (tAnd t u) ρ M Q := fun σ B H hR hS Q0 k =>
  h σ B H hR hS _ fun b M1 B1 H1 q e1 S1 => by
    cases b with
    | true => exact q σ B1 H1 (hR.mono e1) S1 Q0 fun b2 M2 B2 H2 q2 e2 S2 => k b2 M2 B2 H2 q2 (e1.trans e2) S2
    | false => exact k false M1 B1 H1 q e1 S1
theorem wt_or {t u : TT} {Q : Bool → MH → Prop} (h : WT K t ρ M fun b M1 => if b = true then Q true M1 else WT K u ρ M1 Q) : WT K (tOr t u) ρ M Q := fun σ B H hR hS Q0 k =>
  h σ B H hR hS _ fun b M1 B1 H1 q e1 S1 => by
    cases b with
    | false => exact q σ B1 H1 (hR.mono e1) S1 Q0 fun b2 M2 B2 H2 q2 e2 S2 => k b2 M2 B2 H2 q2 (e1.trans e2) S2
    | true => exact k true M1 B1 H1 q e1 S1
theorem wt_not {t : TT} {Q : Bool → MH → Prop} (h : WT K t ρ M fun b M1 => Q (!b) M1) : WT K (tNot t) ρ M Q := fun σ B H hR hS Q0 k =>
  h σ B H hR hS _ fun b M1 B1 H1 q e1 S1 => k _ M1 B1 H1 q e1 S1
theorem w_andV (h : W K ta ρ M fun s M1 => ∃ b, s = .bl b ∧ if b = true then W K tb ρ M1 Q else Q (.bl false) M1) : W K (tAndV ta tb) ρ M Q := fun σ B H hR hS Q0 k =>
  h σ B H hR hS _ fun s v M1 B1 H1 ⟨b, e, q⟩ e1 S1 o1 => by
    subst e
    refine ⟨b, of_bl o1, ?_⟩
    cases b with
    | true => exact q σ B1 H1 (hR.mono e1) S1 Q0 fun s v M2 B2 H2 q2 e2 S2 o2 => k s v M2 B2 H2 q2 (e1.trans e2) S2 o2
    | false => exact k _ _ M1 B1 H1 q e1 S1 slok_bl
theorem w_orV (h : W K ta ρ M fun s M1 => ∃ b, s = .bl b ∧ if b = true then Q (.bl true) M1 else W K tb ρ M1 Q) : W K (tOrV ta tb) ρ M Q := fun σ B H hR hS Q0 k =>
  h σ B H hR hS _ fun s v M1 B1 H1 ⟨b, e, q⟩ e1 S1 o1 => by
    subst e
    refine ⟨b, of_bl o1, ?_⟩
    cases b with
    | false => exact q σ B1 H1 (hR.mono e1) S1 Q0 fun s v M2 B2 H2 q2 e2 S2 o2 => k s v M2 B2 H2 q2 (e1.trans e2) S2 o2
    | true => exact k _ _ M1 B1 H1 q e1 S1 slok_bl
theorem w_notV (h : W K ta ρ M fun s M1 => ∃ b, s = .bl b ∧ Q (.bl (!b)) M1) : W K (tNotV ta) ρ M Q := fun σ B H hR hS Q0 k =>
  h σ B H hR hS _ fun s v M1 B1 H1 ⟨b, e, q⟩ e1 S1 o1 => by
    subst e
    exact ⟨b, of_bl o1, k _ _ M1 B1 H1 q e1 S1 slok_bl⟩
theorem w_chain (h : W K ta ρ M fun x M1 => W K tb ρ M1 fun y M2 => W2 K r x y M2 fun z M3 => ∃ b, z = .bl b ∧ if b = true then W K tc ρ M3 fun w M4 => W2 K r' y w M4 Q else Q (.bl false) M3) :
    W K (tChain r r' ta tb tc) ρ M Q := fun σ B H hR hS Q0 k =>
  h σ B H hR hS _ fun x v M1 B1 H1 hb e1 S1 o1 => hb σ B1 H1 (hR.mono e1) S1 _ fun y w M2 B2 H2 hr e2 S2 o2 =>
    hr B2 H2 v w S2 (o1.mono e2) o2 _ fun s z M3 B3 H3 ⟨b, eb, q⟩ e3 S3 o3 => by
      subst eb
      refine ⟨b, of_bl o3, ?_⟩
      cases b with
      | true =>
        show tc σ H3 _
        exact q σ B3 H3 (hR.mono ((e1.trans e2).trans e3)) S3 _ fun y' w' M4 B4 H4 q4 e4 S4 o4 => q4 B4 H4 w w' S4 (o2.mono (e3.trans e4)) o4 Q0 fun s5 z5 M5 B5 H5 q5 e5 S5 o5 => k s5 z5 M5 B5 H5 q5 ((((e1.trans e2).trans e3).trans e4).trans e5) S5 o5
      | false =>
        show Q0 (.bl false) H3
        exact k _ _ M3 B3 H3 q ((e1.trans e2).trans e3) S3 slok_bl
/-- slices -/
theorem wo_none {Q : Option Int → MH → Prop} (q : Q none M) : WO K tNoPart ρ M Q := fun σ B H hR hS Q0 k => k none M B H q (Same.refl B) hS
theorem wo_some {Q : Option Int → MH → Prop} (h : W K te ρ M fun s M1 => ∃ i, s = .int i ∧ Q (some i) M1) : WO K (tPart te) ρ M Q := fun σ B H hR hS Q0 k =>
  h σ B H hR hS _ fun s v M1 B1 H1 ⟨i, e, q⟩ e1 S1 o1 => by
    subst e
    exact ⟨i, of_int o1, k _ M1 B1 H1 q e1 S1⟩
theorem w_sl {r : V → Option Int → Option Int → Hp → VK → Prop} {tl th : TO} (h : W K te ρ M fun x M1 => WO K tl ρ M1 fun lo M2 => WO K th ρ M2 fun hi M3 => WSl K r x lo hi M3 Q) : W K (tSl r te tl th) ρ M Q := fun σ B H hR hS Q0 k =>
  h σ B H hR hS _ fun x v M1 B1 H1 h1 e1 S1 o1 => h1 σ B1 H1 (hR.mono e1) S1 _ fun lo M2 B2 H2 h2 e2 S2 => h2 σ B2 H2 (hR.mono (e1.trans e2)) S2 _ fun hi M3 B3 H3 h3 e3 S3 =>
    h3 B3 H3 v S3 (o1.mono (e2.trans e3)) Q0 fun s z M4 B4 H4 q e4 S4 o4 => k s z M4 B4 H4 q (((e1.trans e2).trans e3).trans e4) S4 o4
/-- methods of built-in types -/
theorem w_bm {T : String} {r : V → List V → Hp → VK → Prop} {t : TA} (h : W K ta ρ M fun x M1 => (∀ B H v, Sep K B M1 H → SlOk K B v x → tyV K T v H) ∧ WA K t ρ M1 fun xs M2 => WM K r x xs M2 Q) : W K (tBM K T r ta t) ρ M Q := fun σ B H hR hS Q0 k =>
  h σ B H hR hS _ fun x v M1 B1 H1 ⟨ht, h1⟩ e1 S1 o1 => ⟨ht B1 H1 v S1 o1, h1 σ B1 H1 (hR.mono e1) S1 _ fun xs vs M2 B2 H2 h2 e2 S2 o2 =>
    h2 B2 H2 v vs S2 (o1.mono e2) o2 Q0 fun s z M4 B4 H4 q e4 S4 o4 => k s z M4 B4 H4 q ((e1.trans e2).trans e4) S4 o4⟩
theorem w_bm0 {T : String} {r : V → List V → Hp → VK → Prop} (h : W K ta ρ M fun x M1 => (∀ B H v, Sep K B M1 H → SlOk K B v x → tyV K T v H) ∧ WM K r x [] M1 Q) : W K (tBM0 K T r ta) ρ M Q := fun σ B H hR hS Q0 k =>
  h σ B H hR hS _ fun x v M1 B1 H1 ⟨ht, h1⟩ e1 S1 o1 => ⟨ht B1 H1 v S1 o1, h1 B1 H1 v [] S1 o1 .nil Q0 fun s z M4 B4 H4 q e4 S4 o4 => k s z M4 B4 H4 q (e1.trans e4) S4 o4⟩
theorem ty_lst {K : PySem.W.Frag} {s : Sl} {xs : List Sl} (h : LsV K s M xs) : ∀ B H v, Sep K B M H → SlOk K B v s → tyV K "list" v H := fun B H v S o => by
  obtain ⟨a, vs, e, hq, _⟩ := h.get S o
  subst e
  exact .inl ⟨rfl, _, hq⟩
end
end Ab
set_option Elab.async false
set_option linter.all false
set_option maxRecDepth 1000000
set_option  maxHeartbeats 4000000
namespace Ab
open PySem L2
section
variable {K : KX} {ρ : Rho} {M : MH} {Q Q' : Sl → MH → Prop} {ta tb te tc : TE} {r r' : R2} {nx bk ct : Rho → MH → Prop} {rt : Sl → MH → Prop}
theorem ws_next (q : nx ρ M) : WS K tNext ρ M ⟨nx, rt, bk, ct⟩ := fun σ B H D hR hS a b c d => a ρ M σ B H q (Same.refl B) hR hS
theorem ws_seq {t u : TS} (h : WS K t ρ M ⟨fun ρ' M' => WS K u ρ' M' ⟨nx, rt, bk, ct⟩, rt, bk, ct⟩) : WS K (tSeq t u) ρ M ⟨nx, rt, bk, ct⟩ := fun σ B H D hR hS a b c d =>
  h σ B H { D with nx := u D } hR hS (fun ρ1 M1 σ1 B1 H1 q e1 R1 S1 => q σ1 B1 H1 D R1 S1 (fun ρ2 M2 σ2 B2 H2 q2 e2 => a ρ2 M2 σ2 B2 H2 q2 (e1.trans e2)) (fun s v M2 B2 H2 q2 e2 => b s v M2 B2 H2 q2 (e1.trans e2))
    (fun ρ2 M2 σ2 B2 H2 q2 e2 => c ρ2 M2 σ2 B2 H2 q2 (e1.trans e2)) (fun ρ2 M2 σ2 B2 H2 q2 e2 => d ρ2 M2 σ2 B2 H2 q2 (e1.trans e2))) b c d
theorem ws_drop (h : W K te ρ M fun _ M' => nx ρ M') : WS K (tDrop te) ρ M ⟨nx, rt, bk, ct⟩ := fun σ B H D hR hS a b c d =>
  h σ B H hR hS _ fun s v M' B' H' q e S o => a ρ M' σ B' H' q e (hR.mono e) S
theorem ws_ret (h : W K te ρ M rt) : WS K (tRet te) ρ M ⟨nx, rt, bk, ct⟩ := fun σ B H D hR hS a b c d => h σ B H hR hS _ fun s v M' B' H' q e S o => b s v M' B' H' q e S o
theorem ws_if {t : TT} {tu tw : TS} (h : WT K t ρ M fun b M' => if b = true then WS K tu ρ M' ⟨nx, rt, bk, ct⟩ else WS K tw ρ M' ⟨nx, rt, bk, ct⟩) : WS K (tIfS t tu tw) ρ M ⟨nx, rt, bk, ct⟩ := fun σ B H D hR hS a b c d =>
  h σ B H hR hS _ fun k M1 B1 H1 q e1 S1 => by
    cases k with
    | true =>
      exact q σ B1 H1 D (hR.mono e1) S1 (fun ρ2 M2 σ2 B2 H2 q2 e2 => a ρ2 M2 σ2 B2 H2 q2 (e1.trans e2)) (fun s v M2 B2 H2 q2 e2 => b s v M2 B2 H2 q2 (e1.trans e2)) (fun ρ2 M2 σ2 B2 H2 q2 e2 => c ρ2 M2 σ2 B2 H2 q2 (e1.trans e2)) (fun ρ2 M2 σ2 B2 H2 q2 e2 => d ρ2 M2 σ2 B2 H2 q2 (e1.trans e2))
    | false =>
      exact q σ B1 H1 D (hR.mono e1) S1 (fun ρ2 M2 σ2 B2 H2 q2 e2 => a ρ2 M2 σ2 B2 H2 q2 (e1.trans e2)) (fun s v M2 B2 H2 q2 e2 => b s v M2 B2 H2 q2 (e1.trans e2)) (fun ρ2 M2 σ2 B2 H2 q2 e2 => c ρ2 M2 σ2 B2 H2 q2 (e1.trans e2)) (fun ρ2 M2 σ2 B2 H2 q2 e2 => d ρ2 M2 σ2 B2 H2 q2 (e1.trans e2))
theorem ws_asg {g : TG} (h : W K te ρ M fun s M1 => WG K g s ρ M1 nx) : WS K (tAsg te g) ρ M ⟨nx, rt, bk, ct⟩ := fun σ B H D hR hS a b c d =>
  h σ B H hR hS _ fun s v M1 B1 H1 q e1 S1 o1 => q σ B1 H1 v (hR.mono e1) S1 o1 D.nx fun ρ2 M2 σ2 B2 H2 q2 e2 R2 S2 => a ρ2 M2 σ2 B2 H2 q2 (e1.trans e2) R2 S2
theorem wg_name {i : Nat} {x : Sl} {Q : Rho → MH → Prop} (q : Q (ρ.set i (some x)) M) : WG K (gName i) x ρ M Q := fun σ B H v hR hS o Q0 k => k _ M _ B H q (Same.refl B) (Rl.put o i hR) hS
theorem ws_set {i : Nat} (h : W K te ρ M fun s M1 => nx (ρ.set i (some s)) M1) : WS K (tAsg te (gName i)) ρ M ⟨nx, rt, bk, ct⟩ := ws_asg (h.imp fun s M1 q => wg_name q)
/-- targets a, b -/
def WGs (K : KX) (g : TGs) (xs : List Sl) (ρ : Rho) (M : MH) (Q : Rho → MH → Prop) : Prop :=
  ∀ σ B H vs, Rl K B σ ρ → Sep K B M H → SlAll K B vs xs → ∀ Q0 : L2.St → Hp → Prop, (∀ ρ' M' σ' B' H', Q ρ' M' → Same B B' → Rl K B' σ' ρ' → Sep K B' M' H' → Q0 σ' H') → g vs σ H Q0
theorem wgs_nil {Q : Rho → MH → Prop} (q : Q ρ M) : WGs K gNil [] ρ M Q := fun σ B H vs hR hS o Q0 k => by
  cases o
  exact ⟨rfl, k ρ M σ B H q (Same.refl B) hR hS⟩
theorem wgs_cons {g : TG} {gs : TGs} {x : Sl} {xs : List Sl} {Q : Rho → MH → Prop} (h : WG K g x ρ M fun ρ1 M1 => WGs K gs xs ρ1 M1 Q) : WGs K (gCons g gs) (x :: xs) ρ M Q := fun σ B H vs hR hS o Q0 k => by
  cases o with
  | cons o1 o2 =>
    exact ⟨_, _, rfl, h σ B H _ hR hS o1 _ fun ρ1 M1 σ1 B1 H1 q e1 R1 S1 => q σ1 B1 H1 _ R1 S1 (SlAll.mono e1 o2) Q0 fun ρ2 M2 σ2 B2 H2 q2 e2 R2 S2 => k ρ2 M2 σ2 B2 H2 q2 (e1.trans e2) R2 S2⟩
theorem wg_tup {n : Nat} {g : TGs} {x : Sl} {ds : List PyData} {Q : Rho → MH → Prop} (hx : x = .dat (.tuple ds)) (hn : ds.length = n) (h : WGs K g (ds.map .dat) ρ M Q) : WG K (gTup K n g) x ρ M Q := fun σ B H v hR hS o Q0 k => by
  subst hx
  obtain ⟨a, vs, e, hq, ha⟩ := (tpv_dat (ds := ds)).get hS o
  exact ⟨a, vs, e, hq, by rw [SlAll.len ha, List.length_map, hn], h σ B H vs hR hS ha Q0 k⟩
/-- o[i] = e, a list that may change -/
theorem ws_setL {to ti : TE} (h : W K te ρ M fun s M1 => W K to ρ M1 fun o M2 => W K ti ρ M2 fun ix M3 => ∃ a xs k j, o = .raw (.ref a) ∧ ix = .int k ∧ M3 a = some (.lst xs) ∧ ixN xs.length k = some j ∧ nx ρ (um M3 a (.lst (xs.set j s)))) : WS K (tAsg te (gSub to ti rSetL)) ρ M ⟨nx, rt, bk, ct⟩ := fun σ B H D hR hS p1 p2 p3 p4 =>
  h σ B H hR hS _ fun s v M1 B1 H1 h1 e1 S1 o1 => h1 σ B1 H1 (hR.mono e1) S1 _ fun o w M2 B2 H2 h2 e2 S2 o2 => h2 σ B2 H2 (hR.mono (e1.trans e2)) S2 _ fun ix u M3 B3 H3 ⟨a, xs, k, j, eo, ei, hM, hj, q⟩ e3 S3 o3 => by
    subst eo ei
    obtain ⟨_, u1, hu, vs, rfl, ha⟩ := S3.has a _ hM
    have hl := SlAll.len ha
    refine ⟨a, vs, k, j, o2, of_int o3, hu, by rw [hl]; exact hj, ?_⟩
    exact p1 ρ _ σ B3 _ q ((e1.trans e2).trans e3) (hR.mono ((e1.trans e2).trans e3)) (S3.put hM ⟨_, rfl, SlAll.setI (o1.mono (e2.trans e3)) j ha⟩)
/-- o[i] += e, a list of ints -/
def rGetL (K : PySem.W.Frag) : V → V → Hp → VK → Prop := fun o i H Q => ∃ p xs k j v, o = .ref p ∧ i = .int k ∧ SqL K H p xs ∧ 0 ≤ k ∧ k.toNat = j ∧ xs[j]? = some v ∧ Q v H
theorem pget_list {X : Cx} : PGet X (rGetL X.K) := by
  intro pins s σ H o i ov iv Q I ro ri h
  obtain ⟨p, xs, k, j, v, rfl, rfl, hq, h0, hj, hv, q⟩ := h
  cases ro
  obtain ⟨t, rfl⟩ := ri
  obtain ⟨its, r, pl, fits⟩ := I.list hq
  obtain ⟨w, ew, rw'⟩ := r.get hv
  have hl := r.length
  have hn := line63
  have hjl := (List.getElem?_eq_some_iff.mp ew).1
  subst hj
  exact wpAny_getItem_list pl.isList h0 (by omega) (by simpa using ew) ⟨v, H, I, rw', q⟩
theorem ws_augL {to ti : TE} {f : Int → Int → Int} (h : W K to ρ M fun o M1 => W K ti ρ M1 fun ix M2 => ∃ a xs k x, o = .raw (.ref a) ∧ ix = .int (k : Nat) ∧ M2 a = some (.lst xs) ∧ xs[k]? = some (.int x) ∧ W K te ρ M2 fun s M3 => ∃ b, s = .int b ∧ M3 a = some (.lst xs) ∧ nx ρ (um M3 a (.lst (xs.set k (.int (f x b)))))) :
    WS K (tAugS to ti te (rGetL K) (ipI f) rSetL) ρ M ⟨nx, rt, bk, ct⟩ := fun σ B H D hR hS p1 p2 p3 p4 =>
  h σ B H hR hS _ fun o v M1 B1 H1 h1 e1 S1 o1 => h1 σ B1 H1 (hR.mono e1) S1 _ fun ix w M2 B2 H2 ⟨a, xs, k, x, eo, ei, hM, hx, h2⟩ e2 S2 o2 => by
    subst eo ei
    obtain ⟨_, u1, hu, vs, rfl, ha⟩ := S2.has a _ hM
    obtain ⟨y, hy, oy⟩ := SlAll.get ha hx
    refine ⟨a, vs, k, k, y, o1, of_int o2, SqL.of hu, by omega, by omega, hy, ?_⟩
    refine h2 σ B2 H2 (hR.mono (e1.trans e2)) S2 _ fun s z M3 B3 H3 ⟨b, es, hM3, q⟩ e3 S3 o3 => ?_
    subst es
    obtain ⟨_, u3, hu3, vs3, rfl, ha3⟩ := S3.has a _ hM3
    have hk : k < xs.length := (List.getElem?_eq_some_iff.mp hx).1
    have hl := SlAll.len ha3
    refine ⟨x, b, of_int oy, of_int o3, a, vs3, k, k, o1, of_int o2, hu3, ?_, ?_⟩
    · unfold ixN
      iterate 2 rw [if_pos (by omega)]
      simp
    · exact p1 ρ _ σ B3 _ q ((e1.trans e2).trans e3) (hR.mono ((e1.trans e2).trans e3)) (S3.put hM3 ⟨_, rfl, SlAll.setI slok_int k ha3⟩)
theorem w2_i0 {K : PySem.W.Frag} {f : Int → Int → Int} {i j : Int} (q : Q (.int (f i j)) M) : W2 K (rI0 fun i j => .int (f i j)) (.int i) (.int j) M Q := fun B H v w hS h1 h2 Q0 k => ⟨i, j, of_int h1, of_int h2, k _ _ M B H q (Same.refl B) hS slok_int⟩
theorem w2_b0 {K : PySem.W.Frag} {f : Int → Int → Bool} {i j : Int} (q : Q (.bl (f i j)) M) : W2 K (rI0 fun i j => .bl (f i j)) (.int i) (.int j) M Q := fun B H v w hS h1 h2 Q0 k => ⟨i, j, of_int h1, of_int h2, k _ _ M B H q (Same.refl B) hS slok_bl⟩
theorem w2_i {K : PySem.W.Frag} {C : Int → Int → Prop} {f : Int → Int → Int} {i j : Int} (hc : C i j) (q : Q (.int (f i j)) M) : W2 K (rI C fun i j => .int (f i j)) (.int i) (.int j) M Q := fun B H v w hS h1 h2 Q0 k => ⟨i, j, of_int h1, of_int h2, hc, k _ _ M B H q (Same.refl B) hS slok_int⟩
theorem w1_neg {K : PySem.W.Frag} {i : Int} (q : Q (.int (-i)) M) : W1 K (rU fun i => .int (-i)) (.int i) M Q := fun B H v hS h1 Q0 k => ⟨i, of_int h1, k _ _ M B H q (Same.refl B) hS slok_int⟩
theorem w2_eq {K : PySem.W.Frag} {d e : PyData} (h1 : SeqAt.shaped d = true) (h2 : SeqAt.shaped e = true) (q : Q (.bl (PyData.eqv d e)) M) : W2 K (rEqD K) (.dat d) (.dat e) M Q := fun B H v w hS o1 o2 Q0 k =>
  ⟨d, e, dq_dpS h1 (dp_same hS.sub _ _ o1), dq_dpS h2 (dp_same hS.sub _ _ o2), h1, h2, k _ _ M B H q (Same.refl B) hS slok_bl⟩
theorem w2_ne {K : PySem.W.Frag} {d e : PyData} (h1 : SeqAt.shaped d = true) (h2 : SeqAt.shaped e = true) (q : Q (.bl (!PyData.eqv d e)) M) : W2 K (rNeD K) (.dat d) (.dat e) M Q := fun B H v w hS o1 o2 Q0 k =>
  ⟨d, e, dq_dpS h1 (dp_same hS.sub _ _ o1), dq_dpS h2 (dp_same hS.sub _ _ o2), h1, h2, k _ _ M B H q (Same.refl B) hS slok_bl⟩
/-- is None, is not None -/
def rIsN : R2 := fun u z H Q => z = .non ∧ Q (.bl (decide (u = .non))) H
def rNotN : R2 := fun u z H Q => z = .non ∧ Q (.bl (!decide (u = .non))) H
def isNon : PyData → Bool
  | .none => true
  | _ => false
theorem dp_non {K : PySem.W.Frag} {B : Hp} {v : V} {d : PyData} (h : Dq K B v d) : decide (v = .non) = isNon d := by
  cases h <;> first | rfl | exact decide_eq_false (fun e => nomatch e)
theorem w2_isN {K : PySem.W.Frag} {d : PyData} (q : Q (.bl (isNon d)) M) : W2 K rIsN (.dat d) .non M Q := fun B H v w hS o1 o2 Q0 k => ⟨of_non o2, by
  rw [dp_non o1]
  exact k _ _ M B H q (Same.refl B) hS slok_bl⟩
theorem w2_notN {K : PySem.W.Frag} {d : PyData} (q : Q (.bl (!isNon d)) M) : W2 K rNotN (.dat d) .non M Q := fun B H v w hS o1 o2 Q0 k => ⟨of_non o2, by
  rw [dp_non o1]
  exact k _ _ M B H q (Same.refl B) hS slok_bl⟩
/-- xs[i], t[i], s[i] -/
theorem atI_map {α β : Type} (f : α → β) (xs : List α) (i : Int) : atI (xs.map f) i = (atI xs i).map f := by
  unfold atI
  rw [List.length_map]
  cases ixN xs.length i with
  | none => rfl
  | some j => simp
theorem slall_atI {K : PySem.W.Frag} {B : Hp} {vs : List V} {ss : List Sl} {s : Sl} {i : Int} (h : SlAll K B vs ss) (e : atI ss i = some s) : ∃ v, atI vs i = some v ∧ SlOk K B v s := by
  unfold atI at e ⊢
  rw [SlAll.len h]
  cases hj : ixN ss.length i with
  | none => rw [hj] at e; cases e
  | some j =>
    rw [hj] at e
    exact SlAll.get h e
theorem w2_ixL {K : PySem.W.Frag} {s x : Sl} {xs : List Sl} {i : Int} (hs : LsV K s M xs) (hx : atI xs i = some x) (q : Q x M) : W2 K (rIxL K) s (.int i) M Q := fun B H v w hS o1 o2 Q0 k => by
  obtain ⟨a, vs, rfl, hq, ha⟩ := hs.get hS o1
  obtain ⟨z, hz, oz⟩ := slall_atI ha hx
  exact ⟨a, vs, i, z, rfl, of_int o2, hq, hz, k x z M B H q (Same.refl B) hS oz⟩
theorem w2_ixT {K : PySem.W.Frag} {d : PyData} {ds : List PyData} {i : Int} (hx : atI ds i = some d) (q : Q (.dat d) M) : W2 K (rIxT K) (.dat (.tuple ds)) (.int i) M Q := fun B H v w hS o1 o2 Q0 k => by
  obtain ⟨a, vs, rfl, hq, ha⟩ := (tpv_dat (ds := ds)).get hS o1
  obtain ⟨z, hz, oz⟩ := slall_atI (s := .dat d) ha (by rw [atI_map, hx]; rfl)
  exact ⟨a, vs, i, z, rfl, of_int o2, hq, hz, k _ z M B H q (Same.refl B) hS oz⟩
/-- xs + ys, lists that are read -/
def rCatL (K : PySem.W.Frag) : R2 := fun x y H Q => ∃ l b xs zs, x = .ref l ∧ y = .ref b ∧ SqL K H l xs ∧ SqL K H b zs ∧ xs.length + zs.length ≤ sizeLine ∧ ∀ p, H p = none → Q (.ref p) (upd H p (.lst (xs ++ zs)))
theorem op_catL {X : Cx} : OpR X (binaryOp .Add) (rCatL X.K) := fun pins s σ H x y v u Q I rx ry ⟨l, m, us, ws, e1, e2, hU, hW, hz, q⟩ => by
  subst e1 e2
  cases rx
  cases ry
  have sizes : us.length + ws.length ≤ sizeLine := hz
  obtain ⟨is, r, ⟨⟨_, _, _, sl⟩, n, ho, hc, hdn, hd⟩, _⟩ := I.list hU
  obtain ⟨js, r2, ⟨⟨_, _, _, sl2⟩, n2, ho2, hc2, hdn2, hd2⟩, _⟩ := I.list hW
  simp only at hc hd hdn hc2 hd2 hdn2
  subst hc hd hdn hc2 hd2 hdn2
  have k1 := r.length
  have k2 := r2.length
  refine concat_meets ⟨_, ho, rfl⟩ ⟨_, ho2, rfl⟩ PySem.noFill_list_add PySem.seq_list_add PySem.F.slot_list_add PySem.F.entry_list_add (PySem.F.args_list_add_2 _ _) (PyProof.Rows.list_addW l m is.toArray js.toArray n n2 none none sl sl2 (by simp; omega)) ⟨ho, ho2, ?_⟩
  rw [show is.toArray ++ js.toArray = (is ++ js).toArray by simp]
  exact ⟨.ref _, _, I.lnew (t' := s.toks) (r.append r2) (by simp; omega), rfl, q _ I.fresh⟩
theorem lst_ok {K : PySem.W.Frag} {B : Hp} {p : Addr} {vs : List V} {ds : List PyData} (h : DqAll K B vs ds) (hp : B p = none) : SlOk K (upd B p (.lst vs)) (.ref p) (.dat (.list ds)) := Dq.lst upd_same (dpa_same (same_new hp) _ _ h)
theorem tup_ok {K : PySem.W.Frag} {B : Hp} {p : Addr} {vs : List V} {ds : List PyData} (h : DqAll K B vs ds) (hp : B p = none) : SlOk K (upd B p (.tup vs)) (.ref p) (.dat (.tuple ds)) := Dq.tup (SqT.of upd_same) (dpa_same (same_new hp) _ _ h)
theorem w2_cat {K : PySem.W.Frag} {s t : Sl} {ds es : List PyData} (h1 : LsV K s M (ds.map .dat)) (h2 : LsV K t M (es.map .dat)) (hl : ds.length + es.length ≤ 1000000) (q : Q (.dat (.list (ds ++ es))) M) : W2 K (rCatL K) s t M Q := fun B H v w hS o1 o2 Q0 k => by
  obtain ⟨a, vs, rfl, hq, ha⟩ := h1.get hS o1
  obtain ⟨b, ws, rfl, hq2, ha2⟩ := h2.get hS o2
  have l1 := SlAll.len ha
  have l2 := SlAll.len ha2
  rw [List.length_map] at l1 l2
  refine ⟨a, b, vs, ws, rfl, rfl, hq, hq2, Nat.le_trans (by omega) (show 1000000 ≤ sizeLine by decide), fun p hp => ?_⟩
  exact k _ _ M (upd B p (.lst (vs ++ ws))) _ q (same_new (hS.freeB hp)) (hS.alloc hp) (lst_ok (DqAll.app (dpa_of ha) (dpa_of ha2)) (hS.freeB hp))
/-- [x] * n -/
def repD (ds : List PyData) (n : Nat) : List PyData := (List.replicate n ds).flatten
theorem dpa_rep {K : PySem.W.Frag} {B : Hp} {vs : List V} {ds : List PyData} (h : DqAll K B vs ds) : ∀ n : Nat, DqAll K B (List.replicate n vs).flatten (repD ds n)
  | 0 => .nil
  | n + 1 => by
    unfold repD
    simp only [List.replicate_succ, List.flatten_cons]
    exact DqAll.app h (dpa_rep h n)
/-- a list that is read, times an int -/
def rRepL : R2 := fun x y H Q => ∃ l k xs, x = .ref l ∧ y = .int k ∧ Rd H l (.lst xs) ∧ -(2 ^ 63) ≤ k ∧ k < 2 ^ 63 ∧ xs.length * k.toNat ≤ sizeLine ∧ ∀ p, H p = none → Q (.ref p) (upd H p (.lst (List.replicate k.toNat xs).flatten))
theorem rep_arr (r : List Value) (m : Nat) : (List.replicate (if r.toArray.isEmpty = true then 0 else m) r.toArray).foldl (· ++ ·) #[] = (List.replicate m r).flatten.toArray := by
  have all : (List.replicate m r.toArray).foldl (· ++ ·) #[] = (List.replicate m r).flatten.toArray := by simpa using foldl_rep r m []
  match r, all with
  | [], _ => simp
  | _ :: _, e => rw [if_neg (by simp)]; exact e
theorem op_repL {X : Cx} : OpR X (binaryOp .Mult) rRepL := fun pins s σ H x y v u Q I rx ry ⟨l, n, vs, e1, e2, hR, n1, n2, hn, q⟩ => by
  subst e1 e2
  cases rx
  obtain ⟨t, rfl⟩ := ry
  obtain ⟨_, rs, m, r, o⟩ := hR.ok I.hok
  have sz : rs.toArray.size * n.toNat ≤ sizeLine := by simpa [← r.length] using hn
  have big : (sizeLine : Nat) ≤ (2 ^ 63 - 1) / 8 := by decide
  have call := AutoListH.list___mul___list_int_3 l rs.toArray m n t (by rw [fitsIndex_both n1 n2]; simp) (by omega) (by rw [notLongL sz]; simp)
  refine wpAny_binaryOp_repeat_ref (T := "list") (U := "int") (by decide) ⟨_, o, rfl⟩ (fun z => typeIs_int z n t) PySem.noFill_list_mul F.fills_int_mul F.slot_int_rmul PySem.repeat_list F.slot_int_index.lookup ?_
  refine call_meets F.slot_int_rmul (typeIs_int s n t) F.entry_int_rmul (F.args_int_rmul_2 _ _) (int___rmul___int_list n t l rs.toArray m) ⟨o, rfl, ⟨_, o, rfl⟩, ?_⟩
  refine call_meets F.slot_list_mul ⟨_, o, rfl⟩ F.entry_list_mul (F.args_list_mul_2 _ _) call ⟨o, ?_⟩
  rw [show List.foldl (fun x1 x2 => x1 ++ x2) #[] (List.replicate (if rs.toArray.isEmpty = true then 0 else n.toNat) rs.toArray) = _ from rep_arr rs n.toNat]
  have fit : (List.replicate n.toNat vs).flatten.length ≤ sizeLine := by simpa [Nat.mul_comm] using hn
  exact ⟨.ref _, _, I.lnew (t' := s.toks) (r.rep n.toNat) fit, rfl, q _ I.fresh⟩
theorem w2_rep {K : PySem.W.Frag} {s : Sl} {ds : List PyData} {i : Int} (h : LsR s M (ds.map .dat)) (i1 : -(2 ^ 63) ≤ i) (i2 : i < 2 ^ 63) (hl : ds.length * i.toNat ≤ 1000000) (q : Q (.dat (.list (repD ds i.toNat))) M) : W2 K rRepL s (.int i) M Q := fun B H v w hS o1 o2 Q0 k => by
  obtain ⟨a, vs, rfl, hq, ha⟩ := h.get hS o1
  have l1 := SlAll.len ha
  rw [List.length_map] at l1
  refine ⟨a, i, vs, rfl, of_int o2, hq, i1, i2, Nat.le_trans (by rw [l1]; exact hl) (show 1000000 ≤ sizeLine by decide), fun p hp => ?_⟩
  exact k _ _ _ (upd B p (.lst (List.replicate i.toNat vs).flatten)) _ q (same_new (hS.freeB hp)) (hS.alloc hp) (lst_ok (dpa_rep (dpa_of ha) _) (hS.freeB hp))
/-- xs[lo:hi] -/
def cutG {α : Type} (xs : List α) (lo hi : Option Int) : List α := (xs.drop (HT.sIx xs.length 0 lo)).take (HT.sIx xs.length xs.length hi - HT.sIx xs.length 0 lo)
theorem cutG_map {α β : Type} (f : α → β) (xs : List α) (lo hi : Option Int) : cutG (xs.map f) lo hi = (cutG xs lo hi).map f := by
  unfold cutG
  rw [List.length_map, List.map_take, List.map_drop]
theorem dpa_cut {K : PySem.W.Frag} {B : Hp} {vs : List V} {ds : List PyData} (h : DqAll K B vs ds) (lo hi : Option Int) : DqAll K B (cutV vs lo hi) (cutG ds lo hi) := by
  unfold cutV cutG
  rw [DqAll.length h]
  exact DqAll.take _ (DqAll.drop _ h)
theorem wsl_lst {K : PySem.W.Frag} {s : Sl} {ds : List PyData} {lo hi : Option Int} (h : LsV K s M (ds.map .dat)) (q : Q (.dat (.list (cutG ds lo hi))) M) : WSl K (rSlL K) s lo hi M Q := fun B H v hS o Q0 k => by
  obtain ⟨a, vs, rfl, hq, ha⟩ := h.get hS o
  exact ⟨a, vs, rfl, hq, fun p hp => k _ _ M (upd B p (.lst (cutV vs lo hi))) _ q (same_new (hS.freeB hp)) (hS.alloc hp) (lst_ok (dpa_cut (dpa_of ha) lo hi) (hS.freeB hp))⟩
/-- built-ins -/
def rLenS (K : PySem.W.Frag) : List V → Hp → VK → Prop := fun us H Q => ∃ p zs, us = [.ref p] ∧ (SqL K H p zs ∨ SqT K H p zs) ∧ Q (.int zs.length) H
def rListS (K : PySem.W.Frag) : List V → Hp → VK → Prop := fun us H Q => ∃ p zs, us = [.ref p] ∧ (SqL K H p zs ∨ SqT K H p zs) ∧ ∀ l, H l = none → Q (.ref l) (upd H l (.lst zs))
def rTupS (K : PySem.W.Frag) : List V → Hp → VK → Prop := fun xs H Q => ∃ p ys, xs = [.ref p] ∧ ((SqL K H p ys ∧ ∀ l, H l = none → Q (.ref l) (upd H l (.tup ys))) ∨ (SqT K H p ys ∧ Q (.ref p) H))
def rInt1 : List V → Hp → VK → Prop := fun xs H Q => (∃ i, xs = [.int i] ∧ Q (.int i) H) ∨ ∃ k, xs = [.bl k] ∧ Q (.int (if k then 1 else 0)) H
theorem wl_len {K : PySem.W.Frag} {s : Sl} {xs : List Sl} (h : LsV K s M xs) (q : Q (.int (xs.length : Int)) M) : WL K (rLenS K) [s] M Q := fun B H vs hS o Q0 k => by
  cases o with
  | cons o1 o2 =>
    cases o2
    obtain ⟨a, ws, rfl, hq, ha⟩ := h.get hS o1
    refine ⟨a, ws, rfl, .inl hq, ?_⟩
    rw [SlAll.len ha]
    exact k _ _ M B H q (Same.refl B) hS slok_int
theorem wl_lenT {K : PySem.W.Frag} {s : Sl} {xs : List Sl} (h : TpV s xs) (q : Q (.int (xs.length : Int)) M) : WL K (rLenS K) [s] M Q := fun B H vs hS o Q0 k => by
  cases o with
  | cons o1 o2 =>
    cases o2
    obtain ⟨a, ws, rfl, hq, ha⟩ := h.get hS o1
    refine ⟨a, ws, rfl, .inr hq, ?_⟩
    rw [SlAll.len ha]
    exact k _ _ M B H q (Same.refl B) hS slok_int
theorem wl_list {K : PySem.W.Frag} {s : Sl} {ds : List PyData} (h : LsV K s M (ds.map .dat) ∨ TpV s (ds.map .dat)) (q : Q (.dat (.list ds)) M) : WL K (rListS K) [s] M Q := fun B H vs hS o Q0 k => by
  cases o with
  | cons o1 o2 =>
    cases o2
    rcases h with h | h
    · obtain ⟨a, ws, rfl, hq, ha⟩ := h.get hS o1
      exact ⟨a, ws, rfl, .inl hq, fun p hp => k _ _ M (upd B p (.lst ws)) _ q (same_new (hS.freeB hp)) (hS.alloc hp) (lst_ok (dpa_of ha) (hS.freeB hp))⟩
    · obtain ⟨a, ws, rfl, hq, ha⟩ := h.get hS o1
      exact ⟨a, ws, rfl, .inr hq, fun p hp => k _ _ M (upd B p (.lst ws)) _ q (same_new (hS.freeB hp)) (hS.alloc hp) (lst_ok (dpa_of ha) (hS.freeB hp))⟩
theorem wl_tuple {K : PySem.W.Frag} {s : Sl} {ds : List PyData} (h : LsV K s M (ds.map .dat)) (q : Q (.dat (.tuple ds)) M) : WL K (rTupS K) [s] M Q := fun B H vs hS o Q0 k => by
  cases o with
  | cons o1 o2 =>
    cases o2
    obtain ⟨a, ws, rfl, hq, ha⟩ := h.get hS o1
    exact ⟨a, ws, rfl, .inl ⟨hq, fun p hp => k _ _ M (upd B p (.tup ws)) _ q (same_new (hS.freeB hp)) (hS.alloc hp) (tup_ok (dpa_of ha) (hS.freeB hp))⟩⟩
theorem wl_int {K : PySem.W.Frag} {i : Int} (q : Q (.int i) M) : WL K rInt1 [.int i] M Q := fun B H vs hS o Q0 k => by
  cases o with
  | cons o1 o2 =>
    cases o2
    exact .inl ⟨i, by rw [of_int o1], k _ _ M B H q (Same.refl B) hS slok_int⟩
theorem wl_intb {K : PySem.W.Frag} {b : Bool} (q : Q (.int (if b then 1 else 0)) M) : WL K rInt1 [.bl b] M Q := fun B H vs hS o Q0 k => by
  cases o with
  | cons o1 o2 =>
    cases o2
    exact .inr ⟨b, by rw [of_bl o1], k _ _ M B H q (Same.refl B) hS slok_int⟩
/-- isinstance of data, a built-in class -/
def tyD : PyData → String
  | .none => "NoneType"
  | .bool _ => "bool"
  | .int _ => "int"
  | .str _ => "str"
  | .list _ => "list"
  | .tuple _ => "tuple"
  | .dict _ => "dict"
theorem dp_ty {K : PySem.W.Frag} {B H : Hp} (S : Same B H) {v : V} {d : PyData} (h : Dq K B v d) : TyX K H v (.type (tyD d)) := by
  cases h with
  | non => exact .base .non
  | bl b => exact .base (.bl b)
  | int i => exact .base (.int i)
  | str x => exact .base (.str x)
  | lst hs _ => exact .base (.lst (S _ _ hs))
  | tup hs _ =>
    rcases hs with (h | ⟨o, h⟩) | ⟨o, _, _, hk, hc, _⟩
    · exact .base (.tup (S _ _ h))
    · exact .fTuple (S _ _ h)
    · exact .kTuple hk hc
  | dct hs _ =>
    rcases hs with h | ⟨o, h⟩
    · exact .base (.dK (S _ _ h))
    · exact .fDict (S _ _ h)
theorem wl_isi {K : PySem.W.Frag} {d : PyData} {n : String} {b : Bool} (hb : kitB (tyD d) n = some b) (q : Q (.bl b) M) : WL K (rIsi K) [.dat d, .raw (.ty n)] M Q := fun B H vs hS o Q0 k => by
  cases o with
  | cons o1 o2 =>
    cases o2 with
    | cons o2 o3 =>
      cases o3
      obtain rfl : _ = V.ty n := o2
      exact ⟨_, .ty n, _, _, b, rfl, .ty n, dp_ty hS.sub o1, kit_ty hb, k _ _ M B H q (Same.refl B) hS slok_bl⟩
/-- xs.append(e) -/
theorem wm_append {K : PySem.W.Frag} {a : Addr} {xs : List Sl} {s : Sl} (h : M a = some (.lst xs)) (hl : xs.length < 1000000) (q : Q .non (um M a (.lst (xs ++ [s])))) : WM K rAppend (.raw (.ref a)) [s] M Q := fun B H v vs hS o1 o2 Q0 k => by
  cases o2 with
  | cons o2 o3 =>
    cases o3
    obtain ⟨_, u, hu, ws, rfl, ha⟩ := hS.has a _ h
    have hlen := SlAll.len ha
    obtain rfl : v = .ref a := o1
    exact ⟨a, ws, _, rfl, rfl, hu, Nat.lt_of_lt_of_le (by omega) (show 1000000 ≤ sizeLine by decide), k _ _ _ B _ q (Same.refl B) (hS.put h ⟨_, rfl, SlAll.app ha (.cons o2 .nil)⟩) slok_non⟩
end
end Ab
set_option Elab.async false
set_option linter.all false
set_option maxRecDepth 1000000
set_option  maxHeartbeats 4000000
namespace Ab
open PySem L2
section
variable {K : KX} {ρ : Rho} {M : MH} {Q Q' : Sl → MH → Prop} {ta tb te tc : TE} {r r' : R2} {nx bk ct : Rho → MH → Prop} {rt : Sl → MH → Prop}
structure ItOk (K : PySem.W.Frag) (B : Hp) (J : It) (n : Nat) (item : Nat → Sl) (stay : MH → Prop) : Prop where
  go : ∀ i B2 M2 H2, i < n → Same B B2 → Sep K B2 M2 H2 → stay M2 → J.go i H2
  yld : ∀ i B2 M2 H2 x H3, i < n → Same B B2 → Sep K B2 M2 H2 → stay M2 → J.yld i H2 x H3 → ∃ B3, Same B2 B3 ∧ Sep K B3 M2 H3 ∧ SlOk K B3 x (item i)
  stop : ∀ i B2 M2 H2, n ≤ i → Same B B2 → Sep K B2 M2 H2 → stay M2 → J.stop i H2
def WI (K : KX) (wi : TI) (ρ : Rho) (M : MH) (R : Nat → (Nat → Sl) → (MH → Prop) → MH → Prop) : Prop :=
  ∀ σ B H, Rl K B σ ρ → Sep K B M H → ∀ R0 : It → Hp → Prop, (∀ n item stay M' B' H' J, R n item stay M' → Same B B' → Sep K B' M' H' → ItOk K B' J n item stay → R0 J H') → wi σ H R0
theorem ws_for {wi : TI} {g : TG} {tb : TS} (h : WI K wi ρ M fun n item stay M1 => ∃ J : Nat → Rho → MH → Prop, J 0 ρ M1 ∧ (∀ i ρ' M', i ≤ n → J i ρ' M' → stay M') ∧
    (∀ i ρ' M', i < n → J i ρ' M' → WG K g (item i) ρ' M' fun ρ2 M2 => WS K tb ρ2 M2 ⟨J (i + 1), rt, nx, J (i + 1)⟩) ∧ ∀ ρ' M', J n ρ' M' → nx ρ' M') : WS K (tFor wi g tb) ρ M ⟨nx, rt, bk, ct⟩ := fun σ B H D hR hS a b c d =>
  h σ B H hR hS _ fun n item stay M1 B1 H1 It ⟨J, j0, js, jt, je⟩ e1 S1 ok => by
    refine ⟨fun i m σ' H' => m = n - i ∧ i ≤ n ∧ ∃ ρ' M' B', J i ρ' M' ∧ Same B1 B' ∧ Rl K B' σ' ρ' ∧ Sep K B' M' H', ⟨n, by simp, Nat.zero_le _, ρ, M1, B1, j0, Same.refl _, hR.mono e1, S1⟩, ?_⟩
    rintro i m σ' H' ⟨rfl, hi, ρ', M', B', hj, e2, R2, S2⟩
    by_cases hlt : i < n
    · refine .inr ⟨ok.go i B' M' H' hlt e2 S2 (js i ρ' M' hi hj), fun σ2 H2 => ∃ ρ2 M2 B2, J (i + 1) ρ2 M2 ∧ Same B1 B2 ∧ Rl K B2 σ2 ρ2 ∧ Sep K B2 M2 H2, fun σ2 H2 ⟨ρ2, M2, B2, q⟩ => ⟨n - (i + 1), by omega, rfl, hlt, ρ2, M2, B2, q⟩, fun x H3 y => ?_⟩
      obtain ⟨B3, e3, S3, o3⟩ := ok.yld i B' M' H' x H3 hlt e2 S2 (js i ρ' M' hi hj) y
      refine jt i ρ' M' hlt hj σ' B3 H3 x (R2.mono e3) S3 o3 _ fun ρ4 M4 σ4 B4 H4 q4 e4 R4 S4 => ?_
      have e14 : Same B1 B4 := (e2.trans e3).trans e4
      exact q4 σ4 B4 H4 _ R4 S4 (fun ρ5 M5 σ5 B5 H5 q5 e5 R5 S5 => ⟨ρ5, M5, B5, q5, e14.trans e5, R5, S5⟩) (fun s v M5 B5 H5 q5 e5 => b s v M5 B5 H5 q5 ((e1.trans e14).trans e5))
        (fun ρ5 M5 σ5 B5 H5 q5 e5 R5 S5 => a ρ5 M5 σ5 B5 H5 q5 ((e1.trans e14).trans e5) R5 S5) (fun ρ5 M5 σ5 B5 H5 q5 e5 R5 S5 => ⟨ρ5, M5, B5, q5, e14.trans e5, R5, S5⟩)
    · have ei : i = n := by omega
      subst ei
      exact .inl ⟨ok.stop i B' M' H' (Nat.le_refl _) e2 S2 (js i ρ' M' hi hj), a ρ' M' σ' B' H' (je ρ' M' hj) (e1.trans e2) R2 S2⟩
/-- a list -/
theorem wi_list {tl : TE} {R : Nat → (Nat → Sl) → (MH → Prop) → MH → Prop} (h : W K tl ρ M fun s M1 => ∃ xs, LsV K s M1 xs ∧ R xs.length (fun i => xs.getD i .non) (fun M2 => LsV K s M2 xs) M1) : WI K (iList K tl) ρ M R := fun σ B H hR hS R0 k =>
  h σ B H hR hS _ fun s v M1 B1 H1 ⟨xs, hl, q⟩ e1 S1 o1 => by
    obtain ⟨a, vs, rfl, hq, ha⟩ := hl.get S1 o1
    refine ⟨a, rfl, ⟨vs, hq⟩, k xs.length _ _ M1 B1 H1 _ q e1 S1 ⟨fun i B2 M2 H2 hi e2 S2 st => ?_, fun i B2 M2 H2 x H3 hi e2 S2 st y => ?_, fun i B2 M2 H2 hi e2 S2 st => ?_⟩⟩
    · obtain ⟨b, ws, eb, hq2, ha2⟩ := st.get S2 (o1.mono e2)
      cases eb
      obtain ⟨z, hz, _⟩ := SlAll.get ha2 (List.getElem?_eq_getElem hi)
      exact ⟨ws, z, hq2, hz⟩
    · obtain ⟨b, ws, eb, hq2, ha2⟩ := st.get S2 (o1.mono e2)
      cases eb
      obtain ⟨z, hz, oz⟩ := SlAll.get ha2 (List.getElem?_eq_getElem hi)
      obtain ⟨rfl, hy⟩ := y
      have ez : z = x := Option.some.inj (hz.symm.trans (hy ws hq2))
      subst ez
      refine ⟨B2, Same.refl _, S2, ?_⟩
      rw [List.getD_eq_getElem?_getD, List.getElem?_eq_getElem hi]
      exact oz
    · obtain ⟨b, ws, eb, hq2, ha2⟩ := st.get S2 (o1.mono e2)
      cases eb
      exact ⟨ws, hq2, by rw [SlAll.len ha2]; exact hi⟩
/-- a tuple -/
theorem wi_tup {tl : TE} {R : Nat → (Nat → Sl) → (MH → Prop) → MH → Prop} (h : W K tl ρ M fun s M1 => ∃ xs, TpV s xs ∧ R xs.length (fun i => xs.getD i .non) (fun _ => True) M1) : WI K (iTup K tl) ρ M R := fun σ B H hR hS R0 k =>
  h σ B H hR hS _ fun s v M1 B1 H1 ⟨xs, hl, q⟩ e1 S1 o1 => by
    obtain ⟨a, vs, rfl, hq, ha⟩ := hl.get S1 o1
    refine ⟨a, rfl, ⟨vs, hq⟩, k xs.length _ _ M1 B1 H1 _ q e1 S1 ⟨fun i B2 M2 H2 hi e2 S2 st => ?_, fun i B2 M2 H2 x H3 hi e2 S2 st y => ?_, fun i B2 M2 H2 hi e2 S2 st => ?_⟩⟩
    · obtain ⟨b, ws, eb, hq2, ha2⟩ := hl.get S2 (o1.mono e2)
      cases eb
      obtain ⟨z, hz, _⟩ := SlAll.get ha2 (List.getElem?_eq_getElem hi)
      exact ⟨ws, z, hq2, hz⟩
    · obtain ⟨b, ws, eb, hq2, ha2⟩ := hl.get S2 (o1.mono e2)
      cases eb
      obtain ⟨z, hz, oz⟩ := SlAll.get ha2 (List.getElem?_eq_getElem hi)
      obtain ⟨rfl, hy⟩ := y
      have ez : z = x := Option.some.inj (hz.symm.trans (hy ws hq2))
      subst ez
      refine ⟨B2, Same.refl _, S2, ?_⟩
      rw [List.getD_eq_getElem?_getD, List.getElem?_eq_getElem hi]
      exact oz
    · obtain ⟨b, ws, eb, hq2, ha2⟩ := hl.get S2 (o1.mono e2)
      cases eb
      exact ⟨ws, hq2, by rw [SlAll.len ha2]; exact hi⟩
/-- ranges -/
theorem wi_r1 {t : TA} {R : Nat → (Nat → Sl) → (MH → Prop) → MH → Prop} (h : WA K t ρ M fun xs M1 => ∃ n : Int, xs = [.int n] ∧ -(2 ^ 62) ≤ n ∧ n < 2 ^ 62 ∧ R n.toNat (fun i => .int (i : Int)) (fun _ => True) M1) : WI K (iRng1 t) ρ M R := fun σ B H hR hS R0 k =>
  h σ B H hR hS _ fun xs vs M1 B1 H1 ⟨n, e, h1, h2, q⟩ e1 S1 o1 => by
    subst e
    cases o1 with
    | cons o1 o2 =>
      cases o2
      refine ⟨n, by rw [of_int o1], h1, h2, k _ _ _ M1 B1 H1 _ q e1 S1 ⟨fun i B2 M2 H2 hi e2 S2 st => hi, fun i B2 M2 H2 x H3 hi e2 S2 st y => ?_, fun i B2 M2 H2 hi e2 S2 st => hi⟩⟩
      obtain ⟨rfl, rfl⟩ := y
      exact ⟨B2, Same.refl _, S2, by rw [Int.zero_add]; exact slok_int⟩
/-- for x in a list of data, by the part that was taken -/
theorem getD_map {α : Type} {enc : α → PyData} {xs : List α} {i : Nat} (h : i < xs.length) : ((xs.map enc).map Sl.dat).getD i .non = .dat (enc xs[i]) := by
  rw [List.getD_eq_getElem?_getD, List.getElem?_map, List.getElem?_map, List.getElem?_eq_getElem h]
  rfl
theorem split_at {α : Type} {xs : List α} {i : Nat} (h : i < xs.length) : xs = xs.take i ++ xs[i] :: xs.drop (i + 1) := by
  rw [List.getElem_cons_drop, List.take_append_drop]
theorem ws_forD {α : Type} {enc : α → PyData} {xs : List α} {tl : TE} {g : TG} {tb : TS} {M1 : MH} (hl : W K tl ρ M fun s M2 => s = .dat (.list (xs.map enc)) ∧ M2 = M1) (J : List α → Rho → MH → Prop) (h0 : J [] ρ M1)
    (hs : ∀ pre x post ρ' M', xs = pre ++ x :: post → J pre ρ' M' → WG K g (.dat (enc x)) ρ' M' fun ρ2 M2 => WS K tb ρ2 M2 ⟨J (pre ++ [x]), rt, nx, J (pre ++ [x])⟩) (hd : ∀ ρ' M', J xs ρ' M' → nx ρ' M') : WS K (tFor (iList K tl) g tb) ρ M ⟨nx, rt, bk, ct⟩ :=
  ws_for (wi_list (hl.imp fun s M2 ⟨e1, e2⟩ => by
    subst e1 e2
    refine ⟨_, lsv_dat, fun i => J (xs.take i), h0, fun _ _ _ _ _ => lsv_dat, fun i ρ' M' hi hj => ?_, fun ρ' M' hj => hd ρ' M' (by rwa [List.length_map, List.length_map, List.take_length] at hj)⟩
    have hi' : i < xs.length := by simpa using hi
    have q := hs (xs.take i) xs[i] (xs.drop (i + 1)) ρ' M' (split_at hi') hj
    rw [← List.take_succ_eq_append_getElem hi'] at q
    show WG K g (((xs.map enc).map Sl.dat).getD i .non) ρ' M' _
    rw [getD_map hi']
    exact q))
theorem ws_forR1 {n : Int} {t : TA} {g : TG} {tb : TS} {M1 : MH} (hl : WA K t ρ M fun xs M2 => xs = [.int n] ∧ M2 = M1) (hn : -(2 ^ 62) ≤ n ∧ n < 2 ^ 62) (J : Nat → Rho → MH → Prop) (h0 : J 0 ρ M1)
    (hs : ∀ (i : Nat) ρ' M', (i : Int) < n → J i ρ' M' → WG K g (.int (i : Int)) ρ' M' fun ρ2 M2 => WS K tb ρ2 M2 ⟨J (i + 1), rt, nx, J (i + 1)⟩) (hd : ∀ ρ' M', J n.toNat ρ' M' → nx ρ' M') : WS K (tFor (iRng1 t) g tb) ρ M ⟨nx, rt, bk, ct⟩ :=
  ws_for (wi_r1 fun σ B H hR hS Q0 k => hl σ B H hR hS Q0 fun ss vs M' B' H' ⟨e1, e2⟩ => by
    subst e1 e2
    exact k _ vs _ B' H' ⟨n, rfl, hn.1, hn.2, J, h0, fun _ _ _ _ _ => trivial, fun i ρ' M' hi hj => hs i ρ' M' (by omega) hj, hd⟩)
/-- [te for x in ..], x the slot j; J: how many, what was made, what else stands -/
theorem w_lc {wi : TI} {tt : TT} {j : Nat} {vs : List Nat} (hj : j ∈ vs) (h : WI K wi ρ M fun n item stay M1 => ∃ J : Nat → List PyData → MH → Prop, J 0 [] M1 ∧ (∀ i acc M', i ≤ n → J i acc M' → ∀ D o, M' D = none → stay (um M' D o)) ∧
    (∀ i acc M' D, i < n → J i acc M' → M' D = none → WT K tt ((wipeR ρ vs).set j (some (item i))) (um M' D (.lst (acc.map .dat))) fun b M3 =>
      if b = true then W K te ((wipeR ρ vs).set j (some (item i))) M3 fun s M4 => ∃ d M5, s = .dat d ∧ M4 = um M5 D (.lst (acc.map .dat)) ∧ M5 D = none ∧ acc.length < 1000000 ∧ J (i + 1) (acc ++ [d]) M5
      else ∃ M5, M3 = um M5 D (.lst (acc.map .dat)) ∧ M5 D = none ∧ J (i + 1) acc M5) ∧
    ∀ acc M', J n acc M' → Q (.dat (.list acc)) M') : W K (tLc wi (gName j) tt te vs) ρ M Q := fun σ B H hR hS Q0 k =>
  h σ B H hR hS _ fun n item stay M1 B1 H1 It ⟨J, j0, js, jt, je⟩ e1 S1 ok => fun D hD => by
    have hwp : ∀ x, wipe ((wipe σ vs).set j (some x)) vs = wipe σ vs := fun x => by rw [wipe_set _ _ _ _ hj, wipe_wipe]
    refine ⟨fun i m H' => m = n - i ∧ i ≤ n ∧ ∃ acc M' B', J i acc M' ∧ M' D = none ∧ Same B1 B' ∧ Sep K B' (um M' D (.lst (acc.map .dat))) H', ⟨n, by simp, Nat.zero_le _, [], M1, B1, j0, S1.freeM hD, Same.refl _, S1.new hD ⟨[], rfl, .nil⟩⟩, ?_⟩
    rintro i m H' ⟨rfl, hi, acc, M', B', hj', hMD, e2, S2⟩
    by_cases hlt : i < n
    · refine .inr ⟨ok.go i B' _ H' hlt e2 S2 (js i acc M' hi hj' D _ hMD), fun H2 => ∃ acc M2 B2, J (i + 1) acc M2 ∧ M2 D = none ∧ Same B1 B2 ∧ Sep K B2 (um M2 D (.lst (acc.map .dat))) H2, fun H2 ⟨acc, M2, B2, q⟩ => ⟨n - (i + 1), by omega, rfl, hlt, acc, M2, B2, q⟩, fun x H3 y => ?_⟩
      obtain ⟨B3, e3, S3, o3⟩ := ok.yld i B' _ H' x H3 hlt e2 S2 (js i acc M' hi hj' D _ hMD) y
      refine ⟨hwp x, ?_⟩
      have R3 : Rl K B3 ((wipe σ vs).set j (some x)) ((wipeR ρ vs).set j (some (item i))) := Rl.put o3 j ((hR.mono ((e1.trans e2).trans e3)).wiped vs)
      refine jt i acc M' D hlt hj' hMD _ B3 H3 R3 S3 _ fun b M4 B4 H4 q4 e4 S4 => ?_
      have e14 := (e2.trans e3).trans e4
      cases b with
      | true =>
        refine q4 _ B4 H4 (R3.mono e4) S4 _ fun s v M5 B5 H5 ⟨d, M6, es, em, hn6, hl6, hj6⟩ e5 S5 o5 => ?_
        subst es em
        obtain ⟨_, u, hu, ws, rfl, ha⟩ := S5.has D _ um_same
        have hlen := SlAll.len ha
        rw [List.length_map] at hlen
        refine ⟨ws, hu, Nat.lt_of_lt_of_le (by omega) (show 1000000 ≤ sizeLine by decide), acc ++ [d], M6, B5, hj6, hn6, e14.trans e5, ?_⟩
        have S6 := S5.put (u := .lst (ws ++ [v])) (o' := .lst ((acc ++ [d]).map .dat)) um_same ⟨_, rfl, by rw [List.map_append]; exact SlAll.app ha (.cons o5 .nil)⟩
        rw [um_um] at S6
        exact S6
      | false =>
        obtain ⟨M5, em, hn5, hj5⟩ := q4
        subst em
        exact ⟨acc, M5, B4, hj5, hn5, e14, S4⟩
    · have ei : i = n := by omega
      subst ei
      refine .inl ⟨ok.stop i B' _ H' (Nat.le_refl _) e2 S2 (js i acc M' hi hj' D _ hMD), ?_⟩
      obtain ⟨hB, u, hu, ws, rfl, ha⟩ := S2.has D _ um_same
      have S3 := S2.freeze um_same hu
      rw [del_um hMD] at S3
      exact k _ _ M' _ H' (je acc M' hj') ((e1.trans e2).trans (same_new hB)) S3 (lst_ok (dpa_of ha) hB)
theorem wt_yes {Q : Bool → MH → Prop} (q : Q true M) : WT K tYes ρ M Q := fun σ B H hR hS Q0 k => k true M B H q (Same.refl B) hS
end
end Ab
set_option Elab.async false
set_option linter.all false
set_option maxRecDepth 1000000
set_option  maxHeartbeats 4000000
namespace Ab
open PySem PySem.Spec PyProof.Rows L2
/-- what a def makes of what it is given, and of what may change -/
abbrev ASp := List Sl → MH → (Sl → MH → Prop) → Prop
def conc (K : PySem.W.Frag) (A : ASp) : Sp := fun vs H Q _ => ∃ (B : Hp) (M : MH) (ss : List Sl) (QA : Sl → MH → Prop), Sep K B M H ∧ SlAll K B vs ss ∧ A ss M QA ∧ ∀ s v M' B' H', QA s M' → Same B B' → Sep K B' M' H' → SlOk K B' v s → Q v H'
section
variable {K : KX} {ρ : Rho} {M : MH} {Q Q' : Sl → MH → Prop} {ta tb te tc : TE} {P : AE}
theorem w_call {A : ASp} {E : XK} {t : TA} (h : WA K t ρ M fun ss M1 => A ss M1 Q) : W K (tCall (conc K A) [] E t) ρ M Q := fun σ B H hR hS Q0 k =>
  h σ B H hR hS _ fun ss vs M1 B1 H1 q e1 S1 o1 => ⟨B1, M1, ss, Q, S1, by rw [List.append_nil]; exact o1, q, fun s v M2 B2 H2 q2 e2 S2 o2 => k s v M2 B2 H2 q2 (e1.trans e2) S2 o2⟩
def rho0 (n : Nat) (ss : List Sl) : Rho := ss.map some ++ List.replicate (n - ss.length) none
theorem ab_ok {K : PySem.W.Frag} {P : Program} {w : World} {mg : Str → Option Value} {base : Heap} {x qual : Str} {st : Stmt} {f : Addr} {fd : FuncData} {N ps : List Str} {k : Nat} {A : ASp} (F : Fun K x qual st f fd) (S : FnScope N ps (defScope st))
    (hlen : ∀ ss M Q, A ss M Q → ss.length = ps.length)
    (hb : ∀ (cdv : Value) (Ar : Around) (outer : List Env) (s : Shared) (H : Hp) (E : XK), Room k (Ar.deeper (envOfC qual (defScope st) s.heap.objs.size f cdv)) →
      ∃ t, PSs (cxOf CX0 P w K mg base N qual (defScope st) f cdv Ar outer s H E).nox (defBody st) t ∧ ∀ ss M Q, A ss M Q → WS (KX.pure K) t (rho0 N.length ss) M ⟨fun _ M' => Q .non M', Q, NoR, NoR⟩) :
    FnOk P w K mg base CX0 (k + 1) f fd ps (conc K A) := by
  refine F.ok S (fun vs H Q E h => ?_) (fun cdv Ar outer s H vs Q E hr h => ?_)
  · obtain ⟨B, M, ss, QA, hS, hv, ha, _⟩ := h
    rw [SlAll.len hv]
    exact hlen ss M QA ha
  · obtain ⟨B, M, ss, QA, hS, hv, ha, hq⟩ := h
    obtain ⟨t, ht, hw⟩ := hb cdv Ar outer s H E hr
    refine ⟨t, ht, ?_⟩
    have hR : Rl (KX.pure K) B (L2.start N vs) (rho0 N.length ss) := by
      unfold L2.start rho0
      rw [SlAll.len hv]
      exact ⟨rl_start _ hv, fun _ _ _ _ _ _ _ q => q.elim⟩
    exact hw ss M QA ha (L2.start N vs) B H ⟨fun _ H' => Q .non H', Q, _, _⟩ hR hS (fun ρ' M' σ' B' H' q e _ S' => hq .non .non M' B' H' q e S' slok_non) (fun s v M' B' H' q e S' o => hq s v M' B' H' q e S' o) (fun _ _ _ _ _ z => z.elim) (fun _ _ _ _ _ z => z.elim)
end
end Ab
set_option Elab.async false
set_option linter.all false
set_option maxRecDepth 1000000
set_option  maxHeartbeats 4000000
namespace Ab
open PySem PyProof.Rows L2
def datsOf : List Sl → Option (List PyData)
  | [] => some []
  | .dat d :: r => match datsOf r with
    | some ds => some (d :: ds)
    | none => none
  | _ :: _ => none
theorem datsOf_eq : ∀ {xs : List Sl} {ds : List PyData}, datsOf xs = some ds → xs = ds.map .dat
  | [], _, h => by cases h; rfl
  | .dat d :: r, ds, h => by
    unfold datsOf at h
    cases e : datsOf r with
    | none => rw [e] at h; cases h
    | some es =>
      rw [e] at h
      cases h
      rw [datsOf_eq e]
      rfl
  | .raw _ :: _, _, h => by cases h
  | .abs _ _ :: _, _, h => by cases h
section
variable {K : KX} {ρ : Rho} {M : MH} {Q Q' : Sl → MH → Prop} {ta tb te tc : TE} {P : AE}
theorem w_tupD {t : TA} (h : WA K t ρ M fun xs M1 => ∃ ds, datsOf xs = some ds ∧ ds.length ≤ 1000000 ∧ Q (.dat (.tuple ds)) M1) : W K (tTup t) ρ M Q :=
  w_tup fun σ B H hR hS Q0 k => h σ B H hR hS Q0 fun ss vs M' B' H' ⟨ds, e, l, q⟩ => k ss vs M' B' H' ⟨ds, datsOf_eq e, l, q⟩
theorem w_lstD {t : TA} (h : WA K t ρ M fun xs M1 => ∃ ds, datsOf xs = some ds ∧ ds.length ≤ 1000000 ∧ Q (.dat (.list ds)) M1) : W K (tLst t) ρ M Q :=
  w_lst fun σ B H hR hS Q0 k => h σ B H hR hS Q0 fun ss vs M' B' H' ⟨ds, e, l, q⟩ => k ss vs M' B' H' ⟨ds, datsOf_eq e, l, q⟩
theorem ite_b {b : Bool} {A B : Prop} (h1 : b = true → A) (h2 : b = false → B) : if b = true then A else B := by
  cases b with
  | true => exact h1 rfl
  | false => exact h2 rfl
theorem ite_t {b : Bool} {A B : Prop} (e : b = true) (h : A) : if b = true then A else B := by
  rw [if_pos e]; exact h
theorem ite_f {b : Bool} {A B : Prop} (e : b = false) (h : B) : if b = true then A else B := by
  rw [if_neg (by rw [e]; decide)]; exact h
end
/-- a word between a statement and the rest -/
theorem ws_mid {K : KX} {ρ : Rho} {M : MH} {nx bk ct : Rho → MH → Prop} {rt : Sl → MH → Prop} {t u : TS} (Mid : Rho → MH → Prop) (h : WS K t ρ M ⟨Mid, rt, bk, ct⟩) (k : ∀ ρ' M', Mid ρ' M' → WS K u ρ' M' ⟨nx, rt, bk, ct⟩) : WS K (tSeq t u) ρ M ⟨nx, rt, bk, ct⟩ :=
  ws_seq (h.imp k (fun _ _ z => z) (fun _ _ z => z) (fun _ _ z => z))
theorem atI_ok {α : Type} {xs : List α} {i : Int} {x : α} (h0 : 0 ≤ i) (h : xs[i.toNat]? = some x) : atI xs i = some x := by
  obtain ⟨n, rfl⟩ := Int.eq_ofNat_of_zero_le h0
  exact atI_nat (by simpa using h)
theorem get_two {α : Type} {f : α → PyData} {xs : List α} {i : Nat} {x : α} (h : xs[i]? = some x) : ((xs.map f).map Sl.dat)[i]? = some (.dat (f x)) := by
  rw [List.getElem?_map, List.getElem?_map, h]
  rfl
/-- data of small depth whose texts are texts -/
theorem shaped_int (i : Int) : SeqAt.shaped (.int i) = true := by simp [SeqAt.shaped, PyData.canLay0, PyData.depth]
theorem shaped_bool (b : Bool) : SeqAt.shaped (.bool b) = true := by simp [SeqAt.shaped, PyData.canLay0, PyData.depth]
theorem shaped_none : SeqAt.shaped .none = true := by simp [SeqAt.shaped, PyData.canLay0, PyData.depth]
theorem eqv_int (i j : Int) : PyData.eqv (.int i) (.int j) = decide (i = j) := by
  simp only [PyData.eqv]
  by_cases e : i = j
  · subst e; simp
  · rw [decide_eq_false e]; exact beq_eq_false_iff_ne.mpr e
mutual
/-- depth below n, texts that are texts -/
def okD : Nat → PyData → Bool
  | _, .none => true
  | _, .bool _ => true
  | _, .int _ => true
  | _, .str x => PyData.strOk x
  | 0, _ => false
  | n + 1, .list xs => decide (xs.length ≤ 1000000) && okAll n xs
  | n + 1, .tuple xs => decide (xs.length ≤ 1000000) && okAll n xs
  | _, .dict _ => false
def okAll : Nat → List PyData → Bool
  | _, [] => true
  | n, x :: xs => okD n x && okAll n xs
end
mutual
theorem okD_lay : ∀ (n : Nat) (d : PyData), okD n d = true → d.canLay0 = true ∧ d.depth ≤ n + 1
  | n, .none, _ => by simp [PyData.canLay0, PyData.depth]
  | n, .bool _, _ => by simp [PyData.canLay0, PyData.depth]
  | n, .int _, _ => by simp [PyData.canLay0, PyData.depth]
  | n, .str x, h => by
    have h' : PyData.strOk x = true := by cases n <;> simpa [okD] using h
    simp [PyData.canLay0, PyData.depth, h']
  | 0, .list xs, h => by simp [okD] at h
  | 0, .tuple xs, h => by simp [okD] at h
  | n + 1, .list xs, h => by
    have h' : xs.length ≤ 1000000 ∧ okAll n xs = true := by simpa [okD] using h
    have q := okAll_lay n xs h'.2
    simp only [PyData.canLay0, PyData.depth]
    exact ⟨q.1, by omega⟩
  | n + 1, .tuple xs, h => by
    have h' : xs.length ≤ 1000000 ∧ okAll n xs = true := by simpa [okD] using h
    have q := okAll_lay n xs h'.2
    simp only [PyData.canLay0, PyData.depth]
    exact ⟨q.1, by omega⟩
  | n, .dict _, h => by cases n <;> simp [okD] at h
theorem okAll_lay : ∀ (n : Nat) (ds : List PyData), okAll n ds = true → PyData.canLayAll0 ds = true ∧ PyData.depthAll ds ≤ n + 1
  | n, [], _ => by simp [PyData.canLayAll0, PyData.depthAll]
  | n, d :: ds, h => by
    have h' : okD n d = true ∧ okAll n ds = true := by
      simp only [okAll, Bool.and_eq_true] at h
      exact h
    have q1 := okD_lay n d h'.1
    have q2 := okAll_lay n ds h'.2
    simp only [PyData.canLayAll0, PyData.depthAll, Bool.and_eq_true]
    exact ⟨⟨q1.1, q2.1⟩, by omega⟩
end
theorem okD_shaped {n : Nat} {d : PyData} (h : okD n d = true) (hn : n ≤ 60) : SeqAt.shaped d = true := by
  obtain ⟨h1, h2⟩ := okD_lay n d h
  unfold SeqAt.shaped
  rw [h1, decide_eq_true (by omega)]
  rfl
theorem okAll_of {n : Nat} : ∀ {ds : List PyData}, (∀ d ∈ ds, okD n d = true) → okAll n ds = true
  | [], _ => rfl
  | d :: ds, h => by
    show (okD n d && okAll n ds) = true
    rw [h d List.mem_cons_self, okAll_of fun e he => h e (List.mem_cons_of_mem _ he)]
    rfl
theorem okD_mem {n : Nat} : ∀ {ds : List PyData} {d : PyData}, okAll n ds = true → d ∈ ds → okD n d = true
  | [], _, _, h => by cases h
  | x :: xs, d, h, hm => by
    have h' : okD n x = true ∧ okAll n xs = true := by
      simp only [okAll, Bool.and_eq_true] at h
      exact h
    rcases List.mem_cons.mp hm with rfl | hm
    · exact h'.1
    · exact okD_mem h'.2 hm
theorem okD_list {n : Nat} {xs : List PyData} (h : okD (n + 1) (.list xs) = true) : xs.length ≤ 1000000 ∧ okAll n xs = true := by simpa [okD] using h
theorem okD_tuple {n : Nat} {xs : List PyData} (h : okD (n + 1) (.tuple xs) = true) : xs.length ≤ 1000000 ∧ okAll n xs = true := by simpa [okD] using h
theorem okD_mkL {n : Nat} {xs : List PyData} (h : xs.length ≤ 1000000) (h2 : okAll n xs = true) : okD (n + 1) (.list xs) = true := by simp [okD, h, h2]
theorem okD_mkT {n : Nat} {xs : List PyData} (h : xs.length ≤ 1000000) (h2 : okAll n xs = true) : okD (n + 1) (.tuple xs) = true := by simp [okD, h, h2]
@[reducible] def isB : PyData → Bool
  | .bool _ => true
  | _ => false
@[reducible] def isI : PyData → Bool
  | .bool _ => true
  | .int _ => true
  | _ => false
@[reducible] def isS : PyData → Bool
  | .str _ => true
  | _ => false
@[reducible] def isT : PyData → Bool
  | .tuple _ => true
  | _ => false
@[reducible] def isL : PyData → Bool
  | .list _ => true
  | _ => false
theorem isi_bool (d : PyData) : kitB (tyD d) "bool" = some (isB d) := by cases d <;> (simp only [tyD, isB]; decide +kernel)
theorem isi_int (d : PyData) : kitB (tyD d) "int" = some (isI d) := by cases d <;> (simp only [tyD, isI]; decide +kernel)
theorem isi_str (d : PyData) : kitB (tyD d) "str" = some (isS d) := by cases d <;> (simp only [tyD, isS]; decide +kernel)
theorem isi_tuple (d : PyData) : kitB (tyD d) "tuple" = some (isT d) := by cases d <;> (simp only [tyD, isT]; decide +kernel)
theorem isi_list (d : PyData) : kitB (tyD d) "list" = some (isL d) := by cases d <;> (simp only [tyD, isL]; decide +kernel)
section
variable {K : KX} {ρ : Rho} {M : MH} {Q : Sl → MH → Prop}
/-- x[i] of a list, a tuple of data -/
theorem w2_ixDL {K : PySem.W.Frag} {d : PyData} {ds : List PyData} {i : Int} (hx : atI ds i = some d) (q : Q (.dat d) M) : W2 K (rIx K) (.dat (.list ds)) (.int i) M Q := fun B H v w hS o1 o2 Q0 k =>
  .inl (w2_ixL lsv_dat (by rw [atI_map, hx]; rfl) q B H v w hS o1 o2 Q0 k)
theorem w2_ixDT {K : PySem.W.Frag} {d : PyData} {ds : List PyData} {i : Int} (hx : atI ds i = some d) (q : Q (.dat d) M) : W2 K (rIx K) (.dat (.tuple ds)) (.int i) M Q := fun B H v w hS o1 o2 Q0 k =>
  .inr (.inl (w2_ixT hx q B H v w hS o1 o2 Q0 k))
end
end Ab
set_option Elab.async false
set_option linter.all false
set_option maxRecDepth 1000000
set_option  maxHeartbeats 4000000
namespace Ab
open PySem PyProof.Rows L2
abbrev lsm {α : Type} (f : α → PyData) (xs : List α) : Sl := .dat (.list (xs.map f))
def itemsI : List Sl → Option (List Int)
  | [] => some []
  | .dat (.int i) :: r => match itemsI r with
    | some ds => some (i :: ds)
    | none => none
  | _ :: _ => none
theorem itemsI_eq : ∀ {xs : List Sl} {ns : List Int}, itemsI xs = some ns → xs = (ns.map PyData.int).map .dat
  | [], _, h => by cases h; rfl
  | .dat (.int i) :: r, ns, h => by
    unfold itemsI at h
    cases e : itemsI r with
    | none => rw [e] at h; cases h
    | some es =>
      rw [e] at h
      cases h
      rw [itemsI_eq e]
      rfl
  | .dat .none :: _, _, h => by cases h
  | .dat (.bool _) :: _, _, h => by cases h
  | .dat (.str _) :: _, _, h => by cases h
  | .dat (.list _) :: _, _, h => by cases h
  | .dat (.tuple _) :: _, _, h => by cases h
  | .dat (.dict _) :: _, _, h => by cases h
  | .raw _ :: _, _, h => by cases h
  | .abs _ _ :: _, _, h => by cases h
section
variable {K : KX} {ρ : Rho} {M : MH} {Q Q' : Sl → MH → Prop} {ta tb te tc : TE} {α : Type} {f : α → PyData}
theorem w_lstI {t : TA} (h : WA K t ρ M fun xs M1 => ∃ ns, itemsI xs = some ns ∧ ns.length ≤ 1000000 ∧ Q (lsm .int ns) M1) : W K (tLst t) ρ M Q :=
  w_lst fun σ B H hR hS Q0 k => h σ B H hR hS Q0 fun ss vs M' B' H' ⟨ns, e, l, q⟩ => k ss vs M' B' H' ⟨_, itemsI_eq e, by rw [List.length_map]; exact l, q⟩
theorem wl_lenE {K : PySem.W.Frag} {xs : List α} (q : Q (.int (xs.length : Int)) M) : WL K (rLenS K) [lsm f xs] M Q := wl_len lsv_dat (by rw [List.length_map, List.length_map]; exact q)
theorem wl_lenD {K : PySem.W.Frag} {ds : List PyData} (q : Q (.int (ds.length : Int)) M) : WL K (rLenS K) [.dat (.list ds)] M Q := wl_len lsv_dat (by rw [List.length_map]; exact q)
theorem wl_lenTD {K : PySem.W.Frag} {ds : List PyData} (q : Q (.int (ds.length : Int)) M) : WL K (rLenS K) [.dat (.tuple ds)] M Q := wl_lenT tpv_dat (by rw [List.length_map]; exact q)
theorem wsl_E {K : PySem.W.Frag} {xs : List α} {lo hi : Option Int} (q : Q (lsm f (cutG xs lo hi)) M) : WSl K (rSlL K) (lsm f xs) lo hi M Q := wsl_lst lsv_dat (by rw [cutG_map]; exact q)
theorem w2_catE {K : PySem.W.Frag} {xs ys : List α} (hl : xs.length + ys.length ≤ 1000000) (q : Q (lsm f (xs ++ ys)) M) : W2 K (rCatL K) (lsm f xs) (lsm f ys) M Q := w2_cat lsv_dat lsv_dat (by rw [List.length_map, List.length_map]; exact hl) (by rw [← List.map_append]; exact q)
theorem repD_map (xs : List α) (n : Nat) : repD (xs.map f) n = ((List.replicate n xs).flatten).map f := by
  unfold repD
  rw [List.map_flatten, List.map_replicate]
theorem w2_repE {K : PySem.W.Frag} {xs : List α} {i : Int} (i1 : -(2 ^ 63) ≤ i) (i2 : i < 2 ^ 63) (hl : xs.length * i.toNat ≤ 1000000) (q : Q (lsm f (List.replicate i.toNat xs).flatten) M) : W2 K rRepL (lsm f xs) (.int i) M Q := w2_rep lsr_dat i1 i2 (by rw [List.length_map]; exact hl) (by rw [repD_map]; exact q)
theorem rep_one {α : Type} (x : α) : ∀ n : Nat, (List.replicate n [x]).flatten = List.replicate n x
  | 0 => rfl
  | n + 1 => by rw [List.replicate_succ, List.flatten_cons, rep_one x n]; rfl
theorem w2_rep1 {K : PySem.W.Frag} {x : α} {i : Int} (i1 : -(2 ^ 63) ≤ i) (i2 : i ≤ 1000000) (q : Q (lsm f (List.replicate i.toNat x)) M) : W2 K rRepL (lsm f [x]) (.int i) M Q := w2_repE i1 (by omega) (by show 1 * i.toNat ≤ 1000000; omega) (by rw [rep_one]; exact q)
theorem wl_listE {K : PySem.W.Frag} {xs : List α} (q : Q (lsm f xs) M) : WL K (rListS K) [lsm f xs] M Q := wl_list (.inl lsv_dat) q
end
theorem cutG_hi {α : Type} (xs : List α) {hi : Int} (h2 : 0 ≤ hi) : cutG xs none (some hi) = xs.take hi.toNat := by
  obtain ⟨h, rfl⟩ := Int.eq_ofNat_of_zero_le h2
  unfold cutG
  rw [HT.sIx_none, HT.sIx_nat, Int.toNat_natCast, List.drop_zero, Nat.sub_zero]
  apply List.ext_getElem?
  intro i
  simp only [List.getElem?_take]
  by_cases c1 : i < xs.length
  · by_cases c2 : i < h
    · rw [if_pos (by omega), if_pos c2]
    · rw [if_neg (by omega), if_neg c2]
  · rw [if_neg (by omega), List.getElem?_eq_none (by omega)]
    split <;> rfl
def scriptA (K : PySem.W.Frag) : Sp := conc K fun ss M Q => ∃ (s : Sl) (ns : List Int), ss = [s] ∧ ns.length ≤ 63 ∧ (∀ z ∈ ns, Builtin.Int.intBits z ≤ 1048576) ∧ (∀ M, LsV K s M ((ns.map PyData.int).map .dat)) ∧ ∀ M', Q (.bl true) M'
theorem slall_ints {K : PySem.W.Frag} {B : Hp} : ∀ ns : List Int, SlAll K B (ns.map V.int) ((ns.map PyData.int).map .dat)
  | [] => .nil
  | _ :: ns => .cons slok_int (slall_ints ns)
theorem script_in {K : PySem.W.Frag} {H : Hp} {a : Addr} {ns : List Int} (hl : ns.length ≤ 63) (hb : ∀ z ∈ ns, Builtin.Int.intBits z ≤ 1048576) (hS : SqL K H a (ns.map V.int)) : scriptA K [.ref a] H (fun v _ => v = .bl true) fun _ _ _ => False := by
  have S : Sep K H (fun _ => none) H := ⟨Same.refl H, fun a o e => by cases e⟩
  rcases hS with h | h
  · refine ⟨H, _, [.abs (fun B v => v = .ref a ∧ Rd B a (.lst (ns.map V.int))) fun _ _ _ e z => ⟨z.1, same_rd e z.2⟩], fun s _ => s = .bl true, S, .cons ⟨rfl, h⟩ .nil, ⟨_, ns, rfl, hl, hb, fun M => .inr (.inr fun B H v e o => ⟨a, _, o.1, .inl (same_rd e o.2), slall_ints ns⟩), fun _ => rfl⟩, fun s v M' B' H' e _ _ o => by subst e; exact of_bl o⟩
  · exact ⟨H, _, [.raw (.ref a)], fun s _ => s = .bl true, S, .cons rfl .nil, ⟨_, ns, rfl, hl, hb, fun M => .inr (.inr fun B H v _ o => ⟨a, _, o, .inr h, slall_ints ns⟩), fun _ => rfl⟩, fun s v M' B' H' e _ _ o => by subst e; exact of_bl o⟩
end Ab
set_option Elab.async false
set_option linter.all false
set_option maxRecDepth 1000000
set_option  maxHeartbeats 4000000
namespace Ab
open PySem PySem.SeqAt
open PySem.AutoSeq1 (wpAny_loadPart')
open PySem.MeetsSeq PySem.MeetsSeq2 PySem.MeetsSeq3
def cmpN (op : CmpOp) (a b : Nat) : Bool := match op with
  | .Lt => decide (a < b) | .Gt => decide (a > b) | .LtE => decide (a ≤ b) | .GtE => decide (a ≥ b) | _ => false
def cmpI (op : CmpOp) (a b : Int) : Bool := match op with
  | .Lt => decide (a < b) | .Gt => decide (b < a) | .LtE => decide (a ≤ b) | .GtE => decide (b ≤ a) | _ => false
def cmpS (op : CmpOp) (x y : Str) : Bool := match op with
  | .Lt => decide (x.cps.toList < y.cps.toList) | .Gt => decide (y.cps.toList < x.cps.toList) | .LtE => !decide (y.cps.toList < x.cps.toList) | .GtE => !decide (x.cps.toList < y.cps.toList) | _ => false
mutual
/-- what Python's op answers -/
def cmpV (op : CmpOp) : PyData → PyData → Bool
  | .int a, .int b => cmpI op a b
  | .str a, .str b => cmpS op a b
  | .tuple xs, .tuple ys => cmpVs op (cmpN op xs.length ys.length) xs ys
  | _, _ => false
def cmpVs (op : CmpOp) (z : Bool) : List PyData → List PyData → Bool
  | x :: xs, y :: ys => if PyData.eqv x y then cmpVs op z xs ys else cmpV op x y
  | [], _ => z
  | _ :: _, [] => z
end
mutual
/-- whether Python compares the two -/
def cmpOk : PyData → PyData → Bool
  | .int _, .int _ => true
  | .str _, .str _ => true
  | .tuple xs, .tuple ys => cmpOks xs ys
  | _, _ => false
def cmpOks : List PyData → List PyData → Bool
  | x :: xs, y :: ys => if PyData.eqv x y then cmpOks xs ys else cmpOk x y
  | [], _ => true
  | _ :: _, [] => true
end
/-- y op x answers k, and nothing changes -/
def Rc (op : CmpOp) (A : Around) (s : Shared) (y x : Value) (k : Bool) : Prop :=
  ∀ (prog : Program) (w : World) (E : Value → Shared → Prop) (Q : Value → Shared → Prop), Q (.bool k) s → wpAny (model prog w) A (richCompare op y x) Q E s
/-- pair by pair up to the first that differs -/
inductive Cmp (A : Around) (s : Shared) (op : CmpOp) (z : Bool) : List (Value × Value) → Bool → Prop
  | nil : Cmp A s op z [] z
  | same {y x : Value} {r : List (Value × Value)} {k : Bool} : EqAt A s y x true → Cmp A s op z r k → Cmp A s op z ((y, x) :: r) k
  | stop {y x : Value} {r : List (Value × Value)} {k : Bool} : EqAt A s y x false → Rc op A s y x k → Cmp A s op z ((y, x) :: r) k
section
theorem tup_lt (l b : Addr) (us ws : Array Value) (n m : Nat) (dd dd2 : Option Addr) (sl sl2 : Array (Option Value)) (k : Bool) :
    Meets (Builtin.«tuple.__lt__» ⟨[.ref l, .ref b], []⟩)
      (fun A R s => s.heap.get? l = some { cls := .type "tuple", dict := dd, data := .seq us n, slots := sl } ∧ s.heap.get? b = some { cls := .type "tuple", dict := dd2, data := .seq ws m, slots := sl2 } ∧
        Cmp A.in1 s .Lt (cmpN .Lt us.size ws.size) (us.toList.zip ws.toList) k ∧ R (.ok (.ret (.bool k))) s) := .of_wp fun prog w A R s h => by
  obtain ⟨hp, g, d, tk, os⟩ := s; obtain ⟨hl, hb, hc, h⟩ := h
  have sub := AutoSeq1.sub_tuple_tuple
  wp_walk using wpAny_loadPart' hl, wpAny_loadPart' hb, wpAny_forIn_list _ (fun rest b s' => b.1 = none ∧ s' = ⟨hp, g, d, tk, os⟩ ∧ Cmp A.in1 ⟨hp, g, d, tk, os⟩ .Lt (cmpN .Lt us.size ws.size) rest k) _
  case turn =>
    rintro ⟨y, x⟩ rest b s' ⟨hb', rfl, hc⟩
    cases hc with
    | same he hr =>
      refine wpAny_bind (he prog w _ _ ?_)
      wp_walk
      exact ⟨rfl, rfl, hr⟩
    | stop he hr =>
      refine wpAny_bind (he prog w _ _ ?_)
      refine wpAny_bind (wpAny_rule ?_)
      refine wpAny_bind (hr prog w _ _ ?_)
      wp_walk
      exact ⟨_, rfl, h⟩
  case fin =>
    rintro ⟨b1, b2⟩ s' ⟨hb', rfl, hc⟩
    simp only at hb'
    subst hb'
    cases hc
    wp_walk
    exact ⟨_, rfl, by simpa [Builtin.Tuple.tupleCompareSizes, cmpN] using h⟩
  case h => exact ⟨rfl, rfl, hc⟩
theorem rc_tup_lt {A : Around} {s : Shared} {l b : Addr} {us ws : Array Value} {k : Bool} (hl : s.heap.IsTuple l us) (hb : s.heap.IsTuple b ws) (hu : A.units < cLine) (hc : Cmp A.in1 s .Lt (cmpN .Lt us.size ws.size) (us.toList.zip ws.toList) k) : Rc .Lt A s (.ref l) (.ref b) k := fun prog w E Q h => by
  obtain ⟨⟨_, dd, _, sl⟩, ho, c1, n, d1⟩ := id hl
  obtain ⟨⟨_, dd2, _, sl2⟩, ho2, c2, m, d2⟩ := id hb
  simp only at c1 d1 c2 d2
  subst c1 d1 c2 d2
  exact richCompare_meets_room (op := .Lt) ⟨_, ho, rfl⟩ ⟨_, ho2, rfl⟩ F.slot_tuple_lt F.entry_tuple_lt (F.args_tuple_lt_2 _ _) (tup_lt l b us ws n m dd dd2 sl sl2 k)
    ⟨ho, ho2, hc, show Value.bool k ≠ Value.notImplemented ∧ Q (.bool k) s from ⟨(fun x => nomatch x), h⟩⟩ hu
theorem tup_gt (l b : Addr) (us ws : Array Value) (n m : Nat) (dd dd2 : Option Addr) (sl sl2 : Array (Option Value)) (k : Bool) :
    Meets (Builtin.«tuple.__gt__» ⟨[.ref l, .ref b], []⟩)
      (fun A R s => s.heap.get? l = some { cls := .type "tuple", dict := dd, data := .seq us n, slots := sl } ∧ s.heap.get? b = some { cls := .type "tuple", dict := dd2, data := .seq ws m, slots := sl2 } ∧
        Cmp A.in1 s .Gt (cmpN .Gt us.size ws.size) (us.toList.zip ws.toList) k ∧ R (.ok (.ret (.bool k))) s) := .of_wp fun prog w A R s h => by
  obtain ⟨hp, g, d, tk, os⟩ := s; obtain ⟨hl, hb, hc, h⟩ := h
  have sub := AutoSeq1.sub_tuple_tuple
  wp_walk using wpAny_loadPart' hl, wpAny_loadPart' hb, wpAny_forIn_list _ (fun rest b s' => b.1 = none ∧ s' = ⟨hp, g, d, tk, os⟩ ∧ Cmp A.in1 ⟨hp, g, d, tk, os⟩ .Gt (cmpN .Gt us.size ws.size) rest k) _
  case turn =>
    rintro ⟨y, x⟩ rest b s' ⟨hb', rfl, hc⟩
    cases hc with
    | same he hr =>
      refine wpAny_bind (he prog w _ _ ?_)
      wp_walk
      exact ⟨rfl, rfl, hr⟩
    | stop he hr =>
      refine wpAny_bind (he prog w _ _ ?_)
      refine wpAny_bind (wpAny_rule ?_)
      refine wpAny_bind (hr prog w _ _ ?_)
      wp_walk
      exact ⟨_, rfl, h⟩
  case fin =>
    rintro ⟨b1, b2⟩ s' ⟨hb', rfl, hc⟩
    simp only at hb'
    subst hb'
    cases hc
    wp_walk
    exact ⟨_, rfl, by simpa [Builtin.Tuple.tupleCompareSizes, cmpN] using h⟩
  case h => exact ⟨rfl, rfl, hc⟩
theorem rc_tup_gt {A : Around} {s : Shared} {l b : Addr} {us ws : Array Value} {k : Bool} (hl : s.heap.IsTuple l us) (hb : s.heap.IsTuple b ws) (hu : A.units < cLine) (hc : Cmp A.in1 s .Gt (cmpN .Gt us.size ws.size) (us.toList.zip ws.toList) k) : Rc .Gt A s (.ref l) (.ref b) k := fun prog w E Q h => by
  obtain ⟨⟨_, dd, _, sl⟩, ho, c1, n, d1⟩ := id hl
  obtain ⟨⟨_, dd2, _, sl2⟩, ho2, c2, m, d2⟩ := id hb
  simp only at c1 d1 c2 d2
  subst c1 d1 c2 d2
  exact richCompare_meets_room (op := .Gt) ⟨_, ho, rfl⟩ ⟨_, ho2, rfl⟩ F.slot_tuple_gt F.entry_tuple_gt (F.args_tuple_gt_2 _ _) (tup_gt l b us ws n m dd dd2 sl sl2 k)
    ⟨ho, ho2, hc, show Value.bool k ≠ Value.notImplemented ∧ Q (.bool k) s from ⟨(fun x => nomatch x), h⟩⟩ hu
theorem tup_le (l b : Addr) (us ws : Array Value) (n m : Nat) (dd dd2 : Option Addr) (sl sl2 : Array (Option Value)) (k : Bool) :
    Meets (Builtin.«tuple.__le__» ⟨[.ref l, .ref b], []⟩)
      (fun A R s => s.heap.get? l = some { cls := .type "tuple", dict := dd, data := .seq us n, slots := sl } ∧ s.heap.get? b = some { cls := .type "tuple", dict := dd2, data := .seq ws m, slots := sl2 } ∧
        Cmp A.in1 s .LtE (cmpN .LtE us.size ws.size) (us.toList.zip ws.toList) k ∧ R (.ok (.ret (.bool k))) s) := .of_wp fun prog w A R s h => by
  obtain ⟨hp, g, d, tk, os⟩ := s; obtain ⟨hl, hb, hc, h⟩ := h
  have sub := AutoSeq1.sub_tuple_tuple
  wp_walk using wpAny_loadPart' hl, wpAny_loadPart' hb, wpAny_forIn_list _ (fun rest b s' => b.1 = none ∧ s' = ⟨hp, g, d, tk, os⟩ ∧ Cmp A.in1 ⟨hp, g, d, tk, os⟩ .LtE (cmpN .LtE us.size ws.size) rest k) _
  case turn =>
    rintro ⟨y, x⟩ rest b s' ⟨hb', rfl, hc⟩
    cases hc with
    | same he hr =>
      refine wpAny_bind (he prog w _ _ ?_)
      wp_walk
      exact ⟨rfl, rfl, hr⟩
    | stop he hr =>
      refine wpAny_bind (he prog w _ _ ?_)
      refine wpAny_bind (wpAny_rule ?_)
      refine wpAny_bind (hr prog w _ _ ?_)
      wp_walk
      exact ⟨_, rfl, h⟩
  case fin =>
    rintro ⟨b1, b2⟩ s' ⟨hb', rfl, hc⟩
    simp only at hb'
    subst hb'
    cases hc
    wp_walk
    exact ⟨_, rfl, by simpa [Builtin.Tuple.tupleCompareSizes, cmpN] using h⟩
  case h => exact ⟨rfl, rfl, hc⟩
theorem rc_tup_le {A : Around} {s : Shared} {l b : Addr} {us ws : Array Value} {k : Bool} (hl : s.heap.IsTuple l us) (hb : s.heap.IsTuple b ws) (hu : A.units < cLine) (hc : Cmp A.in1 s .LtE (cmpN .LtE us.size ws.size) (us.toList.zip ws.toList) k) : Rc .LtE A s (.ref l) (.ref b) k := fun prog w E Q h => by
  obtain ⟨⟨_, dd, _, sl⟩, ho, c1, n, d1⟩ := id hl
  obtain ⟨⟨_, dd2, _, sl2⟩, ho2, c2, m, d2⟩ := id hb
  simp only at c1 d1 c2 d2
  subst c1 d1 c2 d2
  exact richCompare_meets_room (op := .LtE) ⟨_, ho, rfl⟩ ⟨_, ho2, rfl⟩ F.slot_tuple_le F.entry_tuple_le (F.args_tuple_le_2 _ _) (tup_le l b us ws n m dd dd2 sl sl2 k)
    ⟨ho, ho2, hc, show Value.bool k ≠ Value.notImplemented ∧ Q (.bool k) s from ⟨(fun x => nomatch x), h⟩⟩ hu
theorem tup_ge (l b : Addr) (us ws : Array Value) (n m : Nat) (dd dd2 : Option Addr) (sl sl2 : Array (Option Value)) (k : Bool) :
    Meets (Builtin.«tuple.__ge__» ⟨[.ref l, .ref b], []⟩)
      (fun A R s => s.heap.get? l = some { cls := .type "tuple", dict := dd, data := .seq us n, slots := sl } ∧ s.heap.get? b = some { cls := .type "tuple", dict := dd2, data := .seq ws m, slots := sl2 } ∧
        Cmp A.in1 s .GtE (cmpN .GtE us.size ws.size) (us.toList.zip ws.toList) k ∧ R (.ok (.ret (.bool k))) s) := .of_wp fun prog w A R s h => by
  obtain ⟨hp, g, d, tk, os⟩ := s; obtain ⟨hl, hb, hc, h⟩ := h
  have sub := AutoSeq1.sub_tuple_tuple
  wp_walk using wpAny_loadPart' hl, wpAny_loadPart' hb, wpAny_forIn_list _ (fun rest b s' => b.1 = none ∧ s' = ⟨hp, g, d, tk, os⟩ ∧ Cmp A.in1 ⟨hp, g, d, tk, os⟩ .GtE (cmpN .GtE us.size ws.size) rest k) _
  case turn =>
    rintro ⟨y, x⟩ rest b s' ⟨hb', rfl, hc⟩
    cases hc with
    | same he hr =>
      refine wpAny_bind (he prog w _ _ ?_)
      wp_walk
      exact ⟨rfl, rfl, hr⟩
    | stop he hr =>
      refine wpAny_bind (he prog w _ _ ?_)
      refine wpAny_bind (wpAny_rule ?_)
      refine wpAny_bind (hr prog w _ _ ?_)
      wp_walk
      exact ⟨_, rfl, h⟩
  case fin =>
    rintro ⟨b1, b2⟩ s' ⟨hb', rfl, hc⟩
    simp only at hb'
    subst hb'
    cases hc
    wp_walk
    exact ⟨_, rfl, by simpa [Builtin.Tuple.tupleCompareSizes, cmpN] using h⟩
  case h => exact ⟨rfl, rfl, hc⟩
theorem rc_tup_ge {A : Around} {s : Shared} {l b : Addr} {us ws : Array Value} {k : Bool} (hl : s.heap.IsTuple l us) (hb : s.heap.IsTuple b ws) (hu : A.units < cLine) (hc : Cmp A.in1 s .GtE (cmpN .GtE us.size ws.size) (us.toList.zip ws.toList) k) : Rc .GtE A s (.ref l) (.ref b) k := fun prog w E Q h => by
  obtain ⟨⟨_, dd, _, sl⟩, ho, c1, n, d1⟩ := id hl
  obtain ⟨⟨_, dd2, _, sl2⟩, ho2, c2, m, d2⟩ := id hb
  simp only at c1 d1 c2 d2
  subst c1 d1 c2 d2
  exact richCompare_meets_room (op := .GtE) ⟨_, ho, rfl⟩ ⟨_, ho2, rfl⟩ F.slot_tuple_ge F.entry_tuple_ge (F.args_tuple_ge_2 _ _) (tup_ge l b us ws n m dd dd2 sl sl2 k)
    ⟨ho, ho2, hc, show Value.bool k ≠ Value.notImplemented ∧ Q (.bool k) s from ⟨(fun x => nomatch x), h⟩⟩ hu
end
/-- the four orders -/
inductive IsCmp : CmpOp → Prop
  | lt : IsCmp .Lt
  | gt : IsCmp .Gt
  | le : IsCmp .LtE
  | ge : IsCmp .GtE
theorem rc_tup {op : CmpOp} (ho : IsCmp op) {A : Around} {s : Shared} {l b : Addr} {us ws : Array Value} {k : Bool} (hl : s.heap.IsTuple l us) (hb : s.heap.IsTuple b ws) (hu : A.units < cLine) (hc : Cmp A.in1 s op (cmpN op us.size ws.size) (us.toList.zip ws.toList) k) : Rc op A s (.ref l) (.ref b) k := by
  cases ho
  · exact rc_tup_lt hl hb hu hc
  · exact rc_tup_gt hl hb hu hc
  · exact rc_tup_le hl hb hu hc
  · exact rc_tup_ge hl hb hu hc
theorem rc_int {op : CmpOp} (ho : IsCmp op) {A : Around} {s : Shared} (i j : Int) (t u : Tok) : Rc op A s (.int i t) (.int j u) (cmpI op i j) := fun prog w E Q h => by
  cases ho
  · exact PySem.P.lt_int h
  · exact PyProof.Rows.gt_int h
  · exact PyProof.Rows.le_int h
  · exact PyProof.Rows.ge_int h
theorem rc_str {op : CmpOp} (ho : IsCmp op) {A : Around} {s : Shared} (x y : Str) (t u : Tok) : Rc op A s (.str x t) (.str y u) (cmpS op x y) := fun prog w E Q h => by
  cases ho
  · exact PySem.P.lt_str h
  · exact PySem.P.gt_str h
  · exact PySem.P.le_str h
  · exact PySem.P.ge_str h
mutual
theorem rc_data {op : CmpOp} (ho : IsCmp op) : ∀ (d e : PyData) (A : Around) (s : Shared) (a b : Value) (as bs : List Addr), Reads s.heap a d as → Reads s.heap b e bs → cmpOk d e = true → d.canLay0 = true → e.canLay0 = true → A.units + min d.depth e.depth < cLine → Rc op A s a b (cmpV op d e)
  | .int i, .int j, A, s, _, _, _, _, ra, rb, _, _, _, _ => by
    cases ra with
    | int _ t => cases rb with
      | int _ u => exact rc_int ho i j t u
  | .str x, .str y, A, s, _, _, _, _, ra, rb, _, _, _, _ => by
    cases ra with
    | str _ t => cases rb with
      | str _ u => exact rc_str ho x y t u
  | .tuple xs, .tuple ys, A, s, _, _, _, _, ra, rb, hc, ha, hb, hu => by
    cases ra with
    | @tuple l o vs n _ as₁ h1 h2 h3 h4 =>
      cases rb with
      | @tuple l' o' vs' n' _ bs₁ k1 k2 k3 k4 =>
        have n1 : vs.size = xs.length := by simpa using ReadsAll.length _ _ _ h4
        have n2 : vs'.size = ys.length := by simpa using ReadsAll.length _ _ _ k4
        refine rc_tup ho ⟨_, h1, h2, _, h3⟩ ⟨_, k1, k2, _, k3⟩ (room_here hu) ?_
        rw [n1, n2]
        exact rc_datas ho xs ys A.in1 s _ _ _ _ _ h4 k4 hc ha hb (room_in hu)
  | .none, _, _, _, _, _, _, _, _, _, h, _, _, _ => by simp [cmpOk] at h
  | .bool _, _, _, _, _, _, _, _, _, _, h, _, _, _ => by simp [cmpOk] at h
  | .list _, _, _, _, _, _, _, _, _, _, h, _, _, _ => by simp [cmpOk] at h
  | .dict _, _, _, _, _, _, _, _, _, _, h, _, _, _ => by simp [cmpOk] at h
  | .int _, .none, _, _, _, _, _, _, _, _, h, _, _, _ => by simp [cmpOk] at h
  | .int _, .bool _, _, _, _, _, _, _, _, _, h, _, _, _ => by simp [cmpOk] at h
  | .int _, .str _, _, _, _, _, _, _, _, _, h, _, _, _ => by simp [cmpOk] at h
  | .int _, .list _, _, _, _, _, _, _, _, _, h, _, _, _ => by simp [cmpOk] at h
  | .int _, .tuple _, _, _, _, _, _, _, _, _, h, _, _, _ => by simp [cmpOk] at h
  | .int _, .dict _, _, _, _, _, _, _, _, _, h, _, _, _ => by simp [cmpOk] at h
  | .str _, .none, _, _, _, _, _, _, _, _, h, _, _, _ => by simp [cmpOk] at h
  | .str _, .bool _, _, _, _, _, _, _, _, _, h, _, _, _ => by simp [cmpOk] at h
  | .str _, .int _, _, _, _, _, _, _, _, _, h, _, _, _ => by simp [cmpOk] at h
  | .str _, .list _, _, _, _, _, _, _, _, _, h, _, _, _ => by simp [cmpOk] at h
  | .str _, .tuple _, _, _, _, _, _, _, _, _, h, _, _, _ => by simp [cmpOk] at h
  | .str _, .dict _, _, _, _, _, _, _, _, _, h, _, _, _ => by simp [cmpOk] at h
  | .tuple _, .none, _, _, _, _, _, _, _, _, h, _, _, _ => by simp [cmpOk] at h
  | .tuple _, .bool _, _, _, _, _, _, _, _, _, h, _, _, _ => by simp [cmpOk] at h
  | .tuple _, .int _, _, _, _, _, _, _, _, _, h, _, _, _ => by simp [cmpOk] at h
  | .tuple _, .str _, _, _, _, _, _, _, _, _, h, _, _, _ => by simp [cmpOk] at h
  | .tuple _, .list _, _, _, _, _, _, _, _, _, h, _, _, _ => by simp [cmpOk] at h
  | .tuple _, .dict _, _, _, _, _, _, _, _, _, h, _, _, _ => by simp [cmpOk] at h
theorem rc_datas {op : CmpOp} (ho : IsCmp op) : ∀ (xs ys : List PyData) (A : Around) (s : Shared) (z : Bool) (vs ws : List Value) (as bs : List Addr), ReadsAll s.heap vs xs as → ReadsAll s.heap ws ys bs → cmpOks xs ys = true → PyData.canLayAll0 xs = true → PyData.canLayAll0 ys = true →
    A.units + min (PyData.depthAll xs) (PyData.depthAll ys) < cLine → Cmp A s op z (vs.zip ws) (cmpVs op z xs ys)
  | [], _, A, s, z, _, _, _, _, ra, _, _, _, _, _ => by cases ra; simp only [List.zip_nil_left, cmpVs]; exact .nil
  | _ :: _, [], A, s, z, _, _, _, _, ra, rb, _, _, _, _ => by cases rb; simp only [List.zip_nil_right, cmpVs]; exact .nil
  | x :: xs, y :: ys, A, s, z, _, _, _, _, ra, rb, hc, ha, hb, hu => by
    cases ra with
    | cons r rs =>
      cases rb with
      | cons r' rs' =>
        rw [PyData.canLayAll0, Bool.and_eq_true] at ha hb
        rw [List.zip_cons_cons]
        have he := eqAt_reads x y A s _ _ _ _ r r' ha.1 hb.1 (room_head hu)
        rw [cmpOks] at hc
        cases hx : PyData.eqv x y with
        | true =>
          rw [hx] at he hc
          rw [cmpVs, hx, if_pos rfl]
          exact .same he (rc_datas ho xs ys A s z _ _ _ _ rs rs' hc ha.2 hb.2 (room_tail hu))
        | false =>
          rw [hx] at he hc
          rw [cmpVs, hx, if_neg Bool.false_ne_true]
          exact .stop he (rc_data ho x y A s _ _ _ _ r r' hc ha.1 hb.1 (room_head hu))
end
end Ab
namespace Ab
open PySem L2
end Ab
set_option Elab.async false
set_option linter.all false
set_option maxRecDepth 1000000
set_option  maxHeartbeats 4000000
namespace Ab
open PySem L2
theorem room65 {k : Nat} {A : Around} (r : Room k A) : A.units + 65 < cLine := by
  have := r.un
  omega
/-- the state of the draws: the script, how far it is read, a number in hand, the seed -/
def DrawL (xs : List Sl) : Prop := ∃ (sc : List Int) (pos cur seed : Int), xs = [.dat (.list (sc.map .int)), .int pos, .int cur, .int seed] ∧ 0 ≤ pos
def A_next : ASp := fun ss M Q => ∃ (p : Addr) (n : Int) (xs : List Sl), ss = [.ref p, .int n] ∧ M p = some (.lst xs) ∧ DrawL xs ∧ 0 < n ∧ n ≤ 10 ^ 40 ∧ ∀ (v : Int) (ys : List Sl), 0 ≤ v → v < n → DrawL ys → Q (.int v) (um M p (.lst ys))
/-- a def that draws something of a sort -/
def A_gen (R : List PyData → Prop) (P : List PyData → PyData → Prop) : ASp := fun ss M Q => ∃ (p : Addr) (xs : List Sl) (ds : List PyData), ss = .ref p :: ds.map .dat ∧ R ds ∧ M p = some (.lst xs) ∧ DrawL xs ∧ ∀ d ys, P ds d → DrawL ys → Q (.dat d) (um M p (.lst ys))
theorem a_next {M : MH} {p : Addr} {n : Int} {ys : List Sl} {Q : Sl → MH → Prop} (hD : DrawL ys) (h0 : 0 < n) (h1 : n ≤ 10 ^ 40) (q : ∀ (v : Int) (zs : List Sl), 0 ≤ v → v < n → DrawL zs → Q (.int v) (um M p (.lst zs))) : A_next [.ref p, .int n] (um M p (.lst ys)) Q :=
  ⟨p, n, ys, rfl, um_same, hD, h0, h1, fun v zs a b c => by rw [um_um]; exact q v zs a b c⟩
theorem a_gen {R : List PyData → Prop} {P : List PyData → PyData → Prop} {M : MH} {p : Addr} {ys : List Sl} {Q : Sl → MH → Prop} (hD : DrawL ys) (ds : List PyData) (hR : R ds) (q : ∀ d zs, P ds d → DrawL zs → Q (.dat d) (um M p (.lst zs))) : A_gen R P (.ref p :: ds.map .dat) (um M p (.lst ys)) Q :=
  ⟨p, ys, ds, rfl, hR, um_same, hD, fun d zs a b => by rw [um_um]; exact q d zs a b⟩
/-- a draw with no more to be told -/
theorem a_gen0 {R : List PyData → Prop} {P : List PyData → PyData → Prop} {M : MH} {p : Addr} {ys : List Sl} {Q : Sl → MH → Prop} (hD : DrawL ys) (hR : R []) (q : ∀ d zs, P [] d → DrawL zs → Q (.dat d) (um M p (.lst zs))) : A_gen R P [.ref p] (um M p (.lst ys)) Q := a_gen hD [] hR q
theorem a_gen1 {R : List PyData → Prop} {P : List PyData → PyData → Prop} {M : MH} {p : Addr} {ys : List Sl} {Q : Sl → MH → Prop} {x : PyData} (hD : DrawL ys) (hR : R [x]) (q : ∀ d zs, P [x] d → DrawL zs → Q (.dat d) (um M p (.lst zs))) : A_gen R P [.ref p, .dat x] (um M p (.lst ys)) Q := a_gen hD [x] hR q
section
variable {K : KX} {ρ : Rho} {M : MH} {Q Q' : Sl → MH → Prop} {ta tb te tc to : TE}
/-- [te for _ in range(n)], te a draw -/
theorem w_lcGen {t : TA} {j : Nat} {vs : List Nat} {p : Addr} (hj : j ∈ vs) (P : PyData → Prop)
    (hl : WA K t ρ M fun ss M1 => ∃ (n : Int) (M0 : MH) (ys : List Sl), ss = [.int n] ∧ M1 = um M0 p (.lst ys) ∧ DrawL ys ∧ n ≤ 1000000 ∧ -1000000 ≤ n ∧
      (∀ (i : Nat) M2 zs, (i : Int) < n → DrawL zs → W K te ((wipeR ρ vs).set j (some (.int (i : Int)))) (um M2 p (.lst zs)) fun s M4 => ∃ d us, s = .dat d ∧ M4 = um M2 p (.lst us) ∧ DrawL us ∧ P d) ∧
      ∀ ds zs, DrawL zs → ds.length = n.toNat → (∀ d ∈ ds, P d) → Q (.dat (.list ds)) (um M0 p (.lst zs))) : W K (tLc (iRng1 t) (gName j) tYes te vs) ρ M Q :=
  w_lc hj (wi_r1 fun σ B H hR hS Q0 k => hl σ B H hR hS Q0 fun ss ws M' B' H' ⟨n, M0, ys, e1, e2, hD, hn, hn', hs, q⟩ => by
    subst e1 e2
    refine k _ ws _ B' H' ⟨n, rfl, by omega, by omega, fun i acc M2 => ∃ zs, M2 = um M0 p (.lst zs) ∧ DrawL zs ∧ acc.length = i ∧ ∀ d ∈ acc, P d, ⟨ys, rfl, hD, rfl, fun d hd => (nomatch hd)⟩, fun _ _ _ _ _ _ _ _ => trivial, ?_, ?_⟩
    · rintro i acc M2 D hi ⟨zs, rfl, hz, hl, hP⟩ hDn
      refine wt_yes ?_
      have hne : p ≠ D := fun e => by rw [← e, um_same] at hDn; cases hDn
      rw [um_comm hne]
      refine (hs i _ zs (by omega) hz).imp fun s M4 ⟨d, us, e1, e2, hu, hp⟩ => ⟨d, um M0 p (.lst us), e1, ?_, ?_, by omega, us, rfl, hu, by rw [List.length_append, hl]; rfl, fun d' hd' => ?_⟩
      · rw [e2, um_comm hne.symm]
      · rw [um_ne hne.symm] at hDn ⊢
        exact hDn
      · rcases List.mem_append.mp hd' with h | h
        · exact hP d' h
        · rw [List.mem_singleton.mp h]; exact hp
    · rintro acc M2 ⟨zs, rfl, hz, hl, hP⟩
      exact q acc zs hz hl hP)
/-- a comprehension whose list will be changed -/
theorem w_lcM {wi : TI} {tt : TT} {j : Nat} {vs : List Nat} (hj : j ∈ vs) (h : WI K wi ρ M fun n item stay M1 => ∃ J : Nat → List PyData → MH → Prop, J 0 [] M1 ∧ (∀ i acc M', i ≤ n → J i acc M' → ∀ D o, M' D = none → stay (um M' D o)) ∧
    (∀ i acc M' D, i < n → J i acc M' → M' D = none → WT K tt ((wipeR ρ vs).set j (some (item i))) (um M' D (.lst (acc.map .dat))) fun b M3 =>
      if b = true then W K te ((wipeR ρ vs).set j (some (item i))) M3 fun s M4 => ∃ d M5, s = .dat d ∧ M4 = um M5 D (.lst (acc.map .dat)) ∧ M5 D = none ∧ acc.length < 1000000 ∧ J (i + 1) (acc ++ [d]) M5
      else ∃ M5, M3 = um M5 D (.lst (acc.map .dat)) ∧ M5 D = none ∧ J (i + 1) acc M5) ∧
    ∀ acc M' D, J n acc M' → M' D = none → Q (.raw (.ref D)) (um M' D (.lst (acc.map .dat)))) : W K (tLc wi (gName j) tt te vs) ρ M Q := fun σ B H hR hS Q0 k =>
  h σ B H hR hS _ fun n item stay M1 B1 H1 It ⟨J, j0, js, jt, je⟩ e1 S1 ok => fun D hD => by
    have hwp : ∀ x, wipe ((wipe σ vs).set j (some x)) vs = wipe σ vs := fun x => by rw [wipe_set _ _ _ _ hj, wipe_wipe]
    refine ⟨fun i m H' => m = n - i ∧ i ≤ n ∧ ∃ acc M' B', J i acc M' ∧ M' D = none ∧ Same B1 B' ∧ Sep K B' (um M' D (.lst (acc.map .dat))) H', ⟨n, by simp, Nat.zero_le _, [], M1, B1, j0, S1.freeM hD, Same.refl _, S1.new hD ⟨[], rfl, .nil⟩⟩, ?_⟩
    rintro i m H' ⟨rfl, hi, acc, M', B', hj', hMD, e2, S2⟩
    by_cases hlt : i < n
    · refine .inr ⟨ok.go i B' _ H' hlt e2 S2 (js i acc M' hi hj' D _ hMD), fun H2 => ∃ acc M2 B2, J (i + 1) acc M2 ∧ M2 D = none ∧ Same B1 B2 ∧ Sep K B2 (um M2 D (.lst (acc.map .dat))) H2, fun H2 ⟨acc, M2, B2, q⟩ => ⟨n - (i + 1), by omega, rfl, hlt, acc, M2, B2, q⟩, fun x H3 y => ?_⟩
      obtain ⟨B3, e3, S3, o3⟩ := ok.yld i B' _ H' x H3 hlt e2 S2 (js i acc M' hi hj' D _ hMD) y
      refine ⟨hwp x, ?_⟩
      have R3 : Rl K B3 ((wipe σ vs).set j (some x)) ((wipeR ρ vs).set j (some (item i))) := Rl.put o3 j ((hR.mono ((e1.trans e2).trans e3)).wiped vs)
      refine jt i acc M' D hlt hj' hMD _ B3 H3 R3 S3 _ fun b M4 B4 H4 q4 e4 S4 => ?_
      have e14 := (e2.trans e3).trans e4
      cases b with
      | true =>
        refine q4 _ B4 H4 (R3.mono e4) S4 _ fun s v M5 B5 H5 ⟨d, M6, es, em, hn6, hl6, hj6⟩ e5 S5 o5 => ?_
        subst es em
        obtain ⟨_, u, hu, ws, rfl, ha⟩ := S5.has D _ um_same
        have hlen := SlAll.len ha
        rw [List.length_map] at hlen
        refine ⟨ws, hu, Nat.lt_of_lt_of_le (by omega) (show 1000000 ≤ sizeLine by decide), acc ++ [d], M6, B5, hj6, hn6, e14.trans e5, ?_⟩
        have S6 := S5.put (u := .lst (ws ++ [v])) (o' := .lst ((acc ++ [d]).map .dat)) um_same ⟨_, rfl, by rw [List.map_append]; exact SlAll.app ha (.cons o5 .nil)⟩
        rw [um_um] at S6
        exact S6
      | false =>
        obtain ⟨M5, em, hn5, hj5⟩ := q4
        subst em
        exact ⟨acc, M5, B4, hj5, hn5, e14, S4⟩
    · have ei : i = n := by omega
      subst ei
      refine .inl ⟨ok.stop i B' _ H' (Nat.le_refl _) e2 S2 (js i acc M' hi hj' D _ hMD), ?_⟩
      exact k _ _ _ B' H' (je acc M' D hj' hMD) (e1.trans e2) S2 slok_ref
theorem w_lcT {α : Type} {enc : α → PyData} {xs : List α} {tl : TE} {j : Nat} {vs : List Nat} {M1 : MH} (hj : j ∈ vs) (hl : W K tl ρ M fun s M2 => s = .dat (.tuple (xs.map enc)) ∧ M2 = M1) (hz : xs.length ≤ 1000000) (f : α → PyData)
    (he : ∀ x D o, x ∈ xs → M1 D = none → W K te ((wipeR ρ vs).set j (some (.dat (enc x)))) (um M1 D o) fun s M' => s = .dat (f x) ∧ M' = um M1 D o) (q : Q (.dat (.list (xs.map f))) M1) : W K (tLc (iTup K tl) (gName j) tYes te vs) ρ M Q :=
  w_lc hj (wi_tup (hl.imp fun s M2 ⟨e1, e2⟩ => by
    subst e1 e2
    refine ⟨_, tpv_dat, fun i acc M' => M' = M2 ∧ acc = (xs.take i).map f, ⟨rfl, by simp⟩, fun _ _ _ _ _ _ _ _ => trivial, fun i acc M' D hi ⟨eM, ea⟩ hD => ?_, fun acc M' ⟨eM, ea⟩ => ?_⟩
    · subst eM ea
      have hi' : i < xs.length := by simpa using hi
      refine wt_yes ?_
      show W K te ((wipeR ρ vs).set j (some (((xs.map enc).map Sl.dat).getD i .non))) _ _
      rw [getD_map hi']
      refine (he xs[i] D _ (List.getElem_mem hi') hD).imp fun s M' ⟨e1, e2⟩ => ⟨f xs[i], _, e1, e2, hD, ?_, rfl, ?_⟩
      · rw [List.length_map, List.length_take]
        omega
      · rw [List.take_succ_eq_append_getElem hi', List.map_append]
        rfl
    · subst eM ea
      rw [List.length_map, List.length_map, List.take_length]
      exact q))
/-- for _ in range(n), n found on the way -/
theorem ws_forRn {nx bk ct : Rho → MH → Prop} {rt : Sl → MH → Prop} {t : TA} {g : TG} {tb : TS} (h : WA K t ρ M fun xs M1 => ∃ n : Int, xs = [.int n] ∧ -(2 ^ 62) ≤ n ∧ n < 2 ^ 62 ∧ ∃ J : Nat → Rho → MH → Prop, J 0 ρ M1 ∧
    (∀ (i : Nat) ρ' M', (i : Int) < n → J i ρ' M' → WG K g (.int (i : Int)) ρ' M' fun ρ2 M2 => WS K tb ρ2 M2 ⟨J (i + 1), rt, nx, J (i + 1)⟩) ∧ ∀ ρ' M', J n.toNat ρ' M' → nx ρ' M') : WS K (tFor (iRng1 t) g tb) ρ M ⟨nx, rt, bk, ct⟩ :=
  ws_for (wi_r1 fun σ B H hR hS Q0 k => h σ B H hR hS Q0 fun ss vs M' B' H' ⟨n, e1, h1, h2, J, j0, js, je⟩ => by
    subst e1
    exact k _ vs _ B' H' ⟨n, rfl, h1, h2, J, j0, fun _ _ _ _ _ => trivial, fun i ρ' M' hi hj => js i ρ' M' (by omega) hj, je⟩)
theorem w2_ixAny {K : PySem.W.Frag} {ds : List PyData} {i : Int} (h0 : 0 ≤ i) (h : i < ds.length) (q : ∀ d ∈ ds, Q (.dat d) M) : W2 K (rIxL K) (.dat (.list ds)) (.int i) M Q := by
  have hi : i.toNat < ds.length := by omega
  refine w2_ixL (x := .dat ds[i.toNat]) lsv_dat ?_ (q _ (List.getElem_mem hi))
  rw [atI_map, atI_ok h0 (List.getElem?_eq_getElem hi)]
  rfl
theorem cutG_all {α : Type} {xs : List α} {lo hi : Option Int} (h : HT.sIx xs.length 0 lo = 0 ∧ HT.sIx xs.length xs.length hi = xs.length) : cutG xs lo hi = xs := by
  unfold cutG
  rw [h.1, h.2]
  simp
theorem wsl_tup {K : PySem.W.Frag} {ds : List PyData} {lo hi : Option Int} (q : Q (.dat (.tuple (cutG ds lo hi))) M) : WSl K (rSlA K) (.dat (.tuple ds)) lo hi M Q := fun B H v hS o Q0 k => by
  obtain ⟨a, vs, rfl, hq, ha⟩ := (tpv_dat (ds := ds)).get hS o
  have hl := DqAll.length (dpa_of ha)
  refine ⟨a, vs, rfl, hq, fun hw => ?_, fun hw p hp => ?_⟩
  · rw [hl] at hw
    rw [cutG_all hw] at q
    exact k _ _ M B H q (Same.refl B) hS o
  · exact k _ _ M (upd B p (.tup (cutV vs lo hi))) _ q (same_new (hS.freeB hp)) (hS.alloc hp) (tup_ok (dpa_cut (dpa_of ha) lo hi) (hS.freeB hp))
theorem w2_catT {K : PySem.W.Frag} {ds es : List PyData} (hl : ds.length + es.length ≤ 1000000) (q : Q (.dat (.tuple (ds ++ es))) M) : W2 K (rCatA K) (.dat (.tuple ds)) (.dat (.tuple es)) M Q := fun B H v w hS o1 o2 Q0 k => by
  obtain ⟨a, vs, rfl, hq, ha⟩ := (tpv_dat (ds := ds)).get hS o1
  obtain ⟨b, ws, rfl, hq2, ha2⟩ := (tpv_dat (ds := es)).get hS o2
  have l1 := DqAll.length (dpa_of ha)
  have l2 := DqAll.length (dpa_of ha2)
  refine ⟨a, b, vs, ws, rfl, rfl, hq, hq2, Nat.le_trans (by omega) (show 1000000 ≤ sizeLine by decide), fun e => ?_, fun _ e => ?_, fun _ _ p hp => ?_⟩
  · subst e
    cases ds with
    | nil => exact k _ _ M B H q (Same.refl B) hS o2
    | cons _ _ => cases l1
  · subst e
    cases es with
    | nil => rw [List.append_nil] at q; exact k _ _ M B H q (Same.refl B) hS o1
    | cons _ _ => cases l2
  · exact k _ _ M (upd B p (.tup (vs ++ ws))) _ q (same_new (hS.freeB hp)) (hS.alloc hp) (tup_ok (DqAll.app (dpa_of ha) (dpa_of ha2)) (hS.freeB hp))
theorem wl_min {K : PySem.W.Frag} {i j : Int} (q : Q (.int (if j < i then j else i)) M) : WL K (fun xs H Q => ∃ i j, xs = [.int i, .int j] ∧ Q (.int (if j < i then j else i)) H) [.dat (.int i), .dat (.int j)] M Q := fun B H vs hS o Q0 k => by
  cases o with
  | cons o1 o2 => cases o2 with
    | cons o2 o3 =>
      cases o3
      exact ⟨i, j, by rw [of_int o1, of_int o2], k _ _ M B H q (Same.refl B) hS slok_int⟩
end
end Ab
set_option Elab.async false
set_option linter.all false
set_option maxRecDepth 1000000
set_option  maxHeartbeats 4000000
namespace L2
open PySem PySem.Spec PyProof.Rows
end L2
namespace Ab
open PySem PySem.Spec PyProof.Rows L2
abbrev ASpX := List Sl → MH → (Sl → MH → Prop) → (Value → Option Addr → MH → Prop) → Prop
def concX (K : PySem.W.Frag) (A : ASpX) : Sp := fun vs H Q E => ∃ (B : Hp) (M : MH) (ss : List Sl) (QA : Sl → MH → Prop) (XA : Value → Option Addr → MH → Prop), Sep K B M H ∧ SlAll K B vs ss ∧ A ss M QA XA ∧
  (∀ s v M' B' H', QA s M' → Same B B' → Sep K B' M' H' → SlOk K B' v s → Q v H') ∧ ∀ C d M' B' H', XA C d M' → Same B B' → Sep K B' M' H' → E C d H'
/-- one that raises nothing, read so -/
abbrev noX (A : ASp) : ASpX := fun ss M Q _ => A ss M Q
section
variable {K : KX} {ρ : Rho} {M : MH} {Q Q' : Sl → MH → Prop} {ta tb te tc : TE} {P : AE} {nx bk ct : Rho → MH → Prop} {rt : Sl → MH → Prop}
theorem conc_x {F : PySem.W.Frag} {A : ASpX} {vs : List V} {H : Hp} {Q0 : VK} {E : XK} {B : Hp} {M : MH} {ss : List Sl} {QA : Sl → MH → Prop} {XA : Value → Option Addr → MH → Prop} (S : Sep F B M H) (o : SlAll F B vs ss) (h : A ss M QA XA)
    (k : ∀ s v M' B' H', QA s M' → Same B B' → Sep F B' M' H' → SlOk F B' v s → Q0 v H') (x : ∀ C d M' B' H', XA C d M' → Same B B' → Sep F B' M' H' → E C d H') : concX F A vs H Q0 E := ⟨B, M, ss, QA, XA, S, o, h, k, x⟩
theorem w_callX {A : ASpX} {t : TA} (h : WA K t ρ M fun ss M1 => A ss M1 Q fun C d M2 => K.X C d ρ M2) : W K (tCallSD (concX K.K A) [] (WE K.W) t) ρ M Q := fun σ B H hR hS Q0 k =>
  h σ B H hR hS _ fun ss vs M1 B1 H1 q e1 S1 o1 => conc_x S1 (by rw [List.append_nil]; exact o1) q (fun s v M2 B2 H2 q2 e2 S2 o2 => k s v M2 B2 H2 q2 (e1.trans e2) S2 o2)
    (fun C d M2 B2 H2 x e2 S2 => hR.x C d ρ M2 σ B2 H2 x (e1.trans e2) (hR.r.mono (e1.trans e2)) S2)
theorem slks_get {F : PySem.W.Frag} {B : Hp} {f : Str} {s : Sl} : ∀ {vs : List (Str × V)} {fs : List (Str × Sl)}, SlKs F B vs fs → fs.lookup f = some s → ∃ v, vs.lookup f = some v ∧ SlOk F B v s
  | _, _, .nil, e => nomatch e
  | (g, v) :: vs, (g', s') :: fs, .cons ⟨h1, h2⟩ t, e => by
    cases h1
    rw [List.lookup_cons] at e ⊢
    cases hb : f == g with
    | true => rw [hb] at e; cases e; exact ⟨v, rfl, h2⟩
    | false => rw [hb] at e; exact slks_get t e
theorem slks_none {F : PySem.W.Frag} {B : Hp} {f : Str} : ∀ {vs : List (Str × V)} {fs : List (Str × Sl)}, SlKs F B vs fs → fs.lookup f = none → vs.lookup f = none
  | _, _, .nil, _ => rfl
  | (g, v) :: vs, (g', s') :: fs, .cons ⟨h1, h2⟩ t, e => by
    cases h1
    rw [List.lookup_cons] at e ⊢
    cases hb : f == g with
    | true => rw [hb] at e; cases e
    | false => rw [hb] at e; exact slks_none t e
def putS (f : Str) (s : Sl) : List (Str × Sl) → List (Str × Sl)
  | [] => [(f, s)]
  | (g, x) :: r => if g = f then (g, s) :: r else (g, x) :: putS f s r
theorem slks_put {F : PySem.W.Frag} {B : Hp} {f : Str} {s : Sl} {v : V} (o : SlOk F B v s) : ∀ {vs : List (Str × V)} {fs : List (Str × Sl)}, SlKs F B vs fs → SlKs F B (putF f v vs) (putS f s fs)
  | _, _, .nil => .cons ⟨rfl, o⟩ .nil
  | (g, x) :: vs, (g', y) :: fs, .cons ⟨h1, h2⟩ t => by
    cases h1
    unfold putF putS
    by_cases e : g = f
    · rw [if_pos e, if_pos e]; exact .cons ⟨rfl, o⟩ t
    · rw [if_neg e, if_neg e]; exact .cons ⟨rfl, h2⟩ (slks_put o t)
theorem w_fld {f : Str} (h : W K ta ρ M fun s M1 => ∃ a C dx fs x, s = .raw (.ref a) ∧ M1 a = some (.ins C dx fs) ∧ Cls K.K C ∧ NoAttr K.K C f ∧ fs.lookup f = some x ∧ Q x M1) : W K (tFld K.K ta f) ρ M Q := fun σ B H hR hS Q0 k =>
  h σ B H hR hS _ fun s v M1 B1 H1 ⟨a, C, dx, fs, x, es, hM, c, n, l, q⟩ e1 S1 o1 => by
    subst es
    have ev : v = .ref a := o1
    subst ev
    obtain ⟨_, u, hu, vs, rfl, hv⟩ := S1.has a _ hM
    obtain ⟨y, hy, oy⟩ := slks_get hv l
    exact ⟨a, C, dx, vs, y, rfl, hu, c, n, hy, k x y M1 B1 H1 q e1 S1 oy⟩
theorem ws_fld {f : Str} (h : W K te ρ M fun s M1 => W K ta ρ M1 fun o M2 => ∃ a C dx fs, o = .raw (.ref a) ∧ M2 a = some (.ins C dx fs) ∧ Cls K.K C ∧ NoAttr K.K C f ∧ fs.length < 1000 ∧ nx ρ (um M2 a (.ins C dx (putS f s fs)))) : WS K (sFld K.K ta te f) ρ M ⟨nx, rt, bk, ct⟩ := fun σ B H D hR hS p1 p2 p3 p4 =>
  h σ B H hR hS _ fun s v M1 B1 H1 h1 e1 S1 o1 => h1 σ B1 H1 (hR.mono e1) S1 _ fun o w M2 B2 H2 ⟨a, C, dx, fs, eo, hM, c, n, hl, q⟩ e2 S2 o2 => by
    subst eo
    have ev : w = .ref a := o2
    subst ev
    obtain ⟨_, u, hu, vs, rfl, hv⟩ := S2.has a _ hM
    refine ⟨a, C, dx, vs, rfl, hu, c, n, by rw [Paired.length hv]; exact hl, ?_⟩
    exact p1 ρ _ σ B2 _ q (e1.trans e2) (hR.mono (e1.trans e2)) (S2.put hM ⟨_, rfl, slks_put (o1.mono e2) hv⟩)
theorem w_meth {C : Addr} {m : Str} {A : ASp} {E : XK} {t : TA} (h : W K ta ρ M fun s M1 => ∃ a dx fs, s = .raw (.ref a) ∧ M1 a = some (.ins C dx fs) ∧ fs.lookup m = none ∧ WA K t ρ M1 fun ss M2 => A (.raw (.ref a) :: ss) M2 Q) : W K (tMeth C m (conc K.K A) [] E ta t) ρ M Q := fun σ B H hR hS Q0 k =>
  h σ B H hR hS _ fun s v M1 B1 H1 ⟨a, dx, fs, es, hM, l, h1⟩ e1 S1 o1 => by
    subst es
    have ev : v = .ref a := o1
    subst ev
    obtain ⟨_, u, hu, vs, rfl, hv⟩ := S1.has a _ hM
    refine ⟨a, dx, vs, rfl, hu, slks_none hv l, ?_⟩
    exact h1 σ B1 H1 (hR.mono e1) S1 _ fun ss ws M2 B2 H2 q e2 S2 o2 => ⟨B2, M2, _, Q, S2, by rw [List.append_nil]; exact .cons rfl o2, q, fun s v M3 B3 H3 q3 e3 S3 o3 => k s v M3 B3 H3 q3 ((e1.trans e2).trans e3) S3 o3⟩
/-- a new instance -/
theorem sep_make {F : PySem.W.Frag} {B H : Hp} {M : MH} {x dx C : Addr} (S : Sep F B M H) (h1 : H x = none) (h2 : H dx = none) (hne : dx ≠ x) : Sep F (upd B dx (.own x)) (um M x (.ins C dx [])) (upd (upd H dx (.own x)) x (.ins C dx [])) :=
  (S.alloc h2).new (by rw [upd_ne hne.symm]; exact h1) ⟨[], rfl, .nil⟩
theorem w_make {C : Addr} {A : ASp} {E : XK} {t : TA} (h : WA K t ρ M fun ss M1 => ∀ x dx, M1 x = none → A (.raw (.ref x) :: ss) (um M1 x (.ins C dx [])) fun s M2 => s = .non ∧ Q (.raw (.ref x)) M2) : W K (tMake C (conc K.K A) [] E t) ρ M Q := fun σ B H hR hS Q0 k =>
  h σ B H hR hS _ fun ss vs M1 B1 H1 q e1 S1 o1 x dx hx hdx hne =>
    have e2 : Same B1 (upd B1 dx (.own x)) := same_new (S1.freeB hdx)
    ⟨_, _, _, _, sep_make S1 hx hdx hne, by rw [List.append_nil]; exact .cons rfl (o1.mono e2), q x dx (S1.freeM hx), fun s v M2 B2 H2 ⟨es, q2⟩ e3 S2 o2 => by
      subst es
      exact ⟨of_non o2, k _ _ M2 B2 H2 q2 ((e1.trans e2).trans e3) S2 slok_ref⟩⟩
theorem ws_tryOnly {c : Value} {tb : WX → TS} {ts : Addr → Value → Option Addr → TS} (X : Value → Option Addr → Rho → MH → Prop) (hb : ∀ W, WS ⟨K.K, W, X⟩ (tb W) ρ M ⟨nx, rt, bk, ct⟩)
    (hx : ∀ C d ρ' M', X C d ρ' M' → ∃ b, PySem.W.exmOne K.K C c = some b ∧ (b = true → ∀ a, WS K (ts a C d) ρ' M' ⟨nx, rt, bk, ct⟩) ∧ (b = false → K.X C d ρ' M')) :
    WS K (fun D σ H => tb (wOnly K.K c ts K.W D) D σ H) ρ M ⟨nx, rt, bk, ct⟩ := fun σ B H D hR hS p1 p2 p3 p4 => by
  refine hb _ σ B H D ⟨hR.r, fun C d ρ' M' σ' B' H' x e r S => ?_⟩ hS (fun ρ2 M2 σ2 B2 H2 q e2 R2 S2 => p1 ρ2 M2 σ2 B2 H2 q e2 ⟨R2.r, (hR.mono e2).x⟩ S2) p2 (fun ρ2 M2 σ2 B2 H2 q e2 R2 S2 => p3 ρ2 M2 σ2 B2 H2 q e2 ⟨R2.r, (hR.mono e2).x⟩ S2) (fun ρ2 M2 σ2 B2 H2 q e2 R2 S2 => p4 ρ2 M2 σ2 B2 H2 q e2 ⟨R2.r, (hR.mono e2).x⟩ S2)
  obtain ⟨b, h1, h2, h3⟩ := hx C d ρ' M' x
  refine ⟨b, h1, fun e1 a _ => ?_, fun e1 => hR.x C d ρ' M' σ' B' H' (h3 e1) e r S⟩
  exact h2 e1 a σ' B' H' D ⟨r, (hR.mono e).x⟩ S (fun ρ2 M2 σ2 B2 H2 q e2 => p1 ρ2 M2 σ2 B2 H2 q (e.trans e2)) (fun s v M2 B2 H2 q e2 => p2 s v M2 B2 H2 q (e.trans e2)) (fun ρ2 M2 σ2 B2 H2 q e2 => p3 ρ2 M2 σ2 B2 H2 q (e.trans e2)) (fun ρ2 M2 σ2 B2 H2 q e2 => p4 ρ2 M2 σ2 B2 H2 q (e.trans e2))
end
theorem ab_okX {K : PySem.W.Frag} {P : Program} {w : World} {mg : Str → Option Value} {base : Heap} {x qual : Str} {st : Stmt} {f : Addr} {fd : FuncData} {N ps : List Str} {k : Nat} {A : ASpX} (F : Fun K x qual st f fd) (S : FnScope N ps (defScope st))
    (hlen : ∀ ss M Q X, A ss M Q X → ss.length = ps.length)
    (hb : ∀ (cdv : Value) (Ar : Around) (outer : List Env) (s : Shared) (H : Hp) (E : XK), Room k (Ar.deeper (envOfC qual (defScope st) s.heap.objs.size f cdv)) →
      ∃ t, PSs (cxOf (L2.CX P w) P w K mg base N qual (defScope st) f cdv Ar outer s H E) (defBody st) t ∧
        ∀ ss M Q X, A ss M Q X → WS ⟨K, fun cls d _ H => E cls d H, fun C d _ M' => X C d M'⟩ t (rho0 N.length ss) M ⟨fun _ M' => Q .non M', Q, NoR, NoR⟩) :
    FnOk P w K mg base (L2.CX P w) (k + 1) f fd ps (concX K A) := by
  refine F.okX S (fun vs H Q E h => ?_) (fun cdv Ar outer s H vs Q E hr h => ?_)
  · obtain ⟨B, M, ss, QA, XA, hS, hv, ha, _⟩ := h
    rw [SlAll.len hv]
    exact hlen ss M QA XA ha
  · obtain ⟨B, M, ss, QA, XA, hS, hv, ha, hq, hxx⟩ := h
    obtain ⟨t, ht, hw⟩ := hb cdv Ar outer s H E hr
    refine ⟨t, ht, ?_⟩
    have hR : Rl0 K B (L2.start N vs) (rho0 N.length ss) := by
      unfold L2.start rho0
      rw [SlAll.len hv]
      exact rl_start _ hv
    exact hw ss M QA XA ha (L2.start N vs) B H ⟨fun _ H' => Q .non H', Q, _, _⟩ ⟨hR, fun C d _ M' _ B' H' q e _ S' => hxx C d M' B' H' q e S'⟩ hS (fun ρ' M' σ' B' H' q e _ S' => hq .non .non M' B' H' q e S' slok_non) (fun s v M' B' H' q e S' o => hq s v M' B' H' q e S' o) (fun _ _ _ _ _ z => z.elim) (fun _ _ _ _ _ z => z.elim)
end Ab
set_option Elab.async false
set_option linter.all false
set_option maxRecDepth 1000000
set_option  maxHeartbeats 4000000
namespace Ab
open PySem PySem.Spec PyProof.Rows L2
section
variable {κ β γ : Type} [DecidableEq κ]
def valG (kvs : List (κ × β)) (k : κ) : Option β := (kvs.find? fun kv => decide (kv.1 = k)).map (·.2)
def putG (kvs : List (κ × β)) (k : κ) (v : β) : List (κ × β) := if (kvs.any fun kv => decide (kv.1 = k)) = true then kvs.map (fun kv => if kv.1 = k then (kv.1, v) else kv) else kvs ++ [(k, v)]
def dropG (kvs : List (κ × β)) (k : κ) : List (κ × β) := kvs.filter fun kv => decide (kv.1 ≠ k)
def mergeG (kvs more : List (κ × β)) : List (κ × β) := more.foldl (fun acc kv => putG acc kv.1 kv.2) kvs
theorem valG_cons (k g : κ) (v : β) (r : List (κ × β)) : valG ((g, v) :: r) k = if g = k then some v else valG r k := by
  unfold valG
  rw [List.find?_cons]
  by_cases e : g = k <;> simp [e]
theorem valG_put (kvs : List (κ × β)) (k g : κ) (v : β) : valG (putG kvs k v) g = if k = g then some v else valG kvs g := by
  have key : ∀ l : List (κ × β), valG (l.map fun kv => if kv.1 = k then (kv.1, v) else kv) g = if k = g ∧ (l.any fun kv => decide (kv.1 = k)) = true then some v else valG l g := by
    intro l
    induction l with
    | nil => simp [valG]
    | cons p r ih =>
      obtain ⟨a, x⟩ := p
      rw [List.map_cons]
      by_cases e : a = k
      · subst e
        rw [if_pos rfl, valG_cons, ih, valG_cons]
        by_cases e2 : a = g <;> simp [e2]
      · rw [if_neg e, valG_cons, ih, valG_cons]
        by_cases e2 : a = g
        · subst e2
          have : ¬ k = a := fun q => e q.symm
          simp [this]
        · have ek : decide (a = k) = false := decide_eq_false e
          rw [List.any_cons, ek, Bool.false_or, if_neg e2, if_neg e2]
  have app : ∀ l : List (κ × β), (l.any fun kv => decide (kv.1 = k)) = false → valG (l ++ [(k, v)]) g = if k = g then some v else valG l g := by
    intro l
    induction l with
    | nil => intro _; rw [List.nil_append, valG_cons]
    | cons p r ih =>
      obtain ⟨a, x⟩ := p
      intro h
      rw [List.any_cons, Bool.or_eq_false_iff] at h
      have e : ¬ a = k := of_decide_eq_false h.1
      rw [List.cons_append, valG_cons, ih h.2, valG_cons]
      by_cases e2 : a = g
      · subst e2
        have : ¬ k = a := fun q => e q.symm
        simp [this]
      · simp [e2]
  unfold putG
  cases h : kvs.any fun kv => decide (kv.1 = k) with
  | true => rw [if_pos rfl, key, h]; simp
  | false => rw [if_neg Bool.false_ne_true, app kvs h]
end
section
variable {F : PySem.W.Frag} {B : Hp}
theorem slks_any {k : Key} : ∀ {vs : List (Key × V)} {kvs : List (Key × Sl)}, SlKs F B vs kvs → (vs.any fun kv => decide (kv.1 = k)) = kvs.any fun kv => decide (kv.1 = k)
  | _, _, .nil => rfl
  | _, _, .cons ⟨h, _⟩ t => by rw [List.any_cons, List.any_cons, slks_any t, h]
theorem slks_val {k : Key} : ∀ {vs : List (Key × V)} {kvs : List (Key × Sl)}, SlKs F B vs kvs → (∀ s, valG kvs k = some s → ∃ v, valV vs k = some v ∧ SlOk F B v s) ∧ (valG kvs k = none → valV vs k = none)
  | _, _, .nil => ⟨fun _ e => (nomatch e), fun _ => rfl⟩
  | (g, v) :: vs, (g', s') :: kvs, .cons ⟨h1, h2⟩ t => by
    cases h1
    obtain ⟨i1, i2⟩ := slks_val (k := k) t
    rw [valG_cons]
    by_cases e : g = k
    · rw [if_pos e, valV_pos e]
      exact ⟨fun s q => (by cases q; exact ⟨v, rfl, h2⟩), fun q => nomatch q⟩
    · rw [if_neg e, valV_neg e]
      exact ⟨i1, i2⟩
theorem slks_app {κ : Type} : ∀ {vs ws : List (κ × V)} {kvs lws : List (κ × Sl)}, SlKs F B vs kvs → SlKs F B ws lws → SlKs F B (vs ++ ws) (kvs ++ lws)
  | _, _, _, _, .nil, h => h
  | _, _, _, _, .cons h t, h' => .cons h (slks_app t h')
theorem slks_in {k : Key} {v : V} {s : Sl} (o : SlOk F B v s) : ∀ {vs : List (Key × V)} {kvs : List (Key × Sl)}, SlKs F B vs kvs → SlKs F B (vs.map fun kv => if kv.1 = k then (kv.1, v) else kv) (kvs.map fun kv => if kv.1 = k then (kv.1, s) else kv)
  | _, _, .nil => .nil
  | (g, x) :: vs, (g', y) :: kvs, .cons ⟨h1, h2⟩ t => by
    cases h1
    rw [List.map_cons, List.map_cons]
    refine .cons ?_ (slks_in o t)
    by_cases e : g = k
    · rw [if_pos e, if_pos e]; exact ⟨rfl, o⟩
    · rw [if_neg e, if_neg e]; exact ⟨rfl, h2⟩
theorem slks_putK {k : Key} {v : V} {s : Sl} (o : SlOk F B v s) {vs : List (Key × V)} {kvs : List (Key × Sl)} (h : SlKs F B vs kvs) : SlKs F B (putK vs k v) (putG kvs k s) := by
  unfold putK putG
  rw [slks_any h]
  split
  · exact slks_in o h
  · exact slks_app h (.cons ⟨rfl, o⟩ .nil)
theorem slks_drop {k : Key} : ∀ {vs : List (Key × V)} {kvs : List (Key × Sl)}, SlKs F B vs kvs → SlKs F B (dropK vs k) (dropG kvs k)
  | _, _, .nil => .nil
  | p :: ps, q :: qs, .cons h t => by
    have ih := slks_drop (k := k) t
    unfold dropK dropG at ih ⊢
    rw [List.filter_cons, List.filter_cons, h.1]
    split
    · exact .cons h ih
    · exact ih
theorem slks_merge : ∀ {ws : List (Key × V)} {lws : List (Key × Sl)}, SlKs F B ws lws → ∀ {vs : List (Key × V)} {kvs : List (Key × Sl)}, SlKs F B vs kvs → SlKs F B (mergeK vs ws) (mergeG kvs lws)
  | _, _, .nil, _, _, h => h
  | p :: ps, q :: qs, .cons h t, vs, kvs, h' => by
    show SlKs F B (mergeK (putK vs p.1 p.2) ps) (mergeG (putG kvs q.1 q.2) qs)
    refine slks_merge t ?_
    rw [h.1]
    exact slks_putK h.2 h'
end
def kS : Key → Sl
  | .inl i => .int i
  | .inr x => .str x
theorem of_kS {F : PySem.W.Frag} {B : Hp} {v : V} : ∀ {k : Key}, SlOk F B v (kS k) → v = kV k
  | .inl _, h => of_int h
  | .inr _, h => of_str h
def dicS (F : PySem.W.Frag) (kvs : List (Key × Sl)) : Sl := .abs (fun B v => ∃ a vs, v = .ref a ∧ Rd B a (.dK vs) ∧ SlKs F B vs kvs) fun _ _ _ e ⟨a, vs, h1, h2, h3⟩ => ⟨a, vs, h1, same_rd e h2, Paired.mapP h3 fun _ _ q => ⟨q.1, q.2.mono e⟩⟩
theorem kD_inj : ∀ {k l : Key}, kD k = kD l → k = l
  | .inl _, .inl _, h => by injection h with h; rw [h]
  | .inr _, .inr _, h => by injection h with h; rw [h]
  | .inl _, .inr _, h => nomatch h
  | .inr _, .inl _, h => nomatch h
/-- a dict as data -/
abbrev dKD (ys : List (Key × PyData)) : PyData := .dict (ys.map fun p => (kD p.1, p.2))
abbrev dKS (ys : List (Key × PyData)) : List (Key × Sl) := ys.map fun p => (p.1, .dat p.2)
theorem dqk_slks {F : PySem.W.Frag} {B : Hp} : ∀ {vs : List (Key × V)} {ys : List (Key × PyData)}, DqKs F B vs (ys.map fun p => (kD p.1, p.2)) → SlKs F B vs (dKS ys)
  | _, [], .nil => .nil
  | _, _ :: _, .cons q h t => .cons ⟨(kD_inj q).symm, h⟩ (dqk_slks t)
/-- a dict: one that changes, one that is walked, one that nobody changes -/
def DcV (F : PySem.W.Frag) (s : Sl) (M : MH) (kvs : List (Key × Sl)) : Prop := (∃ a, s = .raw (.ref a) ∧ (M a = some (.dK kvs) ∨ ∃ ob v, M a = some (.frz ob v (.dK kvs)))) ∨ s = dicS F kvs ∨ ∃ ys : List (Key × PyData), s = .dat (dKD ys) ∧ kvs = dKS ys
theorem dcv_ref {F : PySem.W.Frag} {a : Addr} {M : MH} {kvs : List (Key × Sl)} (h : M a = some (.dK kvs)) : DcV F (.raw (.ref a)) M kvs := .inl ⟨a, rfl, .inl h⟩
theorem dcv_frz {F : PySem.W.Frag} {a : Addr} {ob : Obj} {v : HO} {M : MH} {kvs : List (Key × Sl)} (h : M a = some (.frz ob v (.dK kvs))) : DcV F (.raw (.ref a)) M kvs := .inl ⟨a, rfl, .inr ⟨ob, v, h⟩⟩
theorem DcV.get {F : PySem.W.Frag} {s : Sl} {M : MH} {kvs : List (Key × Sl)} {B H : Hp} {v : V} (h : DcV F s M kvs) (S : Sep F B M H) (o : SlOk F B v s) : ∃ a vs, v = .ref a ∧ Rd H a (.dK vs) ∧ SlKs F B vs kvs := by
  rcases h with ⟨a, rfl, h | ⟨ob, w, h⟩⟩ | rfl | ⟨ys, rfl, rfl⟩
  · obtain ⟨_, u, hu, vs, rfl, hv⟩ := S.has a _ h
    exact ⟨a, vs, o, .inl hu, hv⟩
  · obtain ⟨_, u, hu, rfl, vs, rfl, hv⟩ := S.has a _ h
    exact ⟨a, vs, o, .inr ⟨ob, hu⟩, hv⟩
  · obtain ⟨a, vs, e, h1, h2⟩ := (show ∃ a vs, v = .ref a ∧ Rd B a (.dK vs) ∧ SlKs F B vs kvs from o)
    exact ⟨a, vs, e, same_rd S.sub h1, h2⟩
  · cases o with
    | dct h1 h2 => exact ⟨_, _, rfl, same_rd S.sub h1, dqk_slks h2⟩
section
variable {K : KX} {ρ : Rho} {M : MH} {Q Q' : Sl → MH → Prop} {ta tb te tc td ty tx tv : TE} {P : AE} {nx bk ct : Rho → MH → Prop} {rt : Sl → MH → Prop}
theorem isD_of {H : Hp} {a : Addr} {vs : List (Key × V)} (h : Rd H a (.dK vs)) : IsD H a := .inl ⟨vs, h⟩
theorem w_dnew (q : ∀ p, M p = none → Q (.raw (.ref p)) (um M p (.dK []))) : W K tDNewK ρ M Q := fun σ B H hR hS Q0 k p hp => k _ _ _ B _ (q p (hS.freeM hp)) (Same.refl B) (hS.new hp ⟨[], rfl, .nil⟩) slok_ref
/-- d[k] -/
theorem w_dget (h : W K td ρ M fun s M1 => W K ty ρ M1 fun y M2 => ∃ kvs k x, DcV K.K s M2 kvs ∧ y = kS k ∧ valG kvs k = some x ∧ Q x M2) : W K (tDGet td ty) ρ M Q := fun σ B H hR hS Q0 q0 =>
  h σ B H hR hS _ fun s v M1 B1 H1 h1 e1 S1 o1 => h1 σ B1 H1 (hR.mono e1) S1 _ fun y w M2 B2 H2 ⟨kvs, k, x, hd, ey, hv, q⟩ e2 S2 o2 => by
    subst ey
    obtain ⟨a, vs, rfl, hr, hk⟩ := hd.get S2 (o1.mono e2)
    obtain ⟨z, hz, oz⟩ := (slks_val hk).1 _ hv
    exact ⟨a, z, rfl, .inl ⟨vs, k, hr, of_kS o2, hz.symm⟩, q0 x z M2 B2 H2 q (e1.trans e2) S2 oz⟩
/-- k in d -/
theorem w_din (h : W K ty ρ M fun y M1 => W K td ρ M1 fun s M2 => ∃ kvs k, DcV K.K s M2 kvs ∧ y = kS k ∧ Q (.bl (valG kvs k).isSome) M2) : W K (tDIn ty td) ρ M Q := fun σ B H hR hS Q0 q0 =>
  h σ B H hR hS _ fun y w M1 B1 H1 h1 e1 S1 o1 => h1 σ B1 H1 (hR.mono e1) S1 _ fun s v M2 B2 H2 ⟨kvs, k, hd, ey, q⟩ e2 S2 o2 => by
    subst ey
    obtain ⟨a, vs, rfl, hr, hk⟩ := hd.get S2 o2
    obtain ⟨i1, i2⟩ := slks_val (k := k) hk
    have e : (valV vs k).isSome = (valG kvs k).isSome := by
      cases hv : valG kvs k with
      | none => rw [i2 hv]; rfl
      | some s => obtain ⟨z, hz, _⟩ := i1 s hv; rw [hz]; rfl
    exact ⟨a, valV vs k, rfl, .inl ⟨vs, k, hr, of_kS (o1.mono e2), rfl⟩, by rw [e]; exact q0 _ _ M2 B2 H2 q (e1.trans e2) S2 slok_bl⟩
theorem w_dnotIn (h : W K ty ρ M fun y M1 => W K td ρ M1 fun s M2 => ∃ kvs k, DcV K.K s M2 kvs ∧ y = kS k ∧ Q (.bl (!(valG kvs k).isSome)) M2) : W K (tDNotIn ty td) ρ M Q := fun σ B H hR hS Q0 q0 =>
  h σ B H hR hS _ fun y w M1 B1 H1 h1 e1 S1 o1 => h1 σ B1 H1 (hR.mono e1) S1 _ fun s v M2 B2 H2 ⟨kvs, k, hd, ey, q⟩ e2 S2 o2 => by
    subst ey
    obtain ⟨a, vs, rfl, hr, hk⟩ := hd.get S2 o2
    obtain ⟨i1, i2⟩ := slks_val (k := k) hk
    have e : (valV vs k).isSome = (valG kvs k).isSome := by
      cases hv : valG kvs k with
      | none => rw [i2 hv]; rfl
      | some s => obtain ⟨z, hz, _⟩ := i1 s hv; rw [hz]; rfl
    exact ⟨a, valV vs k, rfl, .inl ⟨vs, k, hr, of_kS (o1.mono e2), rfl⟩, by rw [e]; exact q0 _ _ M2 B2 H2 q (e1.trans e2) S2 slok_bl⟩
/-- d.get(k, x) -/
theorem w_dget2 (h : W K td ρ M fun s M1 => (∃ kvs, DcV K.K s M1 kvs) ∧ W K ty ρ M1 fun y M2 => W K tx ρ M2 fun z M3 => ∃ kvs k, DcV K.K s M3 kvs ∧ y = kS k ∧ Q ((valG kvs k).getD z) M3) : W K (tDGet2 td ty tx) ρ M Q := fun σ B H hR hS Q0 q0 =>
  h σ B H hR hS _ fun s v M1 B1 H1 ⟨⟨kvs0, hd0⟩, h1⟩ e1 S1 o1 => by
    obtain ⟨a, vs0, rfl, hr0, _⟩ := hd0.get S1 o1
    refine ⟨a, rfl, isD_of hr0, h1 σ B1 H1 (hR.mono e1) S1 _ fun y w M2 B2 H2 h2 e2 S2 o2 => h2 σ B2 H2 (hR.mono (e1.trans e2)) S2 _ fun z u M3 B3 H3 ⟨kvs, k, hd, ey, q⟩ e3 S3 o3 => ?_⟩
    subst ey
    obtain ⟨a', vs, ea, hr, hk⟩ := hd.get S3 (o1.mono (e2.trans e3))
    cases ea
    refine ⟨valV vs k, .inl ⟨vs, k, hr, of_kS (o2.mono e3), rfl⟩, ?_⟩
    obtain ⟨i1, i2⟩ := slks_val (k := k) hk
    cases hv : valG kvs k with
    | none => rw [hv] at q; rw [i2 hv]; exact q0 z u M3 B3 H3 q ((e1.trans e2).trans e3) S3 o3
    | some s => rw [hv] at q; obtain ⟨t, ht, ot⟩ := i1 s hv; rw [ht]; exact q0 s t M3 B3 H3 q ((e1.trans e2).trans e3) S3 ot
/-- d[k] = v -/
theorem ws_dput (h : W K tv ρ M fun s M1 => W K td ρ M1 fun o M2 => W K ty ρ M2 fun y M3 => ∃ a kvs k, o = .raw (.ref a) ∧ y = kS k ∧ M3 a = some (.dK kvs) ∧ kvs.length < 1000000 ∧ nx ρ (um M3 a (.dK (putG kvs k s)))) : WS K (sDPut td ty tv) ρ M ⟨nx, rt, bk, ct⟩ := fun σ B H D hR hS p1 p2 p3 p4 =>
  h σ B H hR hS _ fun s v M1 B1 H1 h1 e1 S1 o1 => h1 σ B1 H1 (hR.mono e1) S1 _ fun o w M2 B2 H2 h2 e2 S2 o2 => h2 σ B2 H2 (hR.mono (e1.trans e2)) S2 _ fun y u M3 B3 H3 ⟨a, kvs, k, eo, ey, hM, hl, q⟩ e3 S3 o3 => by
    subst eo ey
    have ew : w = .ref a := o2
    subst ew
    obtain ⟨_, t, ht, vs, rfl, hv⟩ := S3.has a _ hM
    refine ⟨a, _, rfl, .inl ⟨vs, k, ht, of_kS o3, by rw [Paired.length hv]; exact Nat.lt_of_lt_of_le hl (show 1000000 ≤ sizeLine by decide), rfl⟩, ?_⟩
    exact p1 ρ _ σ B3 _ q ((e1.trans e2).trans e3) (hR.mono ((e1.trans e2).trans e3)) (S3.put hM ⟨_, rfl, slks_putK (o1.mono (e2.trans e3)) hv⟩)
/-- d.setdefault(k, x) -/
theorem w_dsetd (h : W K td ρ M fun s M1 => ∃ a, s = .raw (.ref a) ∧ (∃ kvs, M1 a = some (.dK kvs)) ∧ W K ty ρ M1 fun y M2 => W K tx ρ M2 fun z M3 => ∃ kvs k, M3 a = some (.dK kvs) ∧ y = kS k ∧ kvs.length < 1000000 ∧
    (∀ x, valG kvs k = some x → Q x M3) ∧ (valG kvs k = none → Q z (um M3 a (.dK (putG kvs k z))))) : W K (tDSetd td ty tx) ρ M Q := fun σ B H hR hS Q0 q0 =>
  h σ B H hR hS _ fun s v M1 B1 H1 ⟨a, es, ⟨kvs0, hM0⟩, h1⟩ e1 S1 o1 => by
    subst es
    have ev : v = .ref a := o1
    subst ev
    obtain ⟨_, t0, ht0, vs0, rfl, _⟩ := S1.has a _ hM0
    refine ⟨a, rfl, isD_of (.inl ht0), h1 σ B1 H1 (hR.mono e1) S1 _ fun y w M2 B2 H2 h2 e2 S2 o2 => h2 σ B2 H2 (hR.mono (e1.trans e2)) S2 _ fun z u M3 B3 H3 ⟨kvs, k, hM, ey, hl, q1, q2⟩ e3 S3 o3 => ?_⟩
    subst ey
    obtain ⟨_, t, ht, vs, rfl, hv⟩ := S3.has a _ hM
    obtain ⟨i1, i2⟩ := slks_val (k := k) hv
    have e13 := (e1.trans e2).trans e3
    refine ⟨vs, k, ht, of_kS (o2.mono e3), by rw [Paired.length hv]; exact Nat.lt_of_lt_of_le hl (show 1000000 ≤ sizeLine by decide), fun x hx => ?_, fun hn => ?_⟩
    · cases hg : valG kvs k with
      | none => rw [i2 hg] at hx; cases hx
      | some s =>
        obtain ⟨x', hx', ox⟩ := i1 s hg
        rw [hx] at hx'
        cases hx'
        exact q0 s x M3 B3 H3 (q1 s hg) e13 S3 ox
    · cases hg : valG kvs k with
      | none => exact q0 z u _ B3 _ (q2 hg) e13 (S3.put hM ⟨_, rfl, slks_putK o3 hv⟩) o3
      | some s => obtain ⟨x', hx', _⟩ := i1 s hg; rw [hn] at hx'; cases hx'
/-- d.pop(k, x) -/
theorem w_dpop2 (h : W K td ρ M fun s M1 => ∃ a, s = .raw (.ref a) ∧ (∃ kvs, M1 a = some (.dK kvs)) ∧ W K ty ρ M1 fun y M2 => W K tx ρ M2 fun z M3 => ∃ kvs k, M3 a = some (.dK kvs) ∧ y = kS k ∧
    (∀ x, valG kvs k = some x → Q x (um M3 a (.dK (dropG kvs k)))) ∧ (valG kvs k = none → Q z M3)) : W K (tDPop2 td ty tx) ρ M Q := fun σ B H hR hS Q0 q0 =>
  h σ B H hR hS _ fun s v M1 B1 H1 ⟨a, es, ⟨kvs0, hM0⟩, h1⟩ e1 S1 o1 => by
    subst es
    have ev : v = .ref a := o1
    subst ev
    obtain ⟨_, t0, ht0, vs0, rfl, _⟩ := S1.has a _ hM0
    refine ⟨a, rfl, isD_of (.inl ht0), h1 σ B1 H1 (hR.mono e1) S1 _ fun y w M2 B2 H2 h2 e2 S2 o2 => h2 σ B2 H2 (hR.mono (e1.trans e2)) S2 _ fun z u M3 B3 H3 ⟨kvs, k, hM, ey, q1, q2⟩ e3 S3 o3 => ?_⟩
    subst ey
    obtain ⟨_, t, ht, vs, rfl, hv⟩ := S3.has a _ hM
    obtain ⟨i1, i2⟩ := slks_val (k := k) hv
    have e13 := (e1.trans e2).trans e3
    refine ⟨vs, k, ht, of_kS (o2.mono e3), fun x hx => ?_, fun hn => ?_⟩
    · cases hg : valG kvs k with
      | none => rw [i2 hg] at hx; cases hx
      | some s =>
        obtain ⟨x', hx', ox⟩ := i1 s hg
        rw [hx] at hx'
        cases hx'
        exact q0 s x _ B3 _ (q1 s hg) e13 (S3.put hM ⟨_, rfl, slks_drop hv⟩) ox
    · cases hg : valG kvs k with
      | none => exact q0 z u M3 B3 H3 (q2 hg) e13 S3 o3
      | some s => obtain ⟨x', hx', _⟩ := i1 s hg; rw [hn] at hx'; cases hx'
/-- {k: v, ..} -/
def WPs (K : KX) (trs : List (TE × TE)) (ρ : Rho) (M : MH) (Q : List (Sl × Sl) → MH → Prop) : Prop :=
  ∀ σ B H, Rl K B σ ρ → Sep K B M H → ∀ Q0 : List (V × V) → Hp → Prop, (∀ ss vs M' B' H', Q ss M' → Same B B' → Sep K B' M' H' → Paired (fun p q => SlOk K B' p.1 q.1 ∧ SlOk K B' p.2 q.2) vs ss → Q0 vs H') → tPairs trs σ H Q0
theorem wps_nil {Q : List (Sl × Sl) → MH → Prop} (q : Q [] M) : WPs K [] ρ M Q := fun σ B H hR hS Q0 k => k [] [] M B H q (Same.refl B) hS .nil
theorem wps_cons {trs : List (TE × TE)} {Q : List (Sl × Sl) → MH → Prop} (h : W K ta ρ M fun x M1 => W K tb ρ M1 fun y M2 => WPs K trs ρ M2 fun ps M3 => Q ((x, y) :: ps) M3) : WPs K ((ta, tb) :: trs) ρ M Q := fun σ B H hR hS Q0 k =>
  h σ B H hR hS _ fun x v M1 B1 H1 h1 e1 S1 o1 => h1 σ B1 H1 (hR.mono e1) S1 _ fun y w M2 B2 H2 h2 e2 S2 o2 => h2 σ B2 H2 (hR.mono (e1.trans e2)) S2 _ fun ss vs M3 B3 H3 q e3 S3 o3 =>
    k _ _ M3 B3 H3 q ((e1.trans e2).trans e3) S3 (.cons ⟨o1.mono (e2.trans e3), o2.mono e3⟩ o3)
theorem pairs_keys {F : PySem.W.Frag} {B : Hp} : ∀ {vs : List (V × V)} {ps : List (Key × Sl)}, Paired (fun p q => SlOk F B p.1 q.1 ∧ SlOk F B p.2 q.2) vs (ps.map fun p => (kS p.1, p.2)) → ∃ ws : List (Key × V), vs = ws.map (fun kv => (kV kv.1, kv.2)) ∧ SlKs F B ws ps
  | _, [], .nil => ⟨[], rfl, .nil⟩
  | (a, b) :: vs, (k, s) :: ps, .cons ⟨h1, h2⟩ t => by
    obtain ⟨ws, rfl, hw⟩ := pairs_keys t
    have e : a = kV k := of_kS h1
    subst e
    exact ⟨(k, b) :: ws, rfl, .cons ⟨rfl, h2⟩ hw⟩
theorem w_disp {trs : List (TE × TE)} (h : ∀ p, M p = none → WPs K trs ρ (um M p (.dK [])) fun ss M1 => M1 p = some (.dK []) ∧ ∃ ps : List (Key × Sl), ss = ps.map (fun p => (kS p.1, p.2)) ∧ ps.length ≤ 15 ∧ Q (.raw (.ref p)) (um M1 p (.dK (mergeG [] ps)))) : W K (tDisp trs) ρ M Q := fun σ B H hR hS Q0 k p hp =>
  h p (hS.freeM hp) σ B _ hR (hS.new hp ⟨[], rfl, .nil⟩) _ fun ss vs M1 B1 H1 ⟨hM, ps, es, hl, q⟩ e1 S1 o1 => by
    subst es
    obtain ⟨ws, rfl, hw⟩ := pairs_keys o1
    obtain ⟨_, t, ht, vs, rfl, hv⟩ := S1.has p _ hM
    cases hv
    exact ⟨ht, ws, rfl, by rw [Paired.length hw]; exact hl, k _ _ _ B1 _ q e1 (S1.put hM ⟨_, rfl, slks_merge hw .nil⟩) slok_ref⟩
end
end Ab
set_option Elab.async false
set_option linter.all false
set_option maxRecDepth 1000000
set_option  maxHeartbeats 4000000
namespace L2
open PySem PySem.Spec PyProof.Rows
/-- d.update(e), e a dict -/
def rUpdate : V → List V → Hp → VK → Prop := fun x xs H Q => ∃ (d o : Addr) (kvs more : List (Key × V)), x = .ref d ∧ xs = [.ref o] ∧ d ≠ o ∧ H d = some (.dK kvs) ∧ Rd H o (.dK more) ∧ kvs.length + more.length ≤ sizeLine ∧ Q .non (upd H d (.dK (mergeK kvs more)))
theorem len_mergeK : ∀ (more kvs : List (Key × V)), (mergeK kvs more).length ≤ kvs.length + more.length
  | [], _ => Nat.le_refl _
  | p :: more, kvs => by
    have h1 := len_mergeK more (putK kvs p.1 p.2)
    have h2 := length_putK kvs p.1 p.2
    show (mergeK (putK kvs p.1 p.2) more).length ≤ _
    rw [List.length_cons]
    omega
theorem mt_update {X : Cx} : MtR X "dict.update" rUpdate := fun pins s σ H x xs v us Q I rx rv ⟨d, o, kvs, more, e1, e2, hne, hd, ho, hz, q⟩ => by
  subst e1 e2
  cases rx
  obtain ⟨u, rfl, ru⟩ := vals1 rv
  cases ru
  obtain ⟨z1, _, vs, kv, dd⟩ := dk_of I.hok hd
  obtain ⟨z2, n2, ws, kw, dw⟩ := dk_rd I.hok ho
  refine call_meetsIn PySem.F.slot_dict_update dd.typeIs PySem.F.entry_dict_update (PySem.F.args_dict_update_2 _ _) (meets_dict_update (mixKind X.prog X.w) d o hne n2) ⟨vs, ws, dd, dw, by rw [← kv.length, ← kw.length]; exact hz, fun h' dd' _ hs => ?_⟩
  have has : ∃ q, h'.get? d = some q := let ⟨q, _, _, hq, _⟩ := dd'; ⟨q, hq⟩
  exact ⟨.non, _, d_write (t' := s.toks) I (by rw [hd]; exact True.intro) hs has (dk_new (Nat.le_trans (len_mergeK more kvs) hz) (dk_of I.hok hd).2.1 (KV.merge kw kv) dd'), rfl, q⟩
end L2
namespace Ab
open PySem PySem.Spec PyProof.Rows L2
section
variable {K : KX} {ρ : Rho} {M : MH} {Q Q' : Sl → MH → Prop} {ta tb te tc td ty tx tv : TE} {P : AE} {nx bk ct : Rho → MH → Prop} {rt : Sl → MH → Prop}
theorem wm_update {F : PySem.W.Frag} {M : MH} {a : Addr} {s : Sl} {kvs more : List (Key × Sl)} {Q : Sl → MH → Prop} (h : M a = some (.dK kvs)) (hs : DcV F s M more) (hne : s ≠ .raw (.ref a)) (hd : ∀ B H, Sep F B M H → SlOk F B (.ref a) s → False) (hl : kvs.length + more.length ≤ 1000000) (q : Q .non (um M a (.dK (mergeG kvs more)))) : WM F rUpdate (.raw (.ref a)) [s] M Q := fun B H v vs hS o1 o2 Q0 k => by
  have ev : v = .ref a := o1
  subst ev
  cases o2 with
  | cons o o2 =>
    cases o2
    obtain ⟨_, t, ht, us, rfl, hv⟩ := hS.has a _ h
    obtain ⟨b, ws, rfl, hr, hw⟩ := hs.get hS o
    refine ⟨a, b, us, ws, rfl, rfl, fun e => hd B H hS (by rw [e]; exact o), ht, hr, ?_, ?_⟩
    · rw [Paired.length hv, Paired.length hw]
      exact Nat.le_trans hl (show 1000000 ≤ sizeLine by decide)
    · exact k _ _ _ B _ q (Same.refl B) (hS.put h ⟨_, rfl, slks_merge hw hv⟩) slok_non
/-- d.update(e), two dicts that change -/
theorem wm_updateM {F : PySem.W.Frag} {M : MH} {a b : Addr} {kvs more : List (Key × Sl)} {Q : Sl → MH → Prop} (h : M a = some (.dK kvs)) (hb : M b = some (.dK more)) (hne : b ≠ a) (hl : kvs.length + more.length ≤ 1000000) (q : Q .non (um M a (.dK (mergeG kvs more)))) : WM F rUpdate (.raw (.ref a)) [.raw (.ref b)] M Q :=
  wm_update h (dcv_ref hb) (fun e => hne (by cases e; rfl)) (fun B H _ o => hne (by have e : V.ref a = .ref b := o; cases e; rfl)) hl q
/-- what the target makes of an item, the comprehension's own slots being vs -/
def LcT (F : PySem.W.Frag) (g : TG) (vs : List Nat) (s : Sl) (f : Rho → Rho) : Prop :=
  ∀ B H v σ ρ M, Sep F B M H → SlOk F B v s → Rl0 F B σ ρ → ∀ Q0 : L2.St → Hp → Prop, (∀ σ2, wipe σ2 vs = wipe σ vs → Rl0 F B σ2 (f ρ) → Q0 σ2 H) → g v σ H Q0
theorem lct_name {F : PySem.W.Frag} {j : Nat} {vs : List Nat} {s : Sl} (hj : j ∈ vs) : LcT F (gName j) vs s (fun ρ => ρ.set j (some s)) := fun B H v σ ρ M S o r Q0 k => k _ (wipe_set _ _ _ _ hj) (r.put o j)
theorem lct_two {F : PySem.W.Frag} {i j : Nat} {vs : List Nat} {x y : PyData} (hi : i ∈ vs) (hj : j ∈ vs) : LcT F (gTup F 2 (gCons (gName i) (gCons (gName j) gNil))) vs (.dat (.tuple [x, y])) (fun ρ => (ρ.set i (some (.dat x))).set j (some (.dat y))) := fun B H v σ ρ M S o r Q0 k => by
  obtain ⟨a, ws, rfl, hq, ha⟩ := (tpv_dat (ds := [x, y])).get S o
  cases ha with
  | cons o1 ha => cases ha with
    | cons o2 ha =>
      cases ha
      refine ⟨a, _, rfl, hq, rfl, _, _, rfl, ?_⟩
      refine ⟨_, _, rfl, rfl, ?_⟩
      exact k _ ((wipe_set _ _ _ _ hj).trans (wipe_set _ _ _ _ hi)) ((r.put o1 i).put o2 j)
theorem w_lcX {wi : TI} {tt : TT} {g : TG} {vs : List Nat} (h : WI K wi ρ M fun n item stay M1 => ∃ J : Nat → List PyData → MH → Prop, J 0 [] M1 ∧ (∀ i acc M', i ≤ n → J i acc M' → ∀ D o, M' D = none → stay (um M' D o)) ∧
    (∀ i acc M' D, i < n → J i acc M' → M' D = none → ∃ f, LcT K.K g vs (item i) f ∧ WT K tt (f (wipeR ρ vs)) (um M' D (.lst (acc.map .dat))) fun b M3 =>
      if b = true then W K te (f (wipeR ρ vs)) M3 fun s M4 => ∃ d M5, s = .dat d ∧ M4 = um M5 D (.lst (acc.map .dat)) ∧ M5 D = none ∧ acc.length < 1000000 ∧ J (i + 1) (acc ++ [d]) M5
      else ∃ M5, M3 = um M5 D (.lst (acc.map .dat)) ∧ M5 D = none ∧ J (i + 1) acc M5) ∧
    ∀ acc M' D, J n acc M' → M' D = none → Q (.raw (.ref D)) (um M' D (.lst (acc.map .dat)))) : W K (tLc wi g tt te vs) ρ M Q := fun σ B H hR hS Q0 k =>
  h σ B H hR hS _ fun n item stay M1 B1 H1 It ⟨J, j0, js, jt, je⟩ e1 S1 ok => fun D hD => by
    refine ⟨fun i m H' => m = n - i ∧ i ≤ n ∧ ∃ acc M' B', J i acc M' ∧ M' D = none ∧ Same B1 B' ∧ Sep K.K B' (um M' D (.lst (acc.map .dat))) H', ⟨n, by simp, Nat.zero_le _, [], M1, B1, j0, S1.freeM hD, Same.refl _, S1.new hD ⟨[], rfl, .nil⟩⟩, ?_⟩
    rintro i m H' ⟨rfl, hi, acc, M', B', hj', hMD, e2, S2⟩
    by_cases hlt : i < n
    · refine .inr ⟨ok.go i B' _ H' hlt e2 S2 (js i acc M' hi hj' D _ hMD), fun H2 => ∃ acc M2 B2, J (i + 1) acc M2 ∧ M2 D = none ∧ Same B1 B2 ∧ Sep K.K B2 (um M2 D (.lst (acc.map .dat))) H2, fun H2 ⟨acc, M2, B2, q⟩ => ⟨n - (i + 1), by omega, rfl, hlt, acc, M2, B2, q⟩, fun x H3 y => ?_⟩
      obtain ⟨B3, e3, S3, o3⟩ := ok.yld i B' _ H' x H3 hlt e2 S2 (js i acc M' hi hj' D _ hMD) y
      obtain ⟨f, hf, ht⟩ := jt i acc M' D hlt hj' hMD
      have hR3 := hR.mono ((e1.trans e2).trans e3)
      refine hf B3 H3 x (wipe σ vs) (wipeR ρ vs) _ S3 o3 (hR3.wiped vs).r _ fun σ2 hw hr2 => ⟨hw.trans (wipe_wipe σ vs), ?_⟩
      have R3 : Rl K B3 σ2 (f (wipeR ρ vs)) := ⟨hr2, hR3.x⟩
      refine ht σ2 B3 H3 R3 S3 _ fun b M4 B4 H4 q4 e4 S4 => ?_
      have e14 := (e2.trans e3).trans e4
      cases b with
      | true =>
        refine q4 _ B4 H4 (R3.mono e4) S4 _ fun s v M5 B5 H5 ⟨d, M6, es, em, hn6, hl6, hj6⟩ e5 S5 o5 => ?_
        subst es em
        obtain ⟨_, u, hu, ws, rfl, ha⟩ := S5.has D _ um_same
        have hlen := SlAll.len ha
        rw [List.length_map] at hlen
        refine ⟨ws, hu, Nat.lt_of_lt_of_le (by omega) (show 1000000 ≤ sizeLine by decide), acc ++ [d], M6, B5, hj6, hn6, e14.trans e5, ?_⟩
        have S6 := S5.put (u := .lst (ws ++ [v])) (o' := .lst ((acc ++ [d]).map .dat)) um_same ⟨_, rfl, by rw [List.map_append]; exact SlAll.app ha (.cons o5 .nil)⟩
        rw [um_um] at S6
        exact S6
      | false =>
        obtain ⟨M5, em, hn5, hj5⟩ := q4
        subst em
        exact ⟨acc, M5, B4, hj5, hn5, e14, S4⟩
    · have ei : i = n := by omega
      subst ei
      refine .inl ⟨ok.stop i B' _ H' (Nat.le_refl _) e2 S2 (js i acc M' hi hj' D _ hMD), ?_⟩
      exact k _ _ _ B' H' (je acc M' D hj' hMD) (e1.trans e2) S2 slok_ref
/-- a list that was just made will not be changed any more -/
theorem w_frz (h : W K te ρ M fun s M1 => ∃ a ds, s = .raw (.ref a) ∧ M1 a = some (.lst (ds.map .dat)) ∧ Q (.dat (.list ds)) (del M1 a)) : W K te ρ M Q := fun σ B H hR hS Q0 k =>
  h σ B H hR hS _ fun s v M1 B1 H1 ⟨a, ds, es, hM, q⟩ e1 S1 o1 => by
    subst es
    have ev : v = .ref a := o1
    subst ev
    obtain ⟨hB, u, hu, vs, rfl, ha⟩ := S1.has a _ hM
    exact k _ _ _ _ H1 q (e1.trans (same_new hB)) (S1.freeze hM hu) (lst_ok (dpa_of ha) hB)
end
end Ab
set_option Elab.async false
set_option linter.all false
set_option maxRecDepth 1000000
set_option  maxHeartbeats 4000000
namespace L2
open PySem PySem.Spec PyProof.Rows
def tTryOnly (K : PySem.W.Frag) (c : Value) (ts : Addr → Value → Option Addr → TS) (Wout : WX) (tb : WX → TS) : TS := fun D σ H => tb (wOnly K c ts Wout D) D σ H
section
variable {X : Cx} {x n : Str} {c : Value} {i : Nat} {body suite : List Stmt} {b₀ : Stmt} {np pos pos' : Pos} {tb : WX → TS} {ts : Addr → Value → Option Addr → TS} {Wout : WX}
theorem ps_tryOnly (hs : X.stack = X.env :: X.outer) (hf : X.env.frame = some X.env.locals) (hc : Names X x c) (tk : Takes X Wout)
    (hb : ∀ (W : WX) (pn : List (Addr × Obj)) (xe : Value → Shared → Prop), Takes (X.tr pn xe) W → PassesOwn (model X.prog X.w) X.A X.env xe → PSs (X.tr pn xe) body (tb W))
    (hu : ∀ (a : Addr) (oe : Obj) (cls : Value) (d : Option Addr) (pn : List (Addr × Obj)), Zc cls d oe → (∃ vs, oe.data = .fields vs) → PSs (X.suite a ((a, oe) :: pn)) (b₀ :: suite) (ts a cls d)) : PS X (.Try body [.ExceptHandler (some (.Name x np)) none (b₀ :: suite) pos'] [] [] pos) (tTryOnly X.K c ts Wout tb) := ps_try_only hs hf hc tk hb hu
end
end L2
namespace Ab
open PySem PySem.Spec PyProof.Rows L2
section
variable {K : KX} {ρ : Rho} {M : MH} {Q Q' : Sl → MH → Prop} {ta tb te tc td ty tx tv : TE} {P : AE} {nx bk ct : Rho → MH → Prop} {rt : Sl → MH → Prop}
/-- x.f, x a name -/
theorem w_fldI {i : Nat} {f : Str} {a C dx : Addr} {fs : List (Str × Sl)} {x : Sl} (hv : ρ[i]? = some (some (.raw (.ref a)))) (hM : M a = some (.ins C dx fs)) (c : Cls K.K C) (n : NoAttr K.K C f) (l : fs.lookup f = some x) (q : Q x M) : W K (tFld K.K (tVar i) f) ρ M Q :=
  w_fld (w_var hv ⟨a, C, dx, fs, x, rfl, hM, c, n, l, q⟩)
/-- x.f = e, x a name -/
theorem ws_fldI {i : Nat} {f : Str} {a C : Addr} (hv : ρ[i]? = some (some (.raw (.ref a)))) (c : Cls K.K C) (n : NoAttr K.K C f) (h : W K te ρ M fun s M1 => ∃ dx fs, M1 a = some (.ins C dx fs) ∧ fs.length < 1000 ∧ nx ρ (um M1 a (.ins C dx (putS f s fs)))) : WS K (sFld K.K (tVar i) te f) ρ M ⟨nx, rt, bk, ct⟩ :=
  ws_fld (h.imp fun s M1 ⟨dx, fs, hM, hl, q⟩ => w_var hv ⟨a, C, dx, fs, rfl, hM, c, n, hl, q⟩)
theorem ws_tryO {c : Value} {tb : WX → TS} {ts : Addr → Value → Option Addr → TS} (X : Value → Option Addr → Rho → MH → Prop) (hb : ∀ W, WS ⟨K.K, W, X⟩ (tb W) ρ M ⟨nx, rt, bk, ct⟩)
    (hx : ∀ C d ρ' M', X C d ρ' M' → ∃ b, PySem.W.exmOne K.K C c = some b ∧ (b = true → ∀ a, WS K (ts a C d) ρ' M' ⟨nx, rt, bk, ct⟩) ∧ (b = false → K.X C d ρ' M')) : WS K (tTryOnly K.K c ts K.W tb) ρ M ⟨nx, rt, bk, ct⟩ := ws_tryOnly X hb hx
/-- d["k"], d a name -/
theorem w_dgetI {i : Nat} {z : Str} {g : Addr} {kvs : List (Key × Sl)} {x : Sl} (hv : ρ[i]? = some (some (.raw (.ref g)))) (hM : M g = some (.dK kvs)) (hx : valG kvs (.inr z) = some x) (q : Q x M) : W K (tDGet (tVar i) (tC (.str z))) ρ M Q :=
  w_dget (w_var hv (w_str ⟨kvs, .inr z, x, dcv_ref hM, rfl, hx, q⟩))
theorem ty_dct {F : PySem.W.Frag} {M : MH} {g : Addr} {kvs : List (Key × Sl)} (hM : M g = some (.dK kvs)) : ∀ B H v, Sep F B M H → SlOk F B v (.raw (.ref g)) → tyV F "dict" v H := fun B H v S o => by
  have ev : v = .ref g := o
  subst ev
  obtain ⟨_, u, hu, vs, rfl, _⟩ := S.has g _ hM
  exact .inr (.inr (.inl ⟨rfl, .inl ⟨vs, hu⟩⟩))
end
end Ab
set_option Elab.async false
set_option linter.all false
set_option maxRecDepth 1000000
set_option  maxHeartbeats 4000000
namespace L2
open PySem PySem.Spec PyProof.Rows PyProof
/-- a tuple target, the module's part named -/
theorem pg_tupK {X : Cx} {K : PySem.W.Frag} {es : List Expr} {k : Nat} {t : TGs} {n : Nat} {pos : Pos} (hK : X.K = K) (hc : X.calm = true) (h : PGs X es t)
    (hn : (assignEach es X.env).length = n := by rfl) (hst : (assignEach es X.env).findIdx? (·.1) = none := by rfl) : PG X (.Tuple es k pos) (gTup K n t) := by
  subst hK
  exact pg_tup hc h hn hst
end L2
namespace Ab
open PySem PySem.Spec PyProof.Rows L2
variable {M : MH} {Q : Sl → MH → Prop}
theorem w2_isB {K : PySem.W.Frag} {a b : Bool} (q : Q (.bl (decide (a = b))) M) : W2 K rIsB (.bl a) (.bl b) M Q := fun B H v w hS o1 o2 Q0 k => ⟨a, b, of_bl o1, of_bl o2, k _ _ M B H q (Same.refl B) hS slok_bl⟩
theorem w2_notB {K : PySem.W.Frag} {a b : Bool} (q : Q (.bl (!decide (a = b))) M) : W2 K rNotB (.bl a) (.bl b) M Q := fun B H v w hS o1 o2 Q0 k => ⟨a, b, of_bl o1, of_bl o2, k _ _ M B H q (Same.refl B) hS slok_bl⟩
/-- isinstance of a list that changes -/
theorem wl_isiL {K : PySem.W.Frag} {a : Addr} {xs : List Sl} {n : String} {b : Bool} (h : M a = some (.lst xs)) (hb : kitB "list" n = some b) (q : Q (.bl b) M) : WL K (rIsi K) [.raw (.ref a), .raw (.ty n)] M Q := fun B H vs hS o Q0 k => by
  cases o with
  | cons o1 o2 =>
    cases o2 with
    | cons o2 o3 =>
      cases o3
      obtain rfl : _ = V.ty n := o2
      obtain rfl : _ = V.ref a := o1
      obtain ⟨_, u, hu, ws, rfl, ha⟩ := hS.has a _ h
      exact ⟨_, .ty n, _, _, b, rfl, .ty n, .base (.lst hu), kit_ty hb, k _ _ M B H q (Same.refl B) hS slok_bl⟩
theorem w2_ixRL {K : PySem.W.Frag} {a : Addr} {x : Sl} {xs : List Sl} {i : Int} (h : M a = some (.lst xs)) (hx : atI xs i = some x) (q : Q x M) : W2 K (rIx K) (.raw (.ref a)) (.int i) M Q := fun B H v w hS o1 o2 Q0 k =>
  .inl (w2_ixL (lsv_ref h) hx q B H v w hS o1 o2 Q0 k)
theorem hu1 {n : Nat} (h : n + 64 < cLine) : n + 1 < cLine := by omega
/-- a def that keeps two promises -/
def orA (A1 A2 : ASp) : ASp := fun ss M Q => A1 ss M Q ∨ A2 ss M Q
theorem fn_or {P : Program} {w : World} {K : PySem.W.Frag} {mg : Str → Option Value} {base : Heap} {CX : CXT} {k : Nat} {f : Addr} {fd : FuncData} {ps : List Str} {A1 A2 : ASp} (F1 : FnOk P w K mg base CX k f fd ps (conc K A1)) (F2 : FnOk P w K mg base CX k f fd ps (conc K A2)) : FnOk P w K mg base CX k f fd ps (conc K (orA A1 A2)) :=
  ⟨fun vs H Q E ⟨B, M, ss, QA, S, o, h, q⟩ => h.elim (fun h => F1.len vs H Q E ⟨B, M, ss, QA, S, o, h, q⟩) (fun h => F2.len vs H Q E ⟨B, M, ss, QA, S, o, h, q⟩),
   fun A outer s H args us vs Q E a b c d ⟨B, M, ss, QA, S, o, h, q⟩ => h.elim (fun h => F1.run A outer s H args us vs Q E a b c d ⟨B, M, ss, QA, S, o, h, q⟩) (fun h => F2.run A outer s H args us vs Q E a b c d ⟨B, M, ss, QA, S, o, h, q⟩)⟩
end Ab
set_option Elab.async false
set_option linter.all false
set_option maxRecDepth 1000000
set_option  maxHeartbeats 4000000
namespace L2
open PySem PySem.Spec PySem.Calls PyProof.Rows
section
variable {prog : Program} {w : World} {A : Around} {E : Value → Shared → Prop} {s : Shared} {a kS : Addr} {vs : List Value} {keys : Array Value} {e e1 : Nat} {P : PySem.Fin → Shared → Prop}
def freed (o : Obj) : Obj := { o with data := .freed }
theorem freed_none {h : Heap} {k : Addr} {o : Obj} (ho : h.get? k = some o) : (h.update k freed).get? k = none := by
  have h1 := ((Heap.get?_eq_some h k _).mp ho).1
  unfold Heap.get?
  rw [Heap.objs_update_self, h1]
  rfl
/-- behind the keys: nothing but the two lists changes -/
theorem srt_end {κ : PyProof.Rows.KeyKind} (nk : s.heap.get? kS = some (seqObj "list" keys e)) (na : s.heap.get? a = some (seqObj "list" #[] e1)) (hka : kS ≠ a) (S : PySem.W.SortsAt prog w A s κ keys.toList) (hsz : keys.size = vs.length) (hZ : vs.length ≤ sizeLine)
    (h : ∀ h' tk c, (∀ b o, b ≠ a → b ≠ kS → s.heap.get? b = some o → h'.get? b = some o) → h'.get? a = some (seqObj "list" (PySem.W.sortVals κ false keys.toList vs).toArray c) → P (.done (.ret .none)) { s with heap := h', toks := tk }) :
    wpAny (model prog w) A (ksk_end a false vs.toArray e1 (.ref kS) keys) P E s := by
  have gk := freed_none nk
  have go : ∀ b, b ≠ kS → (s.heap.update kS freed).get? b = s.heap.get? b := fun b hb => Heap.get?_update_ne _ _ _ _ hb
  have kp : PySem.W.KeepsBut a (s.heap.update kS freed) s.heap := fun b o _ q => by
    have hb : b ≠ kS := fun z => by rw [z, gk] at q; cases q
    rw [← go b hb]
    exact q
  exact PySem.W.keyH_end (κ := κ) kp gk nk na hka S hsz hZ fun h' tk c k' hD => h h' tk c (fun b o n1 n2 q => k' b o n1 (by rw [go b n2]; exact q)) hD
end
end L2
namespace L2
open PySem PySem.Spec PySem.Calls PyProof.Rows
section
variable {prog : Program} {w : World} {A : Around} {E : Value → Shared → Prop} {s : Shared} {a kS : Addr} {vs : List Value} {e1 : Nat} {P : PySem.Fin → Shared → Prop}
/-- the keys, one by one; L: what holds behind so many of them -/
theorem srt_rest {f : Value} (hka : kS ≠ a) (hZ : vs.length ≤ sizeLine) (L : Nat → List Value → Shared → Prop) (h0 : L 0 [] s)
    (hat : ∀ i ks s', L i ks s' → ks.length = i ∧ (∃ e, s'.heap.get? kS = some (seqObj "list" ks.toArray e)) ∧ s'.heap.get? a = some (seqObj "list" #[] e1))
    (turn : ∀ i v ks s', vs[i]? = some v → L i ks s' → wpAny (model prog w) A (call f [v]) (fun k s2 => (∃ e, s2.heap.get? kS = some (seqObj "list" ks.toArray e)) ∧ L (i + 1) (ks ++ [k]) { s2 with heap := s2.heap.update kS (Obj.mapSeq (·.push k)) }) (fun _ _ => False) s')
    (fin : ∀ ks s', L vs.length ks s' → ∃ κ, PySem.W.SortsAt prog w A s' κ ks ∧ ∀ h' tk c, (∀ b o, b ≠ a → b ≠ kS → s'.heap.get? b = some o → h'.get? b = some o) → h'.get? a = some (seqObj "list" (PySem.W.sortVals κ false ks vs).toArray c) → P (.done (.ret .none)) { s' with heap := h', toks := tk }) :
    wpAny (model prog w) A (ksk_rest a f false vs.toArray e1 (.ref kS)) P E s := by
  unfold ksk_rest
  refine wpAny_bind (wpAny_rule ?_)
  rw [List.forIn_toArray]
  refine wpAny_bind (ksk_fold (fun i s' => ∃ ks, L i ks s') vs 0 s ⟨[], h0⟩ (fun j x s' hx ⟨ks, hL⟩ => ?_) fun s' ⟨ks, hL⟩ => ?_)
  · rw [Nat.zero_add] at hL ⊢
    obtain ⟨hl, ⟨e, hk⟩, _⟩ := hat _ _ _ hL
    have hj := (List.getElem?_eq_some_iff.mp hx).1
    refine wpAny_bind (wpAny_attempt (wpAny_mono (turn j x ks s' hx hL) (fun k s2 ⟨⟨e2, q1⟩, q2⟩ => ?_) fun _ _ z => z.elim))
    refine wpAny_bind (listUpdate_at q1 rfl ?_ (by rw [List.size_toArray, hl]; omega) (by rw [Array.size_push, List.size_toArray, hl]; omega))
    exact wpAny_pure ⟨rfl, _, q2⟩
  · rw [Nat.zero_add] at hL
    obtain ⟨hl, ⟨e, hk⟩, ha⟩ := hat _ _ _ hL
    obtain ⟨κ, hS, q⟩ := fin ks s' hL
    refine wpAny_bind (listItems_at hk rfl ?_)
    exact srt_end (κ := κ) hk ha hka hS (by rw [List.size_toArray]; exact hl) hZ q
end
end L2
namespace L2
open PySem PySem.Spec PySem.Calls PyProof.Rows
section
variable {prog : Program} {w : World} {A : Around} {E : Value → Shared → Prop} {s : Shared} {a : Addr} {vs : List Value} {P : PySem.Fin → Shared → Prop}
/-- list.sort with a key: the list is emptied, a list of the keys is laid -/
theorem srt_tree {f : Value} {n : Nat} (ho : s.heap.get? a = some (seqObj "list" vs.toArray n)) (hZ : vs.length ≤ sizeLine)
    (h : ∀ e1 h1 kS, s.heap.objs.size ≤ kS → kS ≠ a → (∀ b o, b ≠ a → s.heap.get? b = some o → h1.get? b = some o) → h1.get? a = some (seqObj "list" #[] e1) → h1.get? kS = some (seqObj "list" #[] 0) →
      wpAny (model prog w) A (ksk_rest a f false vs.toArray e1 (.ref kS)) P E { s with heap := h1 }) : wpAny (model prog w) A (ksk_tree a f false) P E s := by
  have hlt := Heap.lt_size ho
  have hone := get?_update_seq ho fun _ => (#[] : Array Value)
  generalize he : (if ((#[] : Array Value).size == vs.toArray.size) = true then n else n + 1) = e1 at hone
  have hsz : ((s.heap.update a (Obj.mapSeq fun _ => (#[] : Array Value))).push (seqObj "tuple" vs.toArray 0)).objs.size = s.heap.objs.size + 1 := by rw [size_push', Heap.size_update]
  have kp : ∀ b o, b ≠ a → s.heap.get? b = some o → (PySem.W.sortingHeap s.heap a vs).get? b = some o := fun b o hb q => PySem.W.sortingHeap_old hb q
  have fin := h e1 (PySem.W.sortingHeap s.heap a vs) (s.heap.objs.size + 1) (Nat.le_succ _) (Nat.ne_of_gt (Nat.lt_succ_of_lt hlt)) kp (Heap.get?_push_of_some _ (Heap.get?_push_of_some _ hone)) (by rw [← hsz]; exact Heap.get?_push_size _ rfl)
  unfold ksk_tree
  refine wpAny_bind (listItems_at ho rfl (wpAny_bind (listUpdate_at ho rfl ?_ (by rw [List.size_toArray]; exact hZ) (Nat.zero_le _))))
  refine wpAny_bind (seqEpoch_at hone rfl (wpAny_bind (wpAny_newTuple ?_ (show vs.length ≤ _ from hZ))))
  refine wpAny_bind (wpAny_newList (wpAny_holding ?_) (Nat.zero_le _))
  rw [← hsz] at fin
  exact fin
/-- sorted with a key -/
theorem srt_call {l : Addr} {f : Addr} {Q : Value → Shared → Prop} (hl : s.heap.IsList l vs.toArray) (hZ : vs.length ≤ sizeLine)
    (h : ∀ e1 h1 a kS E', s.heap.objs.size ≤ a → s.heap.objs.size ≤ kS → kS ≠ a → (∀ b o, s.heap.get? b = some o → h1.get? b = some o) → h1.get? a = some (seqObj "list" #[] e1) → h1.get? kS = some (seqObj "list" #[] 0) →
      wpAny (model prog w) A.in1.in1 (ksk_rest a (.ref f) false vs.toArray e1 (.ref kS)) (fun r s' => r = .done (.ret .none) ∧ Q (.ref a) s') E' { s with heap := h1 }) :
    wpAny (model prog w) A (call (.builtin "sorted") [.ref l] [(Str.ofString "key", .ref f)]) Q E s := by
  refine PySem.W.sorted_of_sort hl hZ (ksk_s1 _ _) (fun _ => ksk_l1 _ _) fun E' => ?_
  rw [ksk_t1]
  have up : s.heap.objs.size ≤ (PySem.W.copyHeap s.heap vs).objs.size := Nat.le_trans (Nat.le_succ _) (Nat.le_of_lt (Heap.lt_size (PySem.W.copyHeap_at s.heap vs)))
  refine srt_tree (s := { s with heap := PySem.W.copyHeap s.heap vs }) (PySem.W.copyHeap_at s.heap vs) hZ fun e1 h1 kS k1 k2 k3 k4 k5 => ?_
  exact h e1 h1 _ kS E' (Nat.le_succ _) (Nat.le_trans up k1) k2 (fun b o q => k3 b o (Nat.ne_of_lt (Nat.lt_succ_of_lt (Heap.lt_size q))) (PySem.W.copyHeap_old q)) k4 k5
end
end L2
namespace Ab
open PySem PySem.Spec PySem.Calls PyProof.Rows PySem.SeqAt
/-- pair by pair, as list.sort compares keys that are tuples -/
theorem kat_datas {prog : Program} {w : World} {A : Around} {s : Shared} {b z : Bool} {Q : Bool → Shared → Prop} : ∀ (xs ys : List PyData) (i : Nat) (vs ws : List Value) (as bs : List Addr), ReadsAll s.heap vs xs as → ReadsAll s.heap ws ys bs → cmpOks xs ys = true → PyData.canLayAll0 xs = true → PyData.canLayAll0 ys = true →
    A.units + min (PyData.depthAll xs) (PyData.depthAll ys) < cLine → (b = true → i = 0 → ∀ x r, xs = x :: r → ∃ n, x = .int n) → Q (cmpVs .Lt z xs ys) s → PySem.W.KatLex prog w A b z Q (vs.zip ws) i s
  | [], ys, i, vs, ws, _, _, ra, rb, _, _, _, _, _, hq => by
    cases ra
    rw [List.zip_nil_left]
    have hq' : Q z s := by cases ys <;> simpa [cmpVs] using hq
    exact PySem.W.kat_nil hq'
  | x :: xs, [], i, vs, ws, _, _, ra, rb, _, _, _, _, _, hq => by
    cases rb
    rw [List.zip_nil_right]
    exact PySem.W.kat_nil (by simpa [cmpVs] using hq)
  | x :: xs, y :: ys, i, _, _, _, _, ra, rb, hc, ha, hb, hu, hi, hq => by
    cases ra with
    | cons r rs =>
      cases rb with
      | cons r' rs' =>
        rw [PyData.canLayAll0, Bool.and_eq_true] at ha hb
        rw [List.zip_cons_cons]
        have he := eqAt_reads x y A s _ _ _ _ r r' ha.1 hb.1 (room_head hu)
        rw [cmpOks] at hc
        refine PySem.W.kat_cons (he prog w _ _ ?_)
        cases hx : PyData.eqv x y with
        | true =>
          rw [hx, if_pos rfl] at hc
          rw [cmpVs, hx, if_pos rfl] at hq
          exact PySem.W.kat_yes (kat_datas xs ys (i + 1) _ _ _ _ rs rs' hc ha.2 hb.2 (room_tail hu) (fun _ z => nomatch z) hq)
        | false =>
          rw [hx, if_neg Bool.false_ne_true] at hc
          rw [cmpVs, hx, if_neg Bool.false_ne_true] at hq
          refine PySem.W.kat_no ?_
          cases hf : (b && i == 0) with
          | false =>
            rw [oneLt'_eq]
            simp only [Bool.false_eq_true, if_false]
            exact wpAny_bind (rc_data .lt x y A s _ _ _ _ r r' hc ha.1 hb.1 (room_head hu) prog w _ _ (wpAny_truthy_bool hq))
          | true =>
            rw [Bool.and_eq_true] at hf
            obtain ⟨n, rfl⟩ := hi hf.1 (by simpa using hf.2) x xs rfl
            cases y with
            | int m =>
              cases r with
              | int _ t => cases r' with
                | int _ u => exact oneLt_int (by simpa [cmpV, cmpI] using hq)
            | none => simp [cmpOk] at hc
            | bool _ => simp [cmpOk] at hc
            | str _ => simp [cmpOk] at hc
            | list _ => simp [cmpOk] at hc
            | tuple _ => simp [cmpOk] at hc
            | dict _ => simp [cmpOk] at hc
/-- keys that have an order of their own -/
noncomputable def ownKind (O : KeyOrd) (kf : O.α → PyData) (h : Heap) (rs : List O.α) (d : O.α) : PyProof.Rows.KeyKind where
  toKeyOrd := O
  keyOf v := open Classical in if q : ∃ r, r ∈ rs ∧ ∃ as, Reads h v (kf r) as then some q.choose else none
  dflt := d
theorem ownKind_inv {O : KeyOrd} {kf : O.α → PyData} {h : Heap} {rs : List O.α} {d : O.α} {v : Value} {r : O.α} (e : (ownKind O kf h rs d).keyOf v = some r) : r ∈ rs ∧ ∃ as, Reads h v (kf r) as := by
  by_cases q : ∃ r, r ∈ rs ∧ ∃ as, Reads h v (kf r) as
  · have e' : (ownKind O kf h rs d).keyOf v = some q.choose := by
      show (open Classical in if q : ∃ r, r ∈ rs ∧ ∃ as, Reads h v (kf r) as then some q.choose else none) = _
      rw [dif_pos q]
    rw [e'] at e
    cases e
    exact q.choose_spec
  · have e' : (ownKind O kf h rs d).keyOf v = none := by
      show (open Classical in if q : ∃ r, r ∈ rs ∧ ∃ as, Reads h v (kf r) as then some q.choose else none) = _
      rw [dif_neg q]
      rfl
    rw [e'] at e
    cases e
/-- what is asked of the keys -/
structure KeyFit (O : KeyOrd) (kf : O.α → PyData) (T : Value) (rs : List O.α) : Prop where
  cmp : ∀ r ∈ rs, ∀ r' ∈ rs, cmpOk (kf r) (kf r') = true ∧ cmpV .Lt (kf r) (kf r') = O.blt r r' ∧ (kf r = kf r' → r = r')
  tup : ∀ r ∈ rs, SeqAt.shaped (kf r) = true ∧ ∃ ts, kf r = .tuple ts ∧ ∀ x t, ts = x :: t → PySem.W.dataType x = T
  typ : T = .type "int" ∨ T = .type "tuple"
theorem ownKind_some {O : KeyOrd} {kf : O.α → PyData} {h : Heap} {rs : List O.α} {d : O.α} {T : Value} (F : KeyFit O kf T rs) {v : Value} {r : O.α} {as : List Addr} (hr : r ∈ rs) (q : Reads h v (kf r) as) : (ownKind O kf h rs d).keyOf v = some r := by
  have z : ∃ r, r ∈ rs ∧ ∃ as, Reads h v (kf r) as := ⟨r, hr, as, q⟩
  have e' : (ownKind O kf h rs d).keyOf v = some z.choose := by
    show (open Classical in if q : ∃ r, r ∈ rs ∧ ∃ as, Reads h v (kf r) as then some q.choose else none) = _
    rw [dif_pos z]
  obtain ⟨h1, as', h2⟩ := z.choose_spec
  rw [e', (F.cmp _ h1 _ hr).2.2 (PySem.Reads.unique h2 _ _ q).1]
theorem each_mapR {α β γ : Type} {R : α → γ → Prop} {f : β → γ} : ∀ {as : List α} {bs : List β}, PySem.W.EachIs (fun a b => R a (f b)) as bs → PySem.W.EachIs R as (bs.map f)
  | _, _, .nil => .nil
  | _, _, .cons h t => .cons h (each_mapR t)
/-- two tuples, compared as values of one type -/
theorem oneLt_tup {prog : Program} {w : World} {A : Around} {E : Value → Shared → Prop} {s : Shared} {l b : Addr} {us ws : Array Value} {k : Bool} {Q : Bool → Shared → Prop} (hl : s.heap.IsTuple l us) (hb : s.heap.IsTuple b ws) (hu : A.units < cLine) (hc : Cmp A.in1 s .Lt (cmpN .Lt us.size ws.size) (us.toList.zip ws.toList) k) (h : Q k s) :
    wpAny (model prog w) A (oneLt' true (.ref l) (.ref b)) Q E s := by
  obtain ⟨⟨_, dd, _, sl⟩, ho, c1, n, d1⟩ := id hl
  obtain ⟨⟨_, dd2, _, sl2⟩, ho2, c2, m, d2⟩ := id hb
  simp only at c1 d1 c2 d2
  subst c1 d1 c2 d2
  rw [oneLt'_eq]
  simp only [if_true]
  refine wpAny_bind (wpAny_cRoomFor hu ?_)
  refine wpAny_bind (wpAny_callSpecialIfBound?_slot ⟨_, ho, rfl⟩ F.slot_tuple_lt (call_meets F.slot_tuple_lt ⟨_, ho, rfl⟩ F.entry_tuple_lt (F.args_tuple_lt_2 _ _) (tup_lt l b us ws n m dd dd2 sl sl2 k) ⟨ho, ho2, hc, ?_⟩))
  exact wpAny_truthy_bool h
/-- the first items, where some tuple may have none -/
theorem mix_firsts {M : Model} {A : Around} {E : Value → Shared → Prop} {s : Shared} : ∀ (vs : List Value) (ds : List PyData) {Q : List (Option Value) → Shared → Prop}, PySem.W.EachIs (fun v d => ∃ as, Reads s.heap v d as) vs ds → (∀ d ∈ ds, ∃ ts, d = .tuple ts) →
    (∀ bs, PySem.W.EachIs (fun (b : Option Value) d => b.isSome = true ↔ d ≠ .tuple []) bs ds → Q bs s) → wpAny M A (vs.mapM firstOfTuple') Q E s
  | [], _, _, .nil, _, h => by rw [List.mapM_nil]; exact wpAny_pure (h [] .nil)
  | v :: vs, d :: ds, Q, .cons ⟨as, r⟩ t, ht, h => by
    obtain ⟨ts, rfl⟩ := ht d List.mem_cons_self
    cases r with
    | @tuple a o xs n _ _ ho hc hd hr =>
      rw [List.mapM_cons]
      refine wpAny_bind ?_
      rw [PySem.W.kas_first_eq]
      refine wpAny_bind (PySem.W.Looks.here (show PySem.W.Looks M s.heap (typeOf (.ref a)) o.cls from (PySem.W.Looks.ld ho).andThen .now) ?_)
      rw [hc, if_neg (by first | decide | simp)]
      refine wpAny_bind (listItems_at ho hd (wpAny_pure ?_))
      refine wpAny_bind (mix_firsts vs ds t (fun e he => ht e (List.mem_cons_of_mem _ he)) fun bs hbs => wpAny_pure (h _ (.cons ?_ hbs)))
      rw [← Array.getElem?_toList]
      cases q : xs.toList with
      | nil =>
        rw [q] at hr
        cases hr
        simp
      | cons f fr =>
        rw [q] at hr
        cases hr
        simp
theorem each_firsts {ds : List PyData} {bs : List (Option Value)} (e : PySem.W.EachIs (fun (b : Option Value) d => b.isSome = true ↔ d ≠ .tuple []) bs ds) (h : ∃ d ∈ ds, d = .tuple []) : (bs.toArray.all fun x => x.isSome) = false := by
  obtain ⟨d, hd, rfl⟩ := h
  have : ∀ {bs : List (Option Value)} {ds : List PyData}, PySem.W.EachIs (fun (b : Option Value) d => b.isSome = true ↔ d ≠ .tuple []) bs ds → .tuple [] ∈ ds → ∃ b ∈ bs, b.isSome = false := by
    intro bs ds e
    induction e with
    | nil => intro h; cases h
    | cons h t ih =>
      intro hm
      rcases List.mem_cons.mp hm with rfl | hm
      · refine ⟨_, List.mem_cons_self, ?_⟩
        rw [Bool.eq_false_iff]
        intro z
        exact h.mp z rfl
      · obtain ⟨b, hb, z⟩ := ih hm
        exact ⟨b, List.mem_cons_of_mem _ hb, z⟩
  obtain ⟨b, hb, z⟩ := this e hd
  rw [Bool.eq_false_iff]
  intro q
  rw [List.all_toArray, List.all_eq_true] at q
  rw [q b hb] at z
  cases z
def emT : PyData → Bool
  | .tuple [] => true
  | _ => false
theorem emT_no {d : PyData} (h : emT d = true) : d = .tuple [] := by
  unfold emT at h
  split at h
  · rfl
  · cases h
theorem mix_kind {M : Model} {A : Around} {E : Value → Shared → Prop} {s : Shared} {vs : List Value} {d : PyData} {ds : List PyData} {Q : SortKind → Shared → Prop} (e : PySem.W.EachIs (fun v d => ∃ as, Reads s.heap v d as) vs (d :: ds)) (ht : ∀ d' ∈ d :: ds, ∃ ts, d' = .tuple ts) (hm : ∃ d' ∈ d :: ds, d' = .tuple [])
    (h : Q (if emT d = true then oneType' else general') s) : wpAny M A (keyKind' vs.toArray) Q E s := by
  rw [PyProof.Rows.kat_kind_eq, List.mapM_toArray, map_eq_pure_bind]
  refine wpAny_bind (wpAny_bind (mix_firsts vs _ e ht fun bs hbs => wpAny_pure ?_))
  have hall := each_firsts hbs hm
  rw [if_neg (by rw [hall]; exact Bool.false_ne_true)]
  cases hbs with
  | @cons b _ bs' _ h1 t1 =>
    have h0 : ((b :: bs').toArray[0]?.bind id) = b := by simp
    rw [h0]
    by_cases hd : emT d = true
    · rw [if_pos hd] at h
      have hb : ¬ (b.isSome = true) := fun z => (h1.mp z) (emT_no hd)
      rw [if_neg hb]
      rw [oneTypeOnly'_eq, List.mapM_toArray, map_eq_pure_bind]
      refine wpAny_bind (wpAny_bind (wpAny_bind (PySem.W.kas_mapM (r := .type "tuple") _ (fun v hv Q' hq => ?_) (wpAny_pure ?_))))
      · obtain ⟨d', hd', as, r⟩ := e.left v hv
        obtain ⟨ts, rfl⟩ := ht d' hd'
        exact (PySem.W.looks_reads r).here hq
      · cases e with
        | @cons v0 _ vs' _ _ _ =>
          have hall2 : ((List.map (fun _ => Value.type "tuple") (v0 :: vs')).toArray.all fun x => x == Value.type "tuple") = true := by
            simp only [List.all_toArray, List.all_map, List.all_eq_true]
            intro _ _
            exact beq_self_eq_true _
          have h00 : (List.map (fun _ => Value.type "tuple") (v0 :: vs')).toArray[0]? = some (Value.type "tuple") := by simp
          rw [h00]
          simp only [hall2, if_true]
          exact wpAny_pure (wpAny_pure h)
    · rw [if_neg hd] at h
      have hb : b.isSome = true := h1.mpr fun z => hd (by rw [z]; rfl)
      rw [if_pos hb]
      exact wpAny_pure h
theorem own_sorts {prog : Program} {w : World} {A : Around} {s : Shared} {O : KeyOrd} {kf : O.α → PyData} {rs : List O.α} {d : O.α} {T : Value} {ks : List Value} (F : KeyFit O kf T rs) (e : PySem.W.EachIs (fun v r => ∃ as, Reads s.heap v (kf r) as) ks rs) (hu : A.units + 64 < cLine) :
    PySem.W.SortsAt prog w A s (ownKind O kf s.heap rs d) ks := by
  have keys : ∀ v, v ∈ ks → ∃ a, (ownKind O kf s.heap rs d).keyOf v = some a := fun v hv => by
    obtain ⟨r, hr, as, q⟩ := e.left v hv
    exact ⟨r, ownKind_some F hr q⟩
  by_cases hne : ∀ r ∈ rs, kf r ≠ .tuple []
  · refine ⟨keys, tuples' (T != .type "tuple"), fun E x y a b Q ha hb hq => ?_, fun h2 E Q hq => ?_⟩
    · obtain ⟨m1, as, r1⟩ := ownKind_inv ha
      obtain ⟨m2, bs, r2⟩ := ownKind_inv hb
      obtain ⟨c1, c2, _⟩ := F.cmp _ m1 _ m2
      obtain ⟨s1, ts1, e1, T1⟩ := F.tup _ m1
      obtain ⟨s2, ts2, e2, T2⟩ := F.tup _ m2
      have hq' : Q (cmpV .Lt (kf a) (kf b)) s := by rw [c2]; exact hq
      have l1 := canLay_of_shaped s1
      have l2 := canLay_of_shaped s2
      have hroom := room_of_shaped (db := kf b) s1 hu
      rw [e1] at r1 l1 c1 hq' hroom
      rw [e2] at r2 l2 c1 hq' hroom
      cases r1 with
      | @tuple l o vs n _ _ h1 h2 h3 h4 =>
        cases r2 with
        | @tuple l' o' vs' n' _ _ k1 k2 k3 k4 =>
          have n1 : vs.size = ts1.length := by simpa using ReadsAll.length _ _ _ h4
          have n2 : vs'.size = ts2.length := by simpa using ReadsAll.length _ _ _ k4
          refine PySem.W.kat_lt h1 h3 k1 k3 ?_
          refine kat_datas ts1 ts2 0 _ _ _ _ h4 k4 c1 l1 l2 (by have := room_in hroom; have h5 : A.in1.units = A.units + 1 := rfl; omega) (fun hb _ x r ex => ?_) ?_
          · have T1 := T1 x r ex
            rcases F.typ with rfl | rfl
            · cases x <;> first | exact ⟨_, rfl⟩ | exact absurd T1 (by simp [PySem.W.dataType])
            · exact absurd hb (by decide)
          · rw [n1, n2]
            exact hq'
    · obtain ⟨fs, t1, t2, t3⟩ := PySem.W.each_katTups (each_mapR (R := fun v d => ∃ as, Reads s.heap v d as) e) fun d hd => by
        obtain ⟨r, hr, rfl⟩ := List.mem_map.mp hd
        obtain ⟨_, ts, e1, _⟩ := F.tup r hr
        cases ts with
        | nil => exact absurd e1 (hne r hr)
        | cons x t => exact ⟨x, t, e1⟩
      refine PySem.W.kat_kind (T := T) t1 (by omega) (fun f hf => ?_) (beq_self_eq_true _) hq
      obtain ⟨x, r, as, m1, m2⟩ := t3 f hf
      obtain ⟨r', hr', e'⟩ := List.mem_map.mp m1
      obtain ⟨_, ts', e1, hT⟩ := F.tup r' hr'
      rw [e1] at e'
      cases e'
      rw [← hT _ _ rfl]
      exact PySem.W.looks_reads m2
  · have hm : ∃ r ∈ rs, kf r = .tuple [] := Classical.byContradiction fun z => hne fun r hr q => z ⟨r, hr, q⟩
    cases rs with
    | nil => obtain ⟨_, hr, _⟩ := hm; cases hr
    | cons r0 rs' =>
      have em := each_mapR (R := fun v d => ∃ as, Reads s.heap v d as) e
      rw [List.map_cons] at em
      have ht : ∀ d' ∈ kf r0 :: rs'.map kf, ∃ ts, d' = .tuple ts := fun d' hd' => by
        rw [← List.map_cons] at hd'
        obtain ⟨r, hr, rfl⟩ := List.mem_map.mp hd'
        obtain ⟨_, ts, e1, _⟩ := F.tup r hr
        exact ⟨ts, e1⟩
      have hmm : ∃ d' ∈ kf r0 :: rs'.map kf, d' = .tuple [] := by
        obtain ⟨r, hr, q⟩ := hm
        refine ⟨kf r, ?_, q⟩
        rw [← List.map_cons]
        exact List.mem_map_of_mem hr
      refine ⟨keys, if emT (kf r0) = true then oneType' else general', fun E x y a b Q ha hb hq => ?_, fun h2 E Q hq => mix_kind em ht hmm hq⟩
      obtain ⟨m1, as, r1⟩ := ownKind_inv ha
      obtain ⟨m2, bs, r2⟩ := ownKind_inv hb
      obtain ⟨c1, c2, _⟩ := F.cmp _ m1 _ m2
      obtain ⟨s1, ts1, e1, T1⟩ := F.tup _ m1
      obtain ⟨s2, ts2, e2, T2⟩ := F.tup _ m2
      have hq' : Q (cmpV .Lt (kf a) (kf b)) s := by rw [c2]; exact hq
      have l1 := canLay_of_shaped s1
      have l2 := canLay_of_shaped s2
      have hroom := room_of_shaped (db := kf b) s1 hu
      split
      · rw [keyLt'_oneType]
        rw [e1] at r1 l1 c1 hq' hroom
        rw [e2] at r2 l2 c1 hq' hroom
        cases r1 with
        | @tuple l o vs n _ _ h1 h2 h3 h4 =>
          cases r2 with
          | @tuple l' o' vs' n' _ _ k1 k2 k3 k4 =>
            have n1 : vs.size = ts1.length := by simpa using ReadsAll.length _ _ _ h4
            have n2 : vs'.size = ts2.length := by simpa using ReadsAll.length _ _ _ k4
            refine oneLt_tup ⟨_, h1, h2, _, h3⟩ ⟨_, k1, k2, _, k3⟩ (room_here hroom) ?_ hq'
            rw [n1, n2]
            exact rc_datas .lt ts1 ts2 A.in1 s _ _ _ _ _ h4 k4 c1 l1 l2 (room_in hroom)
      · show wpAny _ _ (oneLt' false x y) _ _ _
        rw [oneLt'_eq]
        simp only [Bool.false_eq_true, if_false]
        exact wpAny_bind (rc_data .lt _ _ A s _ _ _ _ r1 r2 c1 l1 l2 hroom prog w _ _ (wpAny_truthy_bool hq'))
end Ab
namespace L2
open PySem PySem.Spec PySem.Calls PyProof.Rows Ab
/-- what was untracked and is none of the old ones changes -/
theorem Un.later {fs : List Addr} {H H2 : Hp} {h h2 h3 : Heap} {ch : List Addr} (u : Un fs [] H H2 h h2) (k : ∀ b o, b ∉ ch → h2.get? b = some o → h3.get? b = some o) (hn : ∀ b ∈ ch, h.get? b = none) : Un fs [] H H2 h h3 where
  keep := fun b o q n hb hx => k b o (fun z => by rw [hn b z] at q; cases q) (u.keep b o q n hb hx)
  slot := fun b o q n hb hx => let ⟨sl, e⟩ := u.slot b o q n hb hx; ⟨sl, k b _ (fun z => by rw [hn b z] at q; cases q) e⟩
  free := u.free
  there := fun b o q hx => let ⟨o', e⟩ := u.there b o q hx; ⟨o', k b _ (fun z => by rw [hn b z] at q; cases q) e⟩
  tups := u.tups
  frzs := u.frzs
  tbls := u.tbls
/-- what stands there is tracked from now on -/
theorem Un.track {fs : List Addr} {H H2 : Hp} {h h2 : Heap} {a : Addr} {o : HO} (u : Un fs [] H H2 h h2) (hn : h.get? a = none) (h2n : H2 a = none) : Un fs [] H (upd H2 a o) h h2 where
  keep := u.keep
  slot := u.slot
  free := fun b ob q n hx => by rw [upd_ne fun z => by rw [z, hn] at q; cases q]; exact u.free b ob q n hx
  there := u.there
  tups := fun b xs q => by rw [upd_ne fun z => by have := u.tups b xs q; rw [z, h2n] at this; cases this]; exact u.tups b xs q
  frzs := fun b ob xs q => by rw [upd_ne fun z => by have := u.frzs b ob xs q; rw [z, h2n] at this; cases this]; exact u.frzs b ob xs q
  tbls := fun b ps q => by
    obtain ⟨more, e⟩ := u.tbls b ps q
    exact ⟨more, by rw [upd_ne fun z => by rw [z, h2n] at e; cases e]; exact e⟩
theorem HOk.later {P : Program} {w : World} {H : Hp} {h h' : Heap} {ch : List Addr} (x : HOk P w H h) (k : ∀ b o, b ∉ ch → h.get? b = some o → h'.get? b = some o) (hn : ∀ b ∈ ch, H b = none) : HOk P w H h' := fun b u e =>
  (x b u e).stay (fun c v hc q => k c v (fun z => by
    have hz := hn c z
    rcases hc with rfl | hc
    · rw [hz] at e; cases e
    · rw [hz] at hc; cases hc) q) (fun _ q => q) fun _ _ q => q
theorem HOk.track {P : Program} {w : World} {H : Hp} {h : Heap} {a : Addr} {o : HO} (x : HOk P w H h) (hn : H a = none) (new : ObjOk P w (upd H a o) h a o) : HOk P w (upd H a o) h := fun b u e => by
  by_cases hb : b = a
  · subst hb; rw [upd_same] at e; cases e; exact new
  · rw [upd_ne hb] at e
    exact (x b u e).stay (fun c v _ q => q) (fun c q => by rw [upd_ne (ne_of_none q hn)]; exact q) fun c xs q => by rw [upd_ne (ne_of_none q hn)]; exact q
theorem vals_each : ∀ {xs : List V} {us : List Value} {rs : List α}, Vals xs us → rs.length = xs.length → PySem.W.EachIs (fun (v : Value) (p : α × V) => RelV p.2 v) us (rs.zip xs)
  | [], [], [], .nil, _ => .nil
  | x :: xs, u :: us, r :: rs, .cons h t, e => .cons h (vals_each t (by simpa using e))
theorem each_vals {α : Type} : ∀ {us : List Value} {ps : List (α × V)}, PySem.W.EachIs (fun (v : Value) (p : α × V) => RelV p.2 v) us ps → Vals (ps.map Prod.snd) us
  | _, _, .nil => .nil
  | _, _, .cons h t => .cons h (each_vals t)
theorem keys_each {O : KeyOrd} {kf : O.α → PyData} {h : Heap} {rs0 : List O.α} {d : O.α} {T : Value} (F : KeyFit O kf T rs0) : ∀ {ks : List Value} {rs : List O.α} {xs : List V}, (∀ r ∈ rs, r ∈ rs0) → PySem.W.EachIs (fun v r => ∃ as, Reads h v (kf r) as) ks rs → rs.length = xs.length → PySem.W.EachIs (fun v (p : O.α × V) => (ownKind O kf h rs0 d).keyOf v = some p.1) ks (rs.zip xs)
  | _, [], [], _, .nil, _ => .nil
  | _, r :: rs, x :: xs, hm, .cons ⟨as, q⟩ t, e => .cons (ownKind_some F (hm r (List.mem_cons_self ..)) q) (keys_each F (fun r hr => hm r (List.mem_cons_of_mem _ hr)) t (by simpa using e))
theorem reads_each {X : Cx} {pins : List (Addr × Obj)} {σ : St} {H : Hp} {s : Shared} {α : Type} {kf : α → PyData} (I : Inv X pins σ H s) : ∀ {kVs : List V} {ks : List Value} {rs : List α}, Paired (fun k r => Dp X.K H k (kf r)) kVs rs → Vals kVs ks → PySem.W.EachIs (fun v r => ∃ as, Reads s.heap v (kf r) as) ks rs
  | _, _, _, .nil, .nil => .nil
  | _, _, _, .cons h t, .cons h' t' => .cons (Dp.reads I _ _ _ h h') (reads_each I t t')
def srtV {O : KeyOrd} (rs : List O.α) (xs : List V) : List V := ((rs.zip xs).mergeSort (PySem.W.sortLe O false Prod.fst)).map Prod.snd
def rSortF (K : PySem.W.Frag) (f : Addr) (sp : Sp) : List V → List V → Hp → VK → Prop := fun vs zs H Q => ∃ (l : Addr) (xs : List V), vs = [.ref l] ∧ zs = [.ref f] ∧ SqL K H l xs ∧ ∃ W : Nat → List V → Hp → Prop, W 0 [] H ∧
  (∀ i x ks H1, xs[i]? = some x → W i ks H1 → sp [x] H1 (fun k H2 => W (i + 1) (ks ++ [k]) H2) E0) ∧
  ∀ ks H1, W xs.length ks H1 → ∃ (O : KeyOrd) (kf : O.α → PyData) (T : Value) (rs : List O.α) (_ : O.α), rs.length = xs.length ∧ KeyFit O kf T rs ∧ Paired (fun k r => Dp K H1 k (kf r)) ks rs ∧ ∀ p, H1 p = none → Q (.ref p) (upd H1 p (.lst (srtV rs xs)))
theorem cr_sortF {X : Cx} {k : Nat} {f : Addr} {fd : FuncData} {ps : List Str} {sp : Sp} (F : FnOk X.prog X.w X.K X.mg X.base CX0 k f fd ps sp) (hr : Room (k + 2) X.A) (hb : Binds X.K fd ps []) : CallRK X (.builtin "sorted") [Str.ofString "key"] (rSortF X.K f sp) := by
  intro pins s σ H vs zs us ws Q I r rz h
  obtain ⟨l, xs, rfl, rfl, hs, W, w0, wt, wf⟩ := h
  obtain rfl := Vals.ref1 r
  obtain ⟨w1, rfl, e1⟩ := vals1 rz
  obtain rfl : w1 = Value.ref f := e1
  obtain ⟨its, rv, hl, hz⟩ := I.list hs
  have hlen : xs.length = its.length := rv.length
  have hr2 : Room k X.A.in1.in1 := (Room.in1 (k := k + 1) hr).in1
  have hold : ∀ b ∈ frs X.stack, ∃ o, s.heap.get? b = some o := fun b hb => by
    obtain ⟨_, o, ho, _⟩ := I.stack.mem hb
    exact ⟨o, ho⟩
  show wpAny _ _ (call (.builtin "sorted") [.ref l] [(Str.ofString "key", .ref f)]) _ _ _
  refine srt_call (vs := its) hl.isList (by omega) fun e1 h1 a kS E' ha hk hka hkeep h1a h1k => ?_
  have sa : s.heap.get? a = none := Heap.get?_none_of_le ha
  have sk : s.heap.get? kS = none := Heap.get?_none_of_le hk
  have nk : kS ∉ frs X.stack := fun z => by obtain ⟨o, ho⟩ := hold _ z; rw [sk] at ho; cases ho
  have na : a ∉ frs X.stack := fun z => by obtain ⟨o, ho⟩ := hold _ z; rw [sa] at ho; cases ho
  refine srt_rest hka (by omega) (fun i ks s' => ∃ H' kVs, ks.length = i ∧ (∃ e, s'.heap.get? kS = some (seqObj "list" ks.toArray e)) ∧ s'.heap.get? a = some (seqObj "list" #[] e1) ∧ H' a = none ∧ H' kS = none ∧ s'.os = s.os ∧ AllBare s'.gens ∧ Un (frs X.stack) [] H H' s.heap s'.heap ∧ HOk X.prog X.w H' s'.heap ∧ Vals kVs ks ∧ W i kVs H') ?_ ?_ ?_ ?_
  · exact ⟨H, [], rfl, ⟨0, h1k⟩, h1a, I.hok.fresh ha, I.hok.fresh hk, rfl, I.bare, Un.kept hkeep, I.hok.kept hkeep, .nil, w0⟩
  · rintro i ks s' ⟨H', kVs, q1, q2, q3, _⟩
    exact ⟨q1, q2, q3⟩
  · rintro i v ks s' hv ⟨H', kVs, q1, ⟨e, q2⟩, q3, q4, q5, q6, q7, q8, q9, q10, q11⟩
    have I' : Inv X pins σ H' s' := I.call' q6 q8 q9 q7 fun b z => nomatch z
    have ev := I'.env0
    obtain ⟨x, hx, rx⟩ : ∃ x, xs[i]? = some x ∧ RelV x v := by
      have hi := (List.getElem?_eq_some_iff.mp hv).1
      obtain ⟨u, hu, ru⟩ := rv.get (List.getElem?_eq_getElem (show i < xs.length by omega))
      rw [hv] at hu
      cases hu
      exact ⟨_, List.getElem?_eq_getElem (by omega), ru⟩
    have hw := wt i x kVs H' hx q11
    have hlen1 : ([v] : List Value).length = ps.length := (F.len _ _ _ _ hw)
    have hbd := hb s' [v] I'.kIn (by rw [List.append_nil]; exact hlen1)
    rw [List.append_nil] at hbd
    refine wpAny_call (codeAny_mono (F.run X.A.in1.in1 X.stack s' H' ⟨[v], []⟩ [v] [x] _ E0 hr2 ⟨ev.frames, ev.mod, ev.bs, ev.bsz, ev.funs, ev.frf, ev.hok, ev.bare⟩ hbd (.cons rx .nil) hw) fun out s2 ho => ?_)
    match out, ho with
    | .error _, ho => exact ho.elim
    | .ok (.ret u), ho =>
      obtain ⟨v2, H2, os2, bare2, un2, hok2, ru, w2⟩ := ho
      have k2 := un2.keep kS _ q2 q5 nk (fun z => nomatch z)
      have a2 := un2.keep a _ q3 q4 na (fun z => nomatch z)
      have na2 := un2.free a _ q3 q4 (fun z => nomatch z)
      have nk2 := un2.free kS _ q2 q5 (fun z => nomatch z)
      have kk : ∀ b o, b ∉ [kS] → s2.heap.get? b = some o → (s2.heap.update kS (Obj.mapSeq (·.push u))).get? b = some o := fun b o hb q => by
        rw [Heap.get?_update_ne _ _ _ _ (by simpa using hb)]
        exact q
      refine ⟨⟨e, k2⟩, H2, kVs ++ [v2], by rw [List.length_append, q1]; rfl, ?_, ?_, na2, nk2, os2.trans q6, bare2, ?_, ?_, q10.append (.cons ru .nil), w2⟩
      · have := get?_update_seq k2 (·.push u)
        rw [List.push_toArray] at this
        exact ⟨_, this⟩
      · exact kk a _ (by simpa using Ne.symm hka) a2
      · exact (q8.trans un2).later kk fun b hb => by rw [List.mem_singleton.mp hb]; exact sk
      · exact hok2.later kk fun b hb => by rw [List.mem_singleton.mp hb]; exact nk2
  · rintro ks s' ⟨H', kVs, q1, q2, q3, q4, q5, q6, q7, q8, q9, q10, q11⟩
    have I' : Inv X pins σ H' s' := I.call' q6 q8 q9 q7 fun b z => nomatch z
    rw [← hlen] at q11
    obtain ⟨O, kf, T, rs, d, hrl, fit, hp, q⟩ := wf kVs H' q11
    have he := reads_each I' hp q10
    refine ⟨ownKind O kf s'.heap rs d, own_sorts fit he hr2.units, fun h' tk c kp hc => ⟨rfl, .ref a, upd H' a (.lst (srtV rs xs)), ?_, rfl, q a q4⟩⟩
    have ho : PySem.W.EachIs (fun (v : Value) (p : O.α × V) => RelV p.2 v) (PySem.W.sortVals (ownKind O kf s'.heap rs d) false ks its) ((rs.zip xs).mergeSort (PySem.W.sortLe O false Prod.fst)) :=
      PySem.W.sortVals_each (κ := ownKind O kf s'.heap rs d) Prod.fst (vals_each rv hrl) (keys_each fit (fun _ h => h) he hrl)
    have hv := each_vals ho
    have kk : ∀ b o, b ∉ [a, kS] → s'.heap.get? b = some o → h'.get? b = some o := fun b o hb q => kp b o (fun z => hb (by rw [z]; simp)) (fun z => hb (by rw [z]; simp)) q
    have hsl : (srtV rs xs).length ≤ sizeLine := by
      unfold srtV
      rw [List.length_map, (List.mergeSort_perm _ _).length_eq, List.length_zip, hrl, Nat.min_self]
      omega
    refine I.call' (s' := { s' with heap := h', toks := tk }) q6 ((q8.later kk fun b hb => ?_).track sa q4) ((q9.later kk fun b hb => ?_).track q4 ⟨hsl, _, c, hv, hc⟩) q7 fun b z => nomatch z
    · rcases List.mem_cons.mp hb with rfl | hb
      · exact sa
      · rw [List.mem_singleton.mp hb]; exact sk
    · rcases List.mem_cons.mp hb with rfl | hb
      · exact q4
      · rw [List.mem_singleton.mp hb]; exact q5
end L2
set_option Elab.async false
set_option linter.all false
set_option maxRecDepth 1000000
set_option  maxHeartbeats 4000000
namespace Ab
open PySem PySem.Spec PyProof.Rows L2
section
variable {K : KX} {ρ : Rho} {M : MH} {Q : Sl → MH → Prop}
def leK (O : KeyOrd) (a b : O.α) : Bool := !O.blt b a
theorem paired_map {α : Type} {F : PySem.W.Frag} {B : Hp} {u : α → V} {g : α → Sl} : ∀ l : List α, (∀ p ∈ l, SlOk F B (u p) (g p)) → SlAll F B (l.map u) (l.map g)
  | [], _ => .nil
  | p :: l, h => .cons (h p (List.mem_cons_self ..)) (paired_map l fun q hq => h q (List.mem_cons_of_mem _ hq))
theorem zip_ok {α : Type} {F : PySem.W.Frag} {B : Hp} {g : α → Sl} : ∀ {rs : List α} {vs : List V}, SlAll F B vs (rs.map g) → ∀ p ∈ rs.zip vs, SlOk F B p.2 (g p.1)
  | [], _, _, p, hp => by simp at hp
  | r :: rs, v :: vs, .cons h t, p, hp => by
    rw [List.zip_cons_cons] at hp
    rcases List.mem_cons.mp hp with rfl | hp
    · exact h
    · exact zip_ok t p hp
theorem srt_all {F : PySem.W.Frag} {B : Hp} {O : KeyOrd} {g : O.α → Sl} {rs : List O.α} {vs : List V} (h : SlAll F B vs (rs.map g)) : SlAll F B (srtV rs vs) ((rs.mergeSort (leK O)).map g) := by
  have hl : rs.length ≤ vs.length := by rw [SlAll.len h, List.length_map]; exact Nat.le_refl _
  have e : rs.mergeSort (leK O) = ((rs.zip vs).mergeSort (PySem.W.sortLe O false Prod.fst)).map Prod.fst := by
    have z := List.map_mergeSort (r := PySem.W.sortLe O false Prod.fst) (s := leK O) (f := Prod.fst) (l := rs.zip vs) fun a _ b _ => rfl
    rw [z, List.map_fst_zip hl]
  rw [e, List.map_map]
  exact paired_map _ fun p hp => zip_ok h p ((List.mergeSort_perm _ _).mem_iff.mp hp)
theorem paired_dp {α : Type} {F : PySem.W.Frag} {B H : Hp} {kf : α → PyData} (e : Same B H) : ∀ {ks : List V} {rs : List α}, (∀ r ∈ rs, SeqAt.shaped (kf r) = true) → SlAll F B ks (rs.map fun r => .dat (kf r)) → Paired (fun k r => Dp F H k (kf r)) ks rs
  | _, [], _, .nil => .nil
  | _, _ :: _, z, .cons h t => .cons (dq_dpS (z _ List.mem_cons_self) (dp_same e _ _ h)) (paired_dp e (fun r hr => z r (List.mem_cons_of_mem _ hr)) t)
/-- sorted(xs, key=f) -/
theorem w_sortF {A : ASp} {f : Addr} {t tk : TA} {O : KeyOrd} {kf : O.α → PyData} {T : Value} (h : WA K t ρ M fun ss M1 => WA K tk ρ M1 fun zs M2 => ∃ (s : Sl) (rs : List O.α) (g : O.α → Sl) (_ : O.α), ss = [s] ∧ zs = [.raw (.ref f)] ∧ LsV K.K s M2 (rs.map g) ∧ KeyFit O kf T rs ∧
    (∀ r ∈ rs, ∀ QA : Sl → MH → Prop, QA (.dat (kf r)) M2 → A [g r] M2 QA) ∧ ∀ p, M2 p = none → Q (.raw (.ref p)) (um M2 p (.lst ((rs.mergeSort (leK O)).map g)))) : W K (tCKw (rSortF K.K f (conc K.K A)) t tk) ρ M Q := fun σ B H hR hS Q0 k =>
  h σ B H hR hS _ fun ss vs M1 B1 H1 h1 e1 S1 o1 => h1 σ B1 H1 (hR.mono e1) S1 _ fun zs ws M2 B2 H2 ⟨s, rs, g, d, es, ez, hl, fit, ha, q⟩ e2 S2 o2 => by
    subst es ez
    cases o1 with
    | cons oa ob =>
      cases ob
      cases o2 with
      | cons ob oc =>
        cases oc
        obtain ⟨a, xs, rfl, hq, hx⟩ := hl.get S2 (oa.mono e2)
        obtain rfl : _ = V.ref f := ob
        have hlen : xs.length = rs.length := by rw [SlAll.len hx, List.length_map]
        refine ⟨a, xs, rfl, rfl, hq, fun i ks H' => ∃ B', Same B2 B' ∧ Sep K.K B' M2 H' ∧ SlAll K.K B' ks ((rs.take i).map fun r => .dat (kf r)), ⟨B2, Same.refl _, S2, .nil⟩, ?_, ?_⟩
        · rintro i x ks H1' hxi ⟨B', e', S', o'⟩
          have hi : i < rs.length := by rw [← hlen]; exact (List.getElem?_eq_some_iff.mp hxi).1
          obtain ⟨v, hv, ov⟩ := SlAll.get hx (i := i) (s := g rs[i]) (by rw [List.getElem?_map, List.getElem?_eq_getElem hi]; rfl)
          rw [hxi] at hv
          cases hv
          refine ⟨B', M2, [g rs[i]], fun s M' => s = .dat (kf rs[i]) ∧ M' = M2, S', .cons (ov.mono e') .nil, ha _ (List.getElem_mem hi) _ ⟨rfl, rfl⟩, fun s v M' B'' H'' ⟨es, em⟩ e'' S'' o'' => ?_⟩
          subst es em
          refine ⟨B'', e'.trans e'', S'', ?_⟩
          rw [List.take_succ_eq_append_getElem hi, List.map_append]
          exact SlAll.app (SlAll.mono e'' o') (.cons o'' .nil)
        · rintro ks H1' ⟨B', e', S', o'⟩
          rw [hlen, List.take_length] at o'
          refine ⟨O, kf, T, rs, d, hlen.symm, fit, paired_dp S'.sub (fun r hr => (fit.tup r hr).1) o', fun p hp => ?_⟩
          exact k _ _ (um M2 p _) B' _ (q p (S'.freeM hp)) ((e1.trans e2).trans e') (S'.new hp ⟨_, rfl, srt_all (SlAll.mono e' hx)⟩) slok_ref
end
end Ab
set_option Elab.async false
set_option linter.all false
set_option maxRecDepth 1000000
set_option  maxHeartbeats 4000000
namespace Ab
open PySem PySem.Spec PyProof.Rows L2
section
variable {K : KX} {ρ : Rho} {M : MH} {Q : Sl → MH → Prop} {te td tk tv : TE} {tb : TS} {nx bk ct : Rho → MH → Prop} {rt : Sl → MH → Prop}
/-- a dict is locked for an expression -/
theorem w_lock {a : Addr} {kvs : List (Key × Sl)} (h : M a = some (.dK kvs)) (hw : ∀ od v, W K te ρ (um M a (.frz od v (.dK kvs))) fun s M' => M' a = some (.frz od v (.dK kvs)) ∧ Q s (um M' a (.dK kvs))) : W K (tLockE te) ρ M Q := fun σ B H hR hS Q0 k => by
  obtain ⟨hB, u, hu, vs, rfl, hv⟩ := hS.has a _ h
  refine ⟨a, .dK vs, hu, trivial, fun od => hw od (.dK vs) σ B _ hR (hS.put h ⟨rfl, vs, rfl, hv⟩) _ fun s v M' B' H' ⟨hM', q⟩ e S o => ?_⟩
  obtain ⟨_, u', hu', rfl, vs', e', hv'⟩ := S.has a _ hM'
  cases e'
  exact ⟨hu', k s v _ B' _ q e (S.put hM' ⟨vs, rfl, hv'⟩) o⟩
/-- .. for a statement -/
theorem ws_lock {a : Addr} {kvs : List (Key × Sl)} (h : M a = some (.dK kvs)) (hw : ∀ od v, WS K tb ρ (um M a (.frz od v (.dK kvs))) ⟨fun ρ' M' => M' a = some (.frz od v (.dK kvs)) ∧ nx ρ' (um M' a (.dK kvs)), fun s M' => M' a = some (.frz od v (.dK kvs)) ∧ rt s (um M' a (.dK kvs)), fun ρ' M' => M' a = some (.frz od v (.dK kvs)) ∧ bk ρ' (um M' a (.dK kvs)), fun ρ' M' => M' a = some (.frz od v (.dK kvs)) ∧ ct ρ' (um M' a (.dK kvs))⟩) :
    WS K (tLock tb) ρ M ⟨nx, rt, bk, ct⟩ := fun σ B H D hR hS p1 p2 p3 p4 => by
  obtain ⟨hB, u, hu, vs, rfl, hv⟩ := hS.has a _ h
  refine ⟨a, .dK vs, hu, trivial, fun od => hw od (.dK vs) σ B _ _ hR (hS.put h ⟨rfl, vs, rfl, hv⟩) (fun ρ' M' σ' B' H' ⟨hM', q⟩ e R S => ?_) (fun s v M' B' H' ⟨hM', q⟩ e S o => ?_) (fun ρ' M' σ' B' H' ⟨hM', q⟩ e R S => ?_) (fun ρ' M' σ' B' H' ⟨hM', q⟩ e R S => ?_)⟩
  · obtain ⟨_, u', hu', rfl, vs', e', hv'⟩ := S.has a _ hM'
    cases e'
    exact ⟨hu', p1 ρ' _ σ' B' _ q e R (S.put hM' ⟨vs, rfl, hv'⟩)⟩
  · obtain ⟨_, u', hu', rfl, vs', e', hv'⟩ := S.has a _ hM'
    cases e'
    exact ⟨hu', p2 s v _ B' _ q e (S.put hM' ⟨vs, rfl, hv'⟩) o⟩
  · obtain ⟨_, u', hu', rfl, vs', e', hv'⟩ := S.has a _ hM'
    cases e'
    exact ⟨hu', p3 ρ' _ σ' B' _ q e R (S.put hM' ⟨vs, rfl, hv'⟩)⟩
  · obtain ⟨_, u', hu', rfl, vs', e', hv'⟩ := S.has a _ hM'
    cases e'
    exact ⟨hu', p4 ρ' _ σ' B' _ q e R (S.put hM' ⟨vs, rfl, hv'⟩)⟩
theorem slok_kS {F : PySem.W.Frag} {B : Hp} : ∀ k : Key, SlOk F B (kV k) (kS k)
  | .inl _ => slok_int
  | .inr _ => slok_str
theorem slks_at {F : PySem.W.Frag} {B : Hp} : ∀ {vs : List (Key × V)} {kvs : List (Key × Sl)} {i : Nat} {k : Key} {v : V}, SlKs F B vs kvs → vs[i]? = some (k, v) → ∃ s, kvs[i]? = some (k, s)
  | (k, v) :: _, (k', s) :: _, 0, _, _, .cons h t, e => by
    cases e
    have h1 : k = k' := h.1
    exact ⟨s, by rw [List.getElem?_cons_zero, h1]⟩
  | _, _, i + 1, k, v, .cons _ t, e => by
    obtain ⟨s, h⟩ := slks_at (i := i) t (by simpa using e)
    exact ⟨s, by simpa using h⟩
/-- the keys of a locked dict -/
theorem wi_keys {R : Nat → (Nat → Sl) → (MH → Prop) → MH → Prop} (h : W K td ρ M fun s M1 => ∃ a od v kvs, s = .raw (.ref a) ∧ M1 a = some (.frz od v (.dK kvs)) ∧ R kvs.length (fun i => (kvs.map fun q => kS q.1).getD i .non) (fun M2 => M2 a = some (.frz od v (.dK kvs))) M1) : WI K (iKeys td) ρ M R := fun σ B H hR hS R0 k =>
  h σ B H hR hS _ fun s v0 M1 B1 H1 ⟨a, od, v, kvs, es, hM, q⟩ e1 S1 o1 => by
    subst es
    obtain rfl : v0 = .ref a := o1
    obtain ⟨_, u, hu, rfl, vs, rfl, hv⟩ := S1.has a _ hM
    have hl : vs.length = kvs.length := Paired.length hv
    refine ⟨a, od, rfl, .inl ⟨vs, hu, k kvs.length _ _ M1 B1 H1 _ q e1 S1 ⟨fun i B2 M2 H2 hi e2 S2 st => ?_, fun i B2 M2 H2 x H3 hi e2 S2 st y => ?_, fun i B2 M2 H2 hi e2 S2 st => ?_⟩⟩⟩
    · obtain ⟨_, u2, hu2, rfl, _⟩ := S2.has a _ st
      exact ⟨hu2, by omega⟩
    · obtain ⟨rfl, kk, vv, hk, rfl⟩ := y
      obtain ⟨s, hs⟩ := slks_at hv hk
      refine ⟨B2, Same.refl _, S2, ?_⟩
      rw [List.getD_eq_getElem?_getD, List.getElem?_map, hs]
      exact slok_kS kk
    · obtain ⟨_, u2, hu2, rfl, _⟩ := S2.has a _ st
      exact ⟨hu2, by omega⟩
/-- {k: v for x in ..} -/
theorem w_dc {wi : TI} {tt : TT} {g : TG} {vs : List Nat} (h : WI K wi ρ M fun n item stay M1 => ∃ J : Nat → List (Key × Sl) → MH → Prop, J 0 [] M1 ∧ (∀ i acc M', i ≤ n → J i acc M' → ∀ D o, M' D = none → stay (um M' D o)) ∧
    (∀ i acc M' D, i < n → J i acc M' → M' D = none → ∃ f, LcT K.K g vs (item i) f ∧ WT K tt (f (wipeR ρ vs)) (um M' D (.dK acc)) fun b M3 =>
      if b = true then W K tk (f (wipeR ρ vs)) M3 fun y M4 => W K tv (f (wipeR ρ vs)) M4 fun z M5 => ∃ k M6, y = kS k ∧ M5 = um M6 D (.dK acc) ∧ M6 D = none ∧ acc.length < 1000000 ∧ J (i + 1) (putG acc k z) M6
      else ∃ M6, M3 = um M6 D (.dK acc) ∧ M6 D = none ∧ J (i + 1) acc M6) ∧
    ∀ acc M' D, J n acc M' → M' D = none → Q (.raw (.ref D)) (um M' D (.dK acc))) : W K (tDc wi g tt tk tv vs) ρ M Q := fun σ B H hR hS Q0 k =>
  h σ B H hR hS _ fun n item stay M1 B1 H1 It ⟨J, j0, js, jt, je⟩ e1 S1 ok => fun D hD => by
    refine ⟨fun i m H' => m = n - i ∧ i ≤ n ∧ ∃ acc M' B', J i acc M' ∧ M' D = none ∧ Same B1 B' ∧ Sep K.K B' (um M' D (.dK acc)) H', ⟨n, by simp, Nat.zero_le _, [], M1, B1, j0, S1.freeM hD, Same.refl _, S1.new hD ⟨[], rfl, .nil⟩⟩, ?_⟩
    rintro i m H' ⟨rfl, hi, acc, M', B', hj', hMD, e2, S2⟩
    by_cases hlt : i < n
    · refine .inr ⟨ok.go i B' _ H' hlt e2 S2 (js i acc M' hi hj' D _ hMD), fun H2 => ∃ acc M2 B2, J (i + 1) acc M2 ∧ M2 D = none ∧ Same B1 B2 ∧ Sep K.K B2 (um M2 D (.dK acc)) H2, fun H2 ⟨acc, M2, B2, q⟩ => ⟨n - (i + 1), by omega, rfl, hlt, acc, M2, B2, q⟩, fun x H3 y => ?_⟩
      obtain ⟨B3, e3, S3, o3⟩ := ok.yld i B' _ H' x H3 hlt e2 S2 (js i acc M' hi hj' D _ hMD) y
      obtain ⟨f, hf, ht⟩ := jt i acc M' D hlt hj' hMD
      have hR3 := hR.mono ((e1.trans e2).trans e3)
      refine hf B3 H3 x (wipe σ vs) (wipeR ρ vs) _ S3 o3 (hR3.wiped vs).r _ fun σ2 hw hr2 => ⟨hw.trans (wipe_wipe σ vs), ?_⟩
      have R3 : Rl K B3 σ2 (f (wipeR ρ vs)) := ⟨hr2, hR3.x⟩
      refine ht σ2 B3 H3 R3 S3 _ fun b M4 B4 H4 q4 e4 S4 => ?_
      have e14 := (e2.trans e3).trans e4
      cases b with
      | true =>
        refine q4 σ2 B4 H4 (R3.mono e4) S4 _ fun y vy M5 B5 H5 q5 e5 S5 oy => ?_
        refine q5 σ2 B5 H5 (R3.mono (e4.trans e5)) S5 _ fun z vz M6 B6 H6 ⟨kk, M7, ey, em, hn7, hl7, hj7⟩ e6 S6 oz => ?_
        subst ey em
        obtain ⟨_, u, hu, ws, rfl, ha⟩ := S6.has D _ um_same
        have hlen : ws.length = acc.length := Paired.length ha
        refine ⟨ws, kk, of_kS (oy.mono e6), hu, Nat.lt_of_lt_of_le (by omega) (show 1000000 ≤ sizeLine by decide), putG acc kk z, M7, B6, hj7, hn7, (e14.trans e5).trans e6, ?_⟩
        have S7 := S6.put (u := .dK (putK ws kk vz)) (o' := .dK (putG acc kk z)) um_same ⟨_, rfl, slks_putK oz ha⟩
        rw [um_um] at S7
        exact S7
      | false =>
        obtain ⟨M5, em, hn5, hj5⟩ := q4
        subst em
        exact ⟨acc, M5, B4, hj5, hn5, e14, S4⟩
    · have ei : i = n := by omega
      subst ei
      refine .inl ⟨ok.stop i B' _ H' (Nat.le_refl _) e2 S2 (js i acc M' hi hj' D _ hMD), ?_⟩
      exact k _ _ _ B' H' (je acc M' D hj' hMD) (e1.trans e2) S2 slok_ref
end
section
variable {K : PySem.W.Frag} {M : MH} {Q : Sl → MH → Prop}
/-- list(d) -/
abbrev rListDk : List V → Hp → VK → Prop := fun xs H Q => ∃ (a : Addr) (kvs : List (Key × V)), xs = [.ref a] ∧ Rd H a (.dK kvs) ∧ ∀ p, H p = none → Q (.ref p) (upd H p (.lst (kvs.map fun kv => kV kv.1)))
theorem slks_keys {B : Hp} : ∀ {vs : List (Key × V)} {kvs : List (Key × Sl)}, SlKs K B vs kvs → SlAll K B (vs.map fun kv => kV kv.1) (kvs.map fun q => kS q.1)
  | _, _, .nil => .nil
  | (k, v) :: _, (k', s) :: _, .cons h t => .cons (by have h1 : k = k' := h.1; subst h1; exact slok_kS k) (slks_keys t)
theorem wl_listD {s : Sl} {kvs : List (Key × Sl)} (h : DcV K s M kvs) (q : ∀ p, M p = none → Q (.raw (.ref p)) (um M p (.lst (kvs.map fun q => kS q.1)))) : WL K rListDk [s] M Q := fun B H vs hS o Q0 k => by
  cases o with
  | cons o1 o2 =>
    cases o2
    obtain ⟨a, us, rfl, hr, hk⟩ := h.get hS o1
    exact ⟨a, us, rfl, hr, fun p hp => k _ _ (um M p _) B _ (q p (hS.freeM hp)) (Same.refl B) (hS.new hp ⟨_, rfl, slks_keys hk⟩) slok_ref⟩
def leT (x y : Str) : Bool := !decide (y.cps.toList < x.cps.toList)
def sortT (ks : List Str) : List Str := ks.mergeSort leT
theorem leT_iff {x y : Str} : leT x y = true ↔ x = y ∨ x.cps.toList < y.cps.toList := by
  unfold leT
  rw [Bool.not_eq_true', decide_eq_false_iff_not]
  constructor
  · intro h
    rcases Std.lt_trichotomy x.cps.toList y.cps.toList with h' | h' | h'
    · exact .inr h'
    · left
      have hc : x.cps = y.cps := Array.toList_inj.mp h'
      cases x
      cases y
      simp only [Str.mk.injEq]
      exact hc
    · exact absurd h' h
  · rintro (rfl | h) h2
    · exact List.lt_irrefl _ h2
    · exact List.lt_asymm h h2
theorem leT_trans (a b c : Str) (h1 : leT a b = true) (h2 : leT b c = true) : leT a c = true := by
  rw [leT_iff] at *
  rcases h1 with rfl | h1
  · exact h2
  · rcases h2 with rfl | h2
    · exact .inr h1
    · exact .inr (List.lt_trans h1 h2)
theorem leT_total (a b : Str) : (leT a b || leT b a) = true := by
  rw [Bool.or_eq_true, leT_iff, leT_iff]
  rcases Std.lt_trichotomy a.cps.toList b.cps.toList with h | h | h
  · exact .inl (.inr h)
  · left; left
    have hc : a.cps = b.cps := Array.toList_inj.mp h
    cases a
    cases b
    simp only [Str.mk.injEq]
    exact hc
  · exact .inr (.inr h)
theorem leT_anti {a b : Str} (h1 : leT a b = true) (h2 : leT b a = true) : a = b := by
  rw [leT_iff] at h1 h2
  rcases h1 with h1 | h1
  · exact h1
  · rcases h2 with h2 | h2
    · exact h2.symm
    · exact absurd h2 (List.lt_asymm h1)
theorem sortT_pw (ks : List Str) : (sortT ks).Pairwise fun a b => leT a b = true := List.pairwise_mergeSort leT_trans leT_total ks
theorem rising_pw : ∀ {p : Str} {ys : List Str}, risingS p ys = true → (p :: ys).Pairwise fun a b => leT a b = true
  | p, [], _ => List.pairwise_singleton ..
  | p, x :: r, h => by
    rw [risingS, Bool.and_eq_true, ltCps_eq] at h
    have ih := rising_pw h.2
    have hpx : leT p x = true := h.1
    refine List.pairwise_cons.mpr ⟨fun y hy => ?_, ih⟩
    rcases List.mem_cons.mp hy with rfl | hy
    · exact hpx
    · exact leT_trans _ _ _ hpx ((List.pairwise_cons.mp ih).1 y hy)
theorem sorted_is {ys ks : List Str} (hp : ys.Perm ks) (hs : sortedS ys = true) : ys = sortT ks := by
  refine List.Perm.eq_of_pairwise (le := fun a b => leT a b = true) (fun a b _ _ => leT_anti) ?_ (sortT_pw ks) (hp.trans (List.mergeSort_perm ks leT).symm)
  cases ys with
  | nil => exact .nil
  | cons x r => exact rising_pw hs
theorem sla_strs {B : Hp} : ∀ ys : List Str, SlAll K B (ys.map V.str) (ys.map fun y => .str y)
  | [] => .nil
  | _ :: ys => .cons slok_str (sla_strs ys)
theorem sla_str {B : Hp} : ∀ {vs : List V} {ys : List Str}, SlAll K B vs (ys.map fun y => .str y) → vs = ys.map V.str
  | _, [], .nil => rfl
  | _, _ :: _, .cons h t => by rw [List.map_cons, ← sla_str t, of_str h]
theorem wl_sortedS {s : Sl} {ys : List Str} (h : LsV K s M (ys.map fun y => .str y)) (hl : ys.length < 64) (q : ∀ p, M p = none → Q (.raw (.ref p)) (um M p (.lst ((sortT ys).map fun y => .str y)))) : WL K (rSortedS K) [s] M Q := fun B H vs hS o Q0 k => by
  cases o with
  | cons o1 o2 =>
    cases o2
    obtain ⟨a, us, rfl, hr, hk⟩ := h.get hS o1
    have e := sla_str hk
    subst e
    refine ⟨a, ys, rfl, hr, hl, fun zs p hp hs hn => ?_⟩
    have e2 := sorted_is hp hs
    subst e2
    exact k _ _ (um M p _) B _ (q p (hS.freeM hn)) (Same.refl B) (hS.new hn ⟨_, rfl, sla_strs _⟩) slok_ref
/-- sorted(d), the keys texts -/
abbrev rSortedDk : List V → Hp → VK → Prop := fun xs H Q => ∃ (a : Addr) (kvs : List (Key × V)) (ks : List Str), xs = [.ref a] ∧ Rd H a (.dK kvs) ∧ kvs.map (·.1) = ks.map Sum.inr ∧ ks.length < 64 ∧
  ∀ ys p, ys.Perm ks → sortedS ys = true → H p = none → Q (.ref p) (upd H p (.lst (ys.map V.str)))
theorem slks_fst {B : Hp} : ∀ {vs : List (Key × V)} {kvs : List (Key × Sl)}, SlKs K B vs kvs → vs.map (·.1) = kvs.map (·.1)
  | _, _, .nil => rfl
  | _, _, .cons ⟨h1, _⟩ t => by rw [List.map_cons, List.map_cons, slks_fst t, h1]
theorem wl_sortedD {s : Sl} {kvs : List (Key × Sl)} {ks : List Str} (h : DcV K s M kvs) (hk : kvs.map (·.1) = ks.map Sum.inr) (hl : ks.length < 64) (q : ∀ p, M p = none → Q (.raw (.ref p)) (um M p (.lst ((sortT ks).map fun y => .str y)))) : WL K rSortedDk [s] M Q := fun B H vs hS o Q0 k => by
  cases o with
  | cons o1 o2 =>
    cases o2
    obtain ⟨a, us, rfl, hr, hk2⟩ := h.get hS o1
    refine ⟨a, us, ks, rfl, hr, by rw [slks_fst hk2]; exact hk, hl, fun zs p hp hs hn => ?_⟩
    have e2 := sorted_is hp hs
    subst e2
    exact k _ _ (um M p _) B _ (q p (hS.freeM hn)) (Same.refl B) (hS.new hn ⟨_, rfl, sla_strs _⟩) slok_ref
/-- xs.extend(ys) -/
theorem wm_extend {a b : Addr} {xs zs : List Sl} (ha : M a = some (.lst xs)) (hb : M b = some (.lst zs)) (hl : xs.length + zs.length ≤ 1000000) (q : Q .non (um M a (.lst (xs ++ zs)))) : WM K rExtend (.raw (.ref a)) [.raw (.ref b)] M Q := fun B H v vs hS o1 o2 Q0 k => by
  cases o2 with
  | cons o2 o3 =>
    cases o3
    obtain rfl : v = V.ref a := o1
    obtain rfl : _ = V.ref b := o2
    obtain ⟨_, u, hu, us, rfl, h1⟩ := hS.has a _ ha
    obtain ⟨_, u2, hu2, ws, rfl, h2⟩ := hS.has b _ hb
    refine ⟨a, b, us, ws, rfl, rfl, hu, hu2, Nat.le_trans (by rw [SlAll.len h1, SlAll.len h2]; exact hl) (show 1000000 ≤ sizeLine by decide), ?_⟩
    exact k _ _ (um M a _) B _ q (Same.refl B) (hS.put ha ⟨_, rfl, SlAll.app h1 h2⟩) slok_non
/-- x in xs, xs a list of data that may change -/
theorem w2_inL {s : Sl} {d : PyData} {ds : List PyData} (hl : LsV K s M (ds.map .dat)) (h1 : SeqAt.shaped d = true) (h2 : SeqAt.shaped (.list ds) = true) (q : Q (.bl (ds.any fun z => PyData.eqv z d)) M) : W2 K (rInD K) (.dat d) s M Q := fun B H v w hS o1 o2 Q0 k => by
  obtain ⟨a, vs, rfl, hq, ha⟩ := hl.get hS o2
  exact ⟨d, ds, dq_dpS h1 (dp_same hS.sub _ _ o1), .lst hq (dqa_dpS h2 (dpa_same hS.sub _ _ (dpa_of ha))), h1, h2, k _ _ M B H q (Same.refl B) hS slok_bl⟩
/-- len(d), isinstance(d, ..) of a dict that changes -/
abbrev rLenDk : List V → Hp → VK → Prop := fun xs H Q => ∃ a kvs, xs = [V.ref a] ∧ H a = some (.dK kvs) ∧ Q (.int kvs.length) H
theorem wl_lenDk {a : Addr} {kvs : List (Key × Sl)} (h : M a = some (.dK kvs)) (q : Q (.int (kvs.length : Int)) M) : WL K rLenDk [.raw (.ref a)] M Q := fun B H vs hS o Q0 k => by
  cases o with
  | cons o1 o2 =>
    cases o2
    obtain rfl : _ = V.ref a := o1
    obtain ⟨_, u, hu, us, rfl, h1⟩ := hS.has a _ h
    have e : us.length = kvs.length := Paired.length h1
    exact ⟨a, us, rfl, hu, by rw [e]; exact k _ _ M B H q (Same.refl B) hS slok_int⟩
end
end Ab
set_option Elab.async false
set_option linter.all false
set_option maxRecDepth 1000000
set_option  maxHeartbeats 4000000
namespace L2
open PySem PySem.Spec PyProof.Rows
section
variable {P : Program} {w : World} {K : PySem.W.Frag} {mg : Str → Option Value} {base : Heap} {x qual : Str} {st : Stmt} {dvs : List V} {f : Addr} {fd : FuncData}
theorem FunD.okN {N ps : List Str} {k : Nat} {sp : Sp} (F : FunD K x qual (defArgs st) (defBody st) (defScope st) dvs [] f fd) (S : FnScope N ps (defScope st)) (len : ∀ vs H Q E, sp vs H Q E → vs.length = ps.length)
    (hbody : ∀ (cdv : Value) (A : Around) (outer : List Env) (s : Shared) (H : Hp) (vs : List V) (Q : VK) (E : XK), Room k (A.deeper (envOfC qual (defScope st) s.heap.objs.size f cdv)) → sp vs H Q E →
      ∃ t, PSs (cxOf CX0 P w K mg base N qual (defScope st) f cdv A outer s H E).nox (defBody st) t ∧ t { nx := fun _ H' => Q .non H', rt := Q } (start N vs) H) : FnOk P w K mg base CX0 (k + 1) f fd ps sp :=
  F.ok S len fun cdv A outer s H vs Q E hr hsp => let ⟨t, h, q⟩ := hbody cdv A outer s H vs Q E hr hsp; ⟨t, h.nox, q⟩
theorem fund_mk {oc : Value} {od an : Option Addr} {osl : Array (Option Value)} {T e0 : Addr} {oT : Obj} {n : Nat} {kV doc pm cdv ct : Value} (l : K.lookup f = some ⟨oc, od, .func (PySem.W.fnOf x qual (defArgs st) (defBody st) (defScope st) (.ref T) kV doc pm an cdv ct), osl⟩)
    (c : PySem.W.codeIn K cdv qual = true) (k : PySem.W.keepIn K (.ref f) = true) (lT : K.lookup T = some oT) (oTd : oT.data = .seq #[.ref e0] n) : FunD K x qual (defArgs st) (defBody st) (defScope st) [.ref e0] [] f (PySem.W.fnOf x qual (defArgs st) (defBody st) (defScope st) (.ref T) kV doc pm an cdv ct) :=
  ⟨⟨oc, od, .ref T, kV, doc, pm, an, cdv, ct, osl, rfl, l, c, .inr ⟨by simp, T, oT, [.ref e0], n, rfl, lT, oTd, .cons rfl .nil⟩, .inl rfl⟩, k⟩
/-- rules that name the module's part (within a comprehension) -/
theorem pe_fldK {X : Cx} {K : PySem.W.Frag} {e : Expr} {f : Str} {pos : Pos} {ta : TE} (hK : X.K = K) (he : PE X e ta) (hb : attributeBase e f X.env (eval e X.env) = eval e X.env) : PE X (.Attribute e f pos) (tFld K ta f) := by
  subst hK
  exact pe_fld he hb
theorem cr_sortFK {X : Cx} {K : PySem.W.Frag} {k : Nat} {f : Addr} {fd : FuncData} {ps : List Str} {sp : Sp} (hK : X.K = K) (F : FnOk X.prog X.w X.K X.mg X.base CX0 k f fd ps sp) (hr : Room (k + 2) X.A) (hb : Binds X.K fd ps []) : CallRK X (.builtin "sorted") [Str.ofString "key"] (rSortF K f sp) := by
  subst hK
  exact cr_sortF F hr hb
theorem vals_nil {ds : List Value} (h : Vals [] ds) : ds = [] := by cases h; rfl
theorem vals_ref1 {e0 : Addr} {ds : List Value} (h : Vals [V.ref e0] ds) : ds = [.ref e0] := by
  cases h with
  | cons a b =>
    cases b
    rw [show _ = Value.ref e0 from a]
end
end L2
namespace Ab
open PySem PySem.Spec PyProof.Rows L2
theorem ab_okD {K : PySem.W.Frag} {P : Program} {w : World} {mg : Str → Option Value} {base : Heap} {x qual : Str} {st : Stmt} {dvs : List V} {f : Addr} {fd : FuncData} {N ps : List Str} {k : Nat} {A : ASp} (F : FunD K x qual (defArgs st) (defBody st) (defScope st) dvs [] f fd) (S : FnScope N ps (defScope st))
    (hlen : ∀ ss M Q, A ss M Q → ss.length = ps.length)
    (hb : ∀ (cdv : Value) (Ar : Around) (outer : List Env) (s : Shared) (H : Hp) (E : XK), Room k (Ar.deeper (envOfC qual (defScope st) s.heap.objs.size f cdv)) →
      ∃ t, PSs (cxOf CX0 P w K mg base N qual (defScope st) f cdv Ar outer s H E).nox (defBody st) t ∧ ∀ ss M Q, A ss M Q → WS (KX.pure K) t (rho0 N.length ss) M ⟨fun _ M' => Q .non M', Q, NoR, NoR⟩) :
    FnOk P w K mg base CX0 (k + 1) f fd ps (conc K A) := by
  refine F.okN S (fun vs H Q E h => ?_) (fun cdv Ar outer s H vs Q E hr h => ?_)
  · obtain ⟨B, M, ss, QA, hS, hv, ha, _⟩ := h
    rw [SlAll.len hv]
    exact hlen ss M QA ha
  · obtain ⟨B, M, ss, QA, hS, hv, ha, hq⟩ := h
    obtain ⟨t, ht, hw⟩ := hb cdv Ar outer s H E hr
    refine ⟨t, ht, ?_⟩
    have hR : Rl (KX.pure K) B (L2.start N vs) (rho0 N.length ss) := by
      unfold L2.start rho0
      rw [SlAll.len hv]
      exact ⟨rl_start _ hv, fun _ _ _ _ _ _ _ q => q.elim⟩
    exact hw ss M QA ha (L2.start N vs) B H ⟨fun _ H' => Q .non H', Q, _, _⟩ hR hS (fun ρ' M' σ' B' H' q e _ S' => hq .non .non M' B' H' q e S' slok_non) (fun s v M' B' H' q e S' o => hq s v M' B' H' q e S' o) (fun _ _ _ _ _ z => z.elim) (fun _ _ _ _ _ z => z.elim)
section
variable {K : KX} {ρ : Rho} {M : MH} {Q : Sl → MH → Prop}
/-- the empty tuple that a def has for a default -/
def Tup0 (F : PySem.W.Frag) (e0 : Addr) : Prop := ∃ o n, F.lookup e0 = some o ∧ o.cls = .type "tuple" ∧ o.dict = none ∧ o.data = .seq #[] n
theorem tup0_sq {F : PySem.W.Frag} {e0 : Addr} (h : Tup0 F e0) (H : Hp) : SqT F H e0 [] := by
  obtain ⟨o, n, h1, h2, h3, h4⟩ := h
  exact .inr ⟨o, #[], n, h1, h2, h4, Nat.zero_le _, .nil⟩
/-- nothing of it -/
theorem wi_tup0 {tl : TE} {R : Nat → (Nat → Sl) → (MH → Prop) → MH → Prop} {e0 : Addr} (h0 : Tup0 K.K e0) (h : W K tl ρ M fun s M1 => s = .raw (.ref e0) ∧ R 0 (fun _ => .non) (fun _ => True) M1) : WI K (iTup K.K tl) ρ M R := fun σ B H hR hS R0 k =>
  h σ B H hR hS _ fun s v M1 B1 H1 ⟨es, q⟩ e1 S1 o1 => by
    subst es
    obtain rfl : v = .ref e0 := o1
    refine ⟨e0, rfl, ⟨[], tup0_sq h0 _⟩, k 0 _ _ M1 B1 H1 _ q e1 S1 ⟨fun i _ _ _ hi => absurd hi (Nat.not_lt_zero _), fun i _ _ _ _ _ hi => absurd hi (Nat.not_lt_zero _), fun i B2 M2 H2 hi e2 S2 st => ?_⟩⟩
    exact ⟨[], tup0_sq h0 _, Nat.zero_le _⟩
end
end Ab
set_option Elab.async false
set_option linter.all false
set_option maxRecDepth 1000000
set_option  maxHeartbeats 4000000
namespace Ab
open PySem L2
def goodS (z : Str) : Bool := decide (z.length ≤ 40) && z.cps.toList.all fun c => decide (32 ≤ c) && decide (c < 127) && decide (c ≠ 37)
theorem goodS_ok {z : Str} (h : goodS z = true) : PyData.strOk z = true := by
  unfold goodS at h
  rw [Bool.and_eq_true, List.all_eq_true] at h
  unfold PyData.strOk
  rw [← Array.all_toList, List.all_eq_true]
  intro c hc
  have := h.2 c hc
  simp only [Bool.and_eq_true, decide_eq_true_eq] at this
  exact decide_eq_true (by omega)
inductive Val where
  | int (n : Int)
  | str (z : Str)
  deriving DecidableEq
def Val.enc : Val → PyData
  | .int n => .int n
  | .str z => .str z
def Val.ok : Val → Prop
  | .int n => n.natAbs < 10 ^ 30
  | .str z => goodS z = true
theorem Val.enc_inj {v w : Val} (h : v.enc = w.enc) : v = w := by
  cases v <;> cases w <;> simp_all [Val.enc]
inductive Term where
  | any
  | value (v : Val)
  | variable (z : Str)
  deriving DecidableEq
def Term.enc : Term → PyData
  | .any => .tuple [.str "any"]
  | .value v => .tuple [.str "value", v.enc]
  | .variable z => .tuple [.str "variable", .str z]
def Term.ok : Term → Prop
  | .any => True
  | .value v => v.ok
  | .variable z => goodS z = true
inductive Lit where
  | fact (rel : Str) (ts : List Term)
  | neg (rel : Str) (ts : List Term)
  | compare (op : Str) (s t : Term)
  | is (x op : Str) (s t : Term)
  | count (x rel : Str) (ts : List Term)
  deriving DecidableEq
abbrev encT (ts : List Term) : PyData := .tuple (ts.map Term.enc)
abbrev encR (row : List Val) : PyData := .tuple (row.map Val.enc)
def Lit.enc : Lit → PyData
  | .fact r ts => .tuple [.str "fact", .str r, encT ts]
  | .neg r ts => .tuple [.str "not", .str r, encT ts]
  | .compare op s t => .tuple [.str "compare", .str op, s.enc, t.enc]
  | .is x op s t => .tuple [.str "is", .str x, .str op, s.enc, t.enc]
  | .count x r ts => .tuple [.str "count", .str x, .str r, encT ts]
def okTs (ts : List Term) : Prop := ts.length ≤ 1000 ∧ ∀ t ∈ ts, t.ok
def okR (row : List Val) : Prop := row.length ≤ 1000 ∧ ∀ v ∈ row, v.ok
def opsC : List Str := ["=", "<>", "<", "<=", ">", ">="]
def opsI : List Str := ["+", "-", "*"]
def Lit.ok : Lit → Prop
  | .fact r ts => goodS r = true ∧ okTs ts
  | .neg r ts => goodS r = true ∧ okTs ts
  | .compare op s t => op ∈ opsC ∧ s.ok ∧ t.ok
  | .is x op s t => goodS x = true ∧ op ∈ opsI ∧ s.ok ∧ t.ok
  | .count x r ts => goodS x = true ∧ goodS r = true ∧ okTs ts
abbrev encB (b : List Lit) : PyData := .tuple (b.map Lit.enc)
def okB (b : List Lit) : Prop := b.length ≤ 1000 ∧ ∀ l ∈ b, l.ok
inductive Item where
  | relation (n : Str) (w : Int)
  | fact (n : Str) (row : List Val)
  | rule (n rel : Str) (hd : List Term) (b : List Lit)
  | denial (n : Str) (b : List Lit)
  deriving DecidableEq
def Item.enc : Item → PyData
  | .relation n w => .tuple [.str "relation", .str n, .int w]
  | .fact n row => .tuple [.str "fact", .str n, encR row]
  | .rule n rel hd b => .tuple [.str "rule", .str n, .str rel, encT hd, encB b]
  | .denial n b => .tuple [.str "denial", .str n, encB b]
def Item.ok : Item → Prop
  | .relation n w => goodS n = true ∧ 0 ≤ w ∧ w ≤ 1000
  | .fact n row => goodS n = true ∧ okR row ∧ row ≠ []
  | .rule n rel hd b => goodS n = true ∧ goodS rel = true ∧ okTs hd ∧ okB b
  | .denial n b => goodS n = true ∧ okB b
theorem okD_str {n : Nat} {z : Str} (h : PyData.strOk z = true) : okD n (.str z) = true := by cases n <;> simpa [okD] using h
theorem okD_good {n : Nat} {z : Str} (h : goodS z = true) : okD n (.str z) = true := okD_str (goodS_ok h)
theorem okD_int {n : Nat} {i : Int} : okD n (.int i) = true := by cases n <;> rfl
theorem Val.okD {n : Nat} : ∀ {v : Val}, v.ok → okD n v.enc = true
  | .int _, _ => okD_int
  | .str _, h => okD_good h
theorem okAll_cons {n : Nat} {x : PyData} {xs : List PyData} (h : Ab.okD n x = true) (t : okAll n xs = true) : okAll n (x :: xs) = true := by
  show (Ab.okD n x && okAll n xs) = true
  rw [h, t]
  rfl
theorem Term.okD {n : Nat} : ∀ {t : Term}, t.ok → okD (n + 1) t.enc = true
  | .any, _ => okD_mkT (by simp) (okAll_cons (okD_str (by decide +kernel)) rfl)
  | .value v, h => okD_mkT (by simp) (okAll_cons (okD_str (by decide +kernel)) (okAll_cons (Val.okD h) rfl))
  | .variable z, h => okD_mkT (by simp) (okAll_cons (okD_str (by decide +kernel)) (okAll_cons (okD_good h) rfl))
theorem okTs_okD {n : Nat} {ts : List Term} (h : okTs ts) : okD (n + 2) (encT ts) = true := okD_mkT (by rw [List.length_map]; have := h.1; omega) (okAll_of fun d hd => by
  obtain ⟨t, ht, rfl⟩ := List.mem_map.mp hd
  exact Term.okD (h.2 t ht))
theorem okR_okD {n : Nat} {row : List Val} (h : okR row) : okD (n + 1) (encR row) = true := okD_mkT (by rw [List.length_map]; have := h.1; omega) (okAll_of fun d hd => by
  obtain ⟨t, ht, rfl⟩ := List.mem_map.mp hd
  exact Val.okD (h.2 t ht))
theorem ops_ok {op : Str} (h : op ∈ opsC) : PyData.strOk op = true := by
  have : ∀ op ∈ opsC, PyData.strOk op = true := by decide +kernel
  exact this op h
theorem opsI_ok {op : Str} (h : op ∈ opsI) : PyData.strOk op = true := by
  have : ∀ op ∈ opsI, PyData.strOk op = true := by decide +kernel
  exact this op h
theorem Lit.okD {n : Nat} : ∀ {t : Lit}, t.ok → okD (n + 3) t.enc = true
  | .fact _ _, h => okD_mkT (by simp) (okAll_cons (okD_str (by decide +kernel)) (okAll_cons (okD_good h.1) (okAll_cons (okTs_okD h.2) rfl)))
  | .neg _ _, h => okD_mkT (by simp) (okAll_cons (okD_str (by decide +kernel)) (okAll_cons (okD_good h.1) (okAll_cons (okTs_okD h.2) rfl)))
  | .compare _ _ _, h => okD_mkT (by simp) (okAll_cons (okD_str (by decide +kernel)) (okAll_cons (okD_str (ops_ok h.1)) (okAll_cons (Term.okD h.2.1) (okAll_cons (Term.okD h.2.2) rfl))))
  | .is _ _ _ _, h => okD_mkT (by simp) (okAll_cons (okD_str (by decide +kernel)) (okAll_cons (okD_good h.1) (okAll_cons (okD_str (opsI_ok h.2.1)) (okAll_cons (Term.okD h.2.2.1) (okAll_cons (Term.okD h.2.2.2) rfl)))))
  | .count _ _ _, h => okD_mkT (by simp) (okAll_cons (okD_str (by decide +kernel)) (okAll_cons (okD_good h.1) (okAll_cons (okD_good h.2.1) (okAll_cons (okTs_okD h.2.2) rfl))))
theorem okB_okD {n : Nat} {b : List Lit} (h : okB b) : okD (n + 4) (encB b) = true := okD_mkT (by rw [List.length_map]; have := h.1; omega) (okAll_of fun d hd => by
  obtain ⟨t, ht, rfl⟩ := List.mem_map.mp hd
  exact Lit.okD (h.2 t ht))
theorem Item.okD {n : Nat} : ∀ {t : Item}, t.ok → okD (n + 5) t.enc = true
  | .relation _ _, h => okD_mkT (by simp) (okAll_cons (okD_str (by decide +kernel)) (okAll_cons (okD_good h.1) (okAll_cons okD_int rfl)))
  | .fact _ _, h => okD_mkT (by simp) (okAll_cons (okD_str (by decide +kernel)) (okAll_cons (okD_good h.1) (okAll_cons (okR_okD h.2.1) rfl)))
  | .rule _ _ _ _, h => okD_mkT (by simp) (okAll_cons (okD_str (by decide +kernel)) (okAll_cons (okD_good h.1) (okAll_cons (okD_good h.2.1) (okAll_cons (okTs_okD h.2.2.1) (okAll_cons (okB_okD h.2.2.2) rfl)))))
  | .denial _ _, h => okD_mkT (by simp) (okAll_cons (okD_str (by decide +kernel)) (okAll_cons (okD_good h.1) (okAll_cons (okB_okD h.2) rfl)))
theorem eqv_str (x y : Str) : PyData.eqv (.str x) (.str y) = decide (x = y) := by
  simp only [PyData.eqv]
  by_cases e : x = y
  · subst e; simp
  · rw [decide_eq_false e]; exact beq_eq_false_iff_ne.mpr e
theorem eqv_val : ∀ v w : Val, PyData.eqv v.enc w.enc = decide (v = w)
  | .int a, .int b => by
    show PyData.eqv (.int a) (.int b) = _
    rw [eqv_int]
    exact decide_eq_decide.mpr ⟨fun h => by rw [h], fun h => Val.int.inj h⟩
  | .str a, .str b => by
    show PyData.eqv (.str a) (.str b) = _
    rw [eqv_str]
    exact decide_eq_decide.mpr ⟨fun h => by rw [h], fun h => Val.str.inj h⟩
  | .int a, .str b => by
    rw [decide_eq_false (by simp)]
    simp [Val.enc, PyData.eqv]
  | .str a, .int b => by
    rw [decide_eq_false (by simp)]
    simp [Val.enc, PyData.eqv]
theorem eqvAll_map {α : Type} [DecidableEq α] {f : α → PyData} (hf : ∀ x y, PyData.eqv (f x) (f y) = decide (x = y)) : ∀ xs ys : List α, PyData.eqvAll (xs.map f) (ys.map f) = decide (xs = ys)
  | [], [] => by simp [PyData.eqvAll]
  | [], _ :: _ => by simp [PyData.eqvAll]
  | _ :: _, [] => by simp [PyData.eqvAll]
  | x :: xs, y :: ys => by
    rw [List.map_cons, List.map_cons, PyData.eqvAll, hf, eqvAll_map hf xs ys]
    by_cases h1 : x = y <;> by_cases h2 : xs = ys <;> simp [h1, h2]
theorem eqv_row (a b : List Val) : PyData.eqv (encR a) (encR b) = decide (a = b) := by
  show PyData.eqv (.tuple _) (.tuple _) = _
  rw [PyData.eqv, eqvAll_map eqv_val]
section
variable {K : KX} {M : MH} {Q : Sl → MH → Prop}
theorem shaped_str {z : Str} (h : PyData.strOk z = true) : SeqAt.shaped (.str z) = true := okD_shaped (n := 0) (okD_str h) (by decide)
theorem w2_eqS {K : PySem.W.Frag} {x y : Str} (h1 : PyData.strOk x = true) (h2 : PyData.strOk y = true) (q : Q (.bl (decide (x = y))) M) : W2 K (rEqD K) (.dat (.str x)) (.dat (.str y)) M Q := w2_eq (shaped_str h1) (shaped_str h2) (by rw [eqv_str]; exact q)
theorem w2_neS {K : PySem.W.Frag} {x y : Str} (h1 : PyData.strOk x = true) (h2 : PyData.strOk y = true) (q : Q (.bl (!decide (x = y))) M) : W2 K (rNeD K) (.dat (.str x)) (.dat (.str y)) M Q := w2_ne (shaped_str h1) (shaped_str h2) (by rw [eqv_str]; exact q)
theorem w2_eqI {K : PySem.W.Frag} {i j : Int} (q : Q (.bl (decide (i = j))) M) : W2 K (rEqD K) (.dat (.int i)) (.dat (.int j)) M Q := w2_eq (shaped_int i) (shaped_int j) (by rw [eqv_int]; exact q)
theorem w2_neI {K : PySem.W.Frag} {i j : Int} (q : Q (.bl (!decide (i = j))) M) : W2 K (rNeD K) (.dat (.int i)) (.dat (.int j)) M Q := w2_ne (shaped_int i) (shaped_int j) (by rw [eqv_int]; exact q)
theorem ite_d {p : Prop} [Decidable p] {A B : Prop} (h1 : p → A) (h2 : ¬p → B) : if decide p = true then A else B := ite_b (fun h => h1 (of_decide_eq_true h)) (fun h => h2 (of_decide_eq_false h))
theorem ite_n {p : Prop} [Decidable p] {A B : Prop} (h1 : ¬p → A) (h2 : p → B) : if (!decide p) = true then A else B := by
  by_cases h : p
  · rw [decide_eq_true h]; exact h2 h
  · rw [decide_eq_false h]; exact h1 h
end
def isVal : PyData → Bool
  | .int n => decide (n.natAbs < 10 ^ 30)
  | .str z => goodS z
  | _ => false
theorem isVal_of : ∀ {d : PyData}, isVal d = true → ∃ v : Val, d = v.enc ∧ v.ok
  | .int n, h => ⟨.int n, rfl, show n.natAbs < 10 ^ 30 from of_decide_eq_true h⟩
  | .str z, h => ⟨.str z, rfl, h⟩
def isName : PyData → Bool
  | .str z => goodS z
  | _ => false
theorem isName_of : ∀ {d : PyData}, isName d = true → ∃ z : Str, d = .str z ∧ goodS z = true
  | .str z, h => ⟨z, rfl, h⟩
theorem list_enc {α : Type} {f : α → PyData} {R : α → Prop} : ∀ {ds : List PyData}, (∀ d ∈ ds, ∃ x, d = f x ∧ R x) → ∃ xs : List α, ds = xs.map f ∧ ∀ x ∈ xs, R x
  | [], _ => ⟨[], rfl, fun _ h => nomatch h⟩
  | d :: ds, h => by
    obtain ⟨x, rfl, hx⟩ := h d List.mem_cons_self
    obtain ⟨xs, rfl, hxs⟩ := list_enc (f := f) (R := R) fun e he => h e (List.mem_cons_of_mem _ he)
    refine ⟨x :: xs, rfl, fun y hy => ?_⟩
    rcases List.mem_cons.mp hy with e | hy
    · rw [e]; exact hx
    · exact hxs y hy
end Ab
set_option Elab.async false
set_option linter.all false
set_option maxRecDepth 1000000
set_option  maxHeartbeats 4000000
namespace Ab
open PySem L2
def vLt : Val → Val → Bool
  | .int a, .int b => decide (a < b)
  | .int _, .str _ => true
  | .str _, .int _ => false
  | .str x, .str y => decide (x.cps.toList < y.cps.toList)
def rLt : List Val → List Val → Bool
  | x :: xs, y :: ys => if x = y then rLt xs ys else vLt x y
  | [], _ :: _ => true
  | _, [] => false
theorem str_eq {x y : Str} (h : x.cps.toList = y.cps.toList) : x = y := by
  have hc : x.cps = y.cps := Array.toList_inj.mp h
  cases x
  cases y
  simp only [Str.mk.injEq]
  exact hc
theorem vLt_irr (v : Val) : vLt v v = false := by
  cases v with
  | int a => exact decide_eq_false (by omega)
  | str x => exact decide_eq_false (List.lt_irrefl _)
/-- of two that differ just one is the less -/
theorem vLt_tri : ∀ {v w : Val}, v ≠ w → vLt w v = !vLt v w
  | .int a, .int b, h => by
    have : a ≠ b := fun e => h (by rw [e])
    show decide (b < a) = !decide (a < b)
    rw [← decide_not]
    exact decide_eq_decide.mpr (by omega)
  | .int _, .str _, _ => rfl
  | .str _, .int _, _ => rfl
  | .str x, .str y, h => by
    have hne : x.cps.toList ≠ y.cps.toList := fun e => h (by rw [str_eq e])
    show decide (y.cps.toList < x.cps.toList) = !decide (x.cps.toList < y.cps.toList)
    rw [← decide_not]
    refine decide_eq_decide.mpr ⟨fun h1 h2 => List.lt_asymm h1 h2, fun h1 => ?_⟩
    rcases Std.lt_trichotomy x.cps.toList y.cps.toList with h' | h' | h'
    · exact absurd h' h1
    · exact absurd h' hne
    · exact h'
theorem rLt_irr : ∀ r : List Val, rLt r r = false
  | [] => rfl
  | x :: xs => by
    show (if x = x then rLt xs xs else vLt x x) = false
    rw [if_pos rfl, rLt_irr xs]
theorem rLt_tri : ∀ {a b : List Val}, a ≠ b → rLt b a = !rLt a b
  | [], [], h => absurd rfl h
  | [], _ :: _, _ => rfl
  | _ :: _, [], _ => rfl
  | x :: xs, y :: ys, h => by
    show (if y = x then rLt ys xs else vLt y x) = !(if x = y then rLt xs ys else vLt x y)
    by_cases e : x = y
    · subst e
      rw [if_pos rfl, if_pos rfl]
      exact rLt_tri fun e => h (by rw [e])
    · rw [if_neg e, if_neg (Ne.symm e)]
      exact vLt_tri e
/-- -1, 0, 1 -/
def ordR (a b : List Val) : Int := if a = b then 0 else if rLt a b then -1 else 1
theorem ordR_lt (a b : List Val) : rLt a b = decide (ordR a b < 0) := by
  unfold ordR
  by_cases e : a = b
  · subst e; rw [rLt_irr]; simp
  · rw [if_neg e]
    cases rLt a b <;> rfl
theorem ordR_eq (a b : List Val) : decide (a = b) = decide (ordR a b = 0) := by
  unfold ordR
  by_cases e : a = b
  · simp [e]
  · rw [if_neg e]
    cases rLt a b <;> simp [e]
theorem cmpOks_map {α β : Type} {f : α → PyData} {g : β → PyData} (hf : ∀ x y, cmpOk (f x) (g y) = true) : ∀ (xs : List α) (ys : List β), cmpOks (xs.map f) (ys.map g) = true
  | [], _ => by simp [cmpOks]
  | _ :: _, [] => by simp [cmpOks]
  | x :: xs, y :: ys => by
    rw [List.map_cons, List.map_cons, cmpOks, hf, cmpOks_map hf xs ys]
    split <;> rfl
theorem cmpVs_lt {f : Val → PyData} (he : ∀ x y, PyData.eqv (f x) (f y) = decide (x = y)) (hl : ∀ x y, cmpV .Lt (f x) (f y) = vLt x y) : ∀ xs ys : List Val, cmpVs .Lt (decide (xs.length < ys.length)) (xs.map f) (ys.map f) = rLt xs ys
  | [], [] => by simp [cmpVs, rLt]
  | [], _ :: _ => by simp [cmpVs, rLt]
  | _ :: _, [] => by simp [cmpVs, rLt]
  | x :: xs, y :: ys => by
    have ih := cmpVs_lt he hl xs ys
    have e : decide ((x :: xs).length < (y :: ys).length) = decide (xs.length < ys.length) := decide_eq_decide.mpr (by simp)
    rw [e, List.map_cons, List.map_cons, cmpVs, he, ih, hl]
    show _ = if x = y then rLt xs ys else vLt x y
    by_cases h : x = y
    · rw [if_pos h, decide_eq_true h, if_pos rfl]
    · rw [if_neg h, decide_eq_false h, if_neg Bool.false_ne_true]
end Ab
set_option Elab.async false
set_option linter.all false
set_option maxRecDepth 1000000
set_option  maxHeartbeats 4000000
namespace Ab
open PySem L2
def tagV : Val → Int
  | .int _ => 0
  | .str _ => 1
def vkey (v : Val) : PyData := .tuple [.int (tagV v), v.enc]
def rkey (row : List Val) : PyData := .tuple (row.map vkey)
structure IKey where
  s : Int
  n : Str
  row : List Val
def IKey.enc (k : IKey) : PyData := .tuple [.int k.s, .str k.n, encR k.row]
def keyOf : Item → IKey
  | .relation n _ => ⟨0, n, []⟩
  | .fact n row => ⟨1, n, row⟩
  | .rule n _ _ _ => ⟨2, n, []⟩
  | .denial n _ => ⟨3, n, []⟩
def IKey.ok (k : IKey) : Prop := goodS k.n = true ∧ okR k.row
theorem rkey_ok {row : List Val} (h : okR row) : okD 2 (rkey row) = true := okD_mkT (by rw [List.length_map]; have := h.1; omega) (okAll_of fun d hd => by
  obtain ⟨t, ht, rfl⟩ := List.mem_map.mp hd
  exact okD_mkT (by simp) (okAll_cons okD_int (okAll_cons (Val.okD (h.2 t ht)) rfl)))
theorem eqv_vkey (v w : Val) : PyData.eqv (vkey v) (vkey w) = decide (v = w) := by
  unfold vkey
  simp only [PyData.eqv, PyData.eqvAll, eqv_val, Bool.and_true]
  by_cases h : v = w
  · subst h; simp
  · simp [h]
theorem ok_vkey : ∀ v w : Val, cmpOk (vkey v) (vkey w) = true
  | .int _, .int _ => by simp [vkey, cmpOk, cmpOks, tagV, eqv_int, Val.enc]
  | .int _, .str _ => by simp [vkey, cmpOk, cmpOks, tagV, eqv_int, Val.enc]
  | .str _, .int _ => by simp [vkey, cmpOk, cmpOks, tagV, eqv_int, Val.enc]
  | .str _, .str _ => by simp [vkey, cmpOk, cmpOks, tagV, eqv_int, Val.enc]
theorem lt_vkey : ∀ v w : Val, cmpV .Lt (vkey v) (vkey w) = vLt v w
  | .int a, .int b => by
    simp only [vkey, cmpV, cmpVs, tagV, eqv_int, Val.enc, cmpI, cmpN, vLt, List.length_cons, List.length_nil]
    by_cases h : a = b <;> simp [h]
  | .int _, .str _ => by simp [vkey, cmpV, cmpVs, tagV, eqv_int, Val.enc, cmpI, vLt]
  | .str _, .int _ => by simp [vkey, cmpV, cmpVs, tagV, eqv_int, Val.enc, cmpI, vLt]
  | .str x, .str y => by
    simp only [vkey, cmpV, cmpVs, tagV, eqv_int, eqv_str, Val.enc, cmpI, cmpS, cmpN, vLt, List.length_cons, List.length_nil]
    by_cases h : x = y
    · subst h; simp
    · simp [h]
theorem ok_rkey (a b : List Val) : cmpOk (rkey a) (rkey b) = true := by
  show cmpOks _ _ = true
  exact cmpOks_map ok_vkey a b
theorem lt_rkey (a b : List Val) : cmpV .Lt (rkey a) (rkey b) = rLt a b := by
  have := cmpVs_lt eqv_vkey lt_vkey a b
  unfold rkey
  rw [cmpV]
  simpa [cmpN] using this
/-- the order of keys -/
def hdLt (k l : IKey) : Bool := if k.s = l.s then decide (k.n.cps.toList < l.n.cps.toList) else decide (k.s < l.s)
def ordK (k l : IKey) : Int := if k.s = l.s ∧ k.n = l.n then ordR k.row l.row else if hdLt k l then -1 else 1
theorem strLt_tri {x y : Str} (h : x ≠ y) : decide (y.cps.toList < x.cps.toList) = !decide (x.cps.toList < y.cps.toList) := vLt_tri (v := .str x) (w := .str y) fun e => h (Val.str.inj e)
end Ab
set_option Elab.async false
set_option linter.all false
set_option maxRecDepth 1000000
set_option  maxHeartbeats 4000000
namespace Ab
open PySem PyProof.Rows L2
theorem vLt_trans : ∀ (a b c : Val), vLt a b = true → vLt b c = true → vLt a c = true
  | .int a, .int b, .int c, h1, h2 => by
    have h1 := of_decide_eq_true h1
    have h2 := of_decide_eq_true h2
    exact decide_eq_true (by omega)
  | .int _, .int _, .str _, _, _ => rfl
  | .int _, .str _, .str _, _, _ => rfl
  | .int _, .str _, .int _, _, h => nomatch h
  | .str _, .int _, _, h, _ => nomatch h
  | .str _, .str _, .int _, _, h => nomatch h
  | .str a, .str b, .str c, h1, h2 => decide_eq_true (List.lt_trans (of_decide_eq_true h1) (of_decide_eq_true h2))
theorem rLt_trans : ∀ (a b c : List Val), rLt a b = true → rLt b c = true → rLt a c = true
  | [], [], _, h, _ => nomatch h
  | _ :: _, [], _, h, _ => nomatch h
  | _, _ :: _, [], _, h => nomatch h
  | [], _ :: _, _ :: _, _, _ => rfl
  | x :: xs, y :: ys, z :: zs, h1, h2 => by
    have h1' : (if x = y then rLt xs ys else vLt x y) = true := h1
    have h2' : (if y = z then rLt ys zs else vLt y z) = true := h2
    show (if x = z then rLt xs zs else vLt x z) = true
    by_cases e1 : x = y
    · subst e1
      rw [if_pos rfl] at h1'
      by_cases e2 : x = z
      · rw [if_pos e2] at h2' ⊢
        exact rLt_trans xs ys zs h1' h2'
      · rw [if_neg e2] at h2' ⊢
        exact h2'
    · rw [if_neg e1] at h1'
      by_cases e2 : y = z
      · subst e2
        rw [if_neg e1]
        exact h1'
      · rw [if_neg e2] at h2'
        have h3 := vLt_trans _ _ _ h1' h2'
        have e3 : x ≠ z := fun e => by rw [e, vLt_irr] at h3; cases h3
        rw [if_neg e3]
        exact h3
/-- the order of rows -/
def rowO : KeyOrd where
  α := List Val
  blt := rLt
  irrefl := rLt_irr
  trans := rLt_trans
  negTrans := fun a b c h => by
    by_cases e : a = b
    · subst e; exact .inr h
    · cases h1 : rLt a b with
      | true => exact .inl rfl
      | false =>
        have h2 := rLt_tri e
        rw [h1] at h2
        exact .inr (rLt_trans b a c h2 h)
  total := fun a b h1 h2 => Classical.byContradiction fun e => by
    have := rLt_tri e
    rw [h1, h2] at this
    cases this
theorem vkey_inj {v w : Val} (h : vkey v = vkey w) : v = w := by
  unfold vkey at h
  injection h with h
  injection h with _ h
  injection h with h _
  exact Val.enc_inj h
theorem rkey_inj {a b : List Val} (h : rkey a = rkey b) : a = b := by
  unfold rkey at h
  injection h with h
  induction a generalizing b with
  | nil =>
    cases b with
    | nil => rfl
    | cons _ _ => cases h
  | cons x xs ih =>
    cases b with
    | nil => cases h
    | cons y ys =>
      rw [List.map_cons, List.map_cons] at h
      injection h with h1 h2
      rw [vkey_inj h1, ih h2]
theorem fit_rows {rs : List (List Val)} (h : ∀ r ∈ rs, SeqAt.shaped (rkey r) = true) : KeyFit rowO rkey (.type "tuple") rs where
  cmp := fun r hr r' hr' => ⟨ok_rkey r r', lt_rkey r r', rkey_inj⟩
  tup := fun r hr => by
    refine ⟨h r hr, _, rfl, fun x t e => ?_⟩
    cases r with
    | nil => cases e
    | cons v vs => cases e; rfl
  typ := .inr rfl
def sortR (rs : List (List Val)) : List (List Val) := rs.mergeSort (leK rowO)
theorem sortR_mem {rs : List (List Val)} {r : List Val} : r ∈ sortR rs ↔ r ∈ rs := (List.mergeSort_perm _ _).mem_iff
theorem sortR_len (rs : List (List Val)) : (sortR rs).length = rs.length := (List.mergeSort_perm _ _).length_eq
structure Rul where
  rel : Str
  hd : List Term
  b : List Lit
  deriving DecidableEq
def Rul.enc (r : Rul) : PyData := .tuple [.str r.rel, encT r.hd, encB r.b]
/-- the content of a state: relations, facts, rules, denials, as the dicts hold them -/
structure Ct where
  rel : List (Str × Int)
  fac : List (Str × List (List Val))
  rul : List (Str × Rul)
  den : List (Str × List Lit)
def rowsOf (c : Ct) (n : Str) : List (List Val) := (valG c.fac n).getD []
def Ct.sRel (c : Ct) (x : List (Str × Int)) : Ct := { c with rel := x }
def Ct.sFac (c : Ct) (x : List (Str × List (List Val))) : Ct := { c with fac := x }
def Ct.sRul (c : Ct) (x : List (Str × Rul)) : Ct := { c with rul := x }
def Ct.sDen (c : Ct) (x : List (Str × List Lit)) : Ct := { c with den := x }
def Ct.put (c : Ct) : Item → Ct
  | .relation n w => c.sRel (putG c.rel n w)
  | .rule n rel hd b => c.sRul (putG c.rul n ⟨rel, hd, b⟩)
  | .denial n b => c.sDen (putG c.den n b)
  | .fact n row => if row ∈ rowsOf c n then c else c.sFac (putG c.fac n (rowsOf c n ++ [row]))
def Ct.names (c : Ct) : List Str := sortT (c.rel.map (·.1) ++ (c.fac.map (·.1)).filter fun n => decide (0 < (rowsOf c n).length))
def Ct.tidy (c : Ct) : Ct := c.sFac (mergeG [] (c.names.map fun n => (n, sortR (rowsOf c n))))
def Ct.items (c : Ct) : List Item :=
  (sortT (c.rel.map (·.1))).map (fun n => .relation n ((valG c.rel n).getD 0)) ++ (sortT (c.fac.map (·.1))).flatMap (fun n => (rowsOf c n).map (.fact n)) ++
  (sortT (c.rul.map (·.1))).map (fun n => match valG c.rul n with | some r => .rule n r.rel r.hd r.b | none => .denial n []) ++ (sortT (c.den.map (·.1))).map (fun n => .denial n ((valG c.den n).getD []))
def ct0 : Ct := ⟨[], [], [], []⟩
/-- dicts with keys that are texts -/
theorem valG_inr {β γ : Type} (f : β → γ) (z : Str) : ∀ kvs : List (Str × β), valG (kvs.map fun p => ((.inr p.1 : Key), f p.2)) (.inr z) = (valG kvs z).map f
  | [] => rfl
  | (a, x) :: r => by
    rw [List.map_cons, valG_cons, valG_cons, valG_inr f z r]
    by_cases e : a = z
    · subst e; simp
    · rw [if_neg e, if_neg fun h => e (Sum.inr.inj h)]
theorem any_inr {β γ : Type} (f : β → γ) (z : Str) : ∀ kvs : List (Str × β), ((kvs.map fun p => ((.inr p.1 : Key), f p.2)).any fun kv => decide (kv.1 = .inr z)) = kvs.any fun kv => decide (kv.1 = z)
  | [] => rfl
  | (a, x) :: r => by
    rw [List.map_cons, List.any_cons, List.any_cons, any_inr f z r]
    by_cases e : a = z
    · subst e; simp
    · rw [decide_eq_false e, decide_eq_false fun h => e (Sum.inr.inj h)]
theorem putG_inr {β γ : Type} (f : β → γ) (z : Str) (x : β) (kvs : List (Str × β)) : putG (kvs.map fun p => ((.inr p.1 : Key), f p.2)) (.inr z) (f x) = (putG kvs z x).map fun p => ((.inr p.1 : Key), f p.2) := by
  unfold putG
  rw [any_inr]
  cases h : kvs.any fun kv => decide (kv.1 = z) with
  | true =>
    rw [if_pos rfl, if_pos rfl, List.map_map, List.map_map]
    refine List.map_congr_left fun p _ => ?_
    show (if (Sum.inr p.1 : Key) = .inr z then ((.inr p.1 : Key), f x) else ((.inr p.1 : Key), f p.2)) = ((.inr ((if p.1 = z then (p.1, x) else p) : Str × β).1 : Key), f ((if p.1 = z then (p.1, x) else p) : Str × β).2)
    by_cases e : p.1 = z
    · rw [if_pos e, if_pos (by rw [e])]
    · rw [if_neg e, if_neg fun h => e (Sum.inr.inj h)]
  | false => rw [if_neg Bool.false_ne_true, if_neg Bool.false_ne_true, List.map_append]; rfl
theorem putG_keys {κ β : Type} [DecidableEq κ] (kvs : List (κ × β)) (k : κ) (v : β) : (putG kvs k v).map (·.1) = if k ∈ kvs.map (·.1) then kvs.map (·.1) else kvs.map (·.1) ++ [k] := by
  unfold putG
  cases h : kvs.any fun kv => decide (kv.1 = k) with
  | true =>
    obtain ⟨p, hp, e⟩ := List.any_eq_true.mp h
    rw [if_pos rfl, if_pos (List.mem_map.mpr ⟨p, hp, of_decide_eq_true e⟩), List.map_map]
    refine List.map_congr_left fun q _ => ?_
    show (if q.1 = k then (q.1, v) else q).1 = q.1
    split <;> rfl
  | false =>
    rw [if_neg Bool.false_ne_true, if_neg, List.map_append]
    · rfl
    · rintro hk
      obtain ⟨p, hp, e⟩ := List.mem_map.mp hk
      have : (kvs.any fun kv => decide (kv.1 = k)) = true := List.any_eq_true.mpr ⟨p, hp, decide_eq_true e⟩
      rw [h] at this
      cases this
theorem putG_len {κ β : Type} [DecidableEq κ] (l : List (κ × β)) (k : κ) (v : β) : (putG l k v).length ≤ l.length + 1 := by
  unfold putG
  split
  · rw [List.length_map]; omega
  · rw [List.length_append]; exact Nat.le_refl _
theorem mergeG_len {κ β : Type} [DecidableEq κ] : ∀ (ws l : List (κ × β)), (mergeG l ws).length ≤ l.length + ws.length
  | [], l => Nat.le_refl _
  | p :: ws, l => by
    have h1 := mergeG_len ws (putG l p.1 p.2)
    have h2 := putG_len l p.1 p.2
    show (mergeG (putG l p.1 p.2) ws).length ≤ l.length + (ws.length + 1)
    omega
theorem valG_isSome {κ β : Type} [DecidableEq κ] (k : κ) : ∀ kvs : List (κ × β), (valG kvs k).isSome = decide (k ∈ kvs.map (·.1))
  | [] => by simp [valG]
  | (a, x) :: r => by
    rw [valG_cons, List.map_cons]
    by_cases e : a = k
    · subst e; simp
    · rw [if_neg e, valG_isSome k r]
      have : ¬ k = a := fun h => e h.symm
      simp [this]
theorem putG_nodup {κ β : Type} [DecidableEq κ] {kvs : List (κ × β)} (h : (kvs.map (·.1)).Nodup) (k : κ) (v : β) : ((putG kvs k v).map (·.1)).Nodup := by
  rw [putG_keys]
  split
  · exact h
  · rename_i hk
    exact List.nodup_append.mpr ⟨h, List.pairwise_singleton .., fun a ha b hb e => hk (by rw [← List.mem_singleton.mp hb, ← e]; exact ha)⟩
section
variable {K : KX} {ρ : Rho} {M : MH} {Q : Sl → MH → Prop} {tl te : TE}
theorem lsv_um {F : PySem.W.Frag} {s : Sl} {xs : List Sl} {D : Addr} {o : MO} (h : LsV F s M xs) (hD : M D = none) : LsV F s (um M D o) xs := by
  rcases h with h | ⟨a, e, h⟩ | h
  · exact .inl h
  · exact .inr (.inl ⟨a, e, by rw [um_ne fun z => by rw [z, hD] at h; cases h]; exact h⟩)
  · exact .inr (.inr h)
/-- [f(x) for x in xs] that touches nothing, as a list that will change -/
theorem w_lcP {j : Nat} {vs : List Nat} (hj : j ∈ vs) (h : W K tl ρ M fun s M2 => ∃ (xs : List Sl) (f : Nat → PyData), LsV K.K s M2 xs ∧ xs.length ≤ 1000000 ∧
    (∀ i D o, i < xs.length → M2 D = none → W K te ((wipeR ρ vs).set j (some (xs.getD i .non))) (um M2 D o) fun s' M' => s' = .dat (f i) ∧ M' = um M2 D o) ∧
    ∀ D, M2 D = none → Q (.raw (.ref D)) (um M2 D (.lst ((List.range xs.length).map fun i => .dat (f i))))) : W K (tLc (iList K.K tl) (gName j) tYes te vs) ρ M Q :=
  w_lcM hj (wi_list (h.imp fun s M2 ⟨xs, f, hl, hz, he, q⟩ => ⟨xs, hl, fun i acc M' => M' = M2 ∧ acc = (List.range i).map f, ⟨rfl, rfl⟩, fun i acc M' _ ⟨e, _⟩ D o hD => by subst e; exact lsv_um hl hD, fun i acc M' D hi ⟨eM, ea⟩ hD => by
    subst eM ea
    refine wt_yes ?_
    rw [if_pos rfl]
    refine (he i D _ hi hD).imp fun s' M3 ⟨e1, e2⟩ => ⟨f i, M', e1, e2, hD, ?_, rfl, ?_⟩
    · rw [List.length_map, List.length_range]; omega
    · rw [List.range_succ, List.map_append]; rfl, fun acc M' D ⟨eM, ea⟩ hD => by
    subst eM ea
    rw [List.map_map]
    exact q D hD⟩))
theorem range_map {α β : Type} (f : α → β) (d : α) (xs : List α) : (List.range xs.length).map (fun i => f (xs.getD i d)) = xs.map f := by
  apply List.ext_getElem?
  intro i
  rw [List.getElem?_map, List.getElem?_map]
  by_cases h : i < xs.length
  · rw [List.getElem?_range h, List.getElem?_eq_getElem h]
    show some (f (xs.getD i d)) = _
    rw [List.getD_eq_getElem?_getD, List.getElem?_eq_getElem h]
    rfl
  · rw [List.getElem?_eq_none (by rw [List.length_range]; omega), List.getElem?_eq_none (by omega)]
    rfl
end
end Ab
namespace Ab
open PySem PyProof.Rows L2
theorem valG_mem {κ β : Type} [DecidableEq κ] {k : κ} {x : β} : ∀ {kvs : List (κ × β)}, valG kvs k = some x → (k, x) ∈ kvs
  | [], h => nomatch h
  | (a, y) :: r, h => by
    rw [valG_cons] at h
    by_cases e : a = k
    · rw [if_pos e] at h
      cases h
      subst e
      exact List.mem_cons_self ..
    · rw [if_neg e] at h
      exact List.mem_cons_of_mem _ (valG_mem h)
/-- what may stand in a state -/
structure CtOk (c : Ct) : Prop where
  rel : ∀ p ∈ c.rel, goodS p.1 = true ∧ 0 ≤ p.2 ∧ p.2 ≤ 1000
  fac : ∀ p ∈ c.fac, goodS p.1 = true ∧ (∀ r ∈ p.2, okR r ∧ r ≠ []) ∧ p.2.length ≤ 1000
  rul : ∀ p ∈ c.rul, (Item.rule p.1 p.2.rel p.2.hd p.2.b).ok
  den : ∀ p ∈ c.den, (Item.denial p.1 p.2).ok
  sz : c.rel.length ≤ 1000 ∧ c.fac.length ≤ 1000 ∧ c.rul.length ≤ 1000 ∧ c.den.length ≤ 1000
theorem CtOk.row {c : Ct} (h : CtOk c) {n : Str} : (∀ r ∈ rowsOf c n, okR r ∧ r ≠ []) ∧ (rowsOf c n).length ≤ 1000 := by
  unfold rowsOf
  cases hv : valG c.fac n with
  | none => exact ⟨fun _ h => (nomatch h), Nat.zero_le _⟩
  | some x => exact (h.fac _ (valG_mem hv)).2
def Ct.small (c : Ct) : Prop := c.rel.length + c.fac.length < 64 ∧ c.rul.length < 64 ∧ c.den.length < 64
theorem mergeG_snoc {κ β : Type} [DecidableEq κ] (l ws : List (κ × β)) (p : κ × β) : mergeG l (ws ++ [p]) = putG (mergeG l ws) p.1 p.2 := by
  unfold mergeG
  rw [List.foldl_append]
  rfl
theorem sortT_len (ks : List Str) : (sortT ks).length = ks.length := (List.mergeSort_perm _ _).length_eq
theorem sortT_mem {ks : List Str} {k : Str} : k ∈ sortT ks ↔ k ∈ ks := (List.mergeSort_perm _ _).mem_iff
theorem valG_of {β : Type} {n : Str} {kvs : List (Str × β)} (h : n ∈ kvs.map (·.1)) : ∃ x, valG kvs n = some x := by
  have z := valG_isSome n kvs
  rw [decide_eq_true h] at z
  cases hv : valG kvs n with
  | none => rw [hv] at z; cases z
  | some x => exact ⟨x, rfl⟩
def facI (c : Ct) (n : Str) : List Item := (rowsOf c n).map (.fact n)
def rulI (c : Ct) (n : Str) : Item := match valG c.rul n with | some r => .rule n r.rel r.hd r.b | none => .denial n []
theorem flat_len {c : Ct} (hc : CtOk c) : ∀ ns : List Str, (ns.flatMap (facI c)).length ≤ 1000 * ns.length
  | [] => Nat.le_refl _
  | n :: ns => by
    have h1 := flat_len hc ns
    have h2 := (hc.row (n := n)).2
    rw [List.flatMap_cons, List.length_append, List.length_cons]
    unfold facI at *
    rw [List.length_map]
    omega
def puts (its : List Item) : Ct := its.foldl Ct.put ct0
def InitOk (its : List Item) : Prop := (∀ it ∈ its, it.ok) ∧ ∀ i, i ≤ its.length → CtOk (puts (its.take i)) ∧ Ct.small (puts (its.take i))
theorem puts_snoc (its : List Item) (it : Item) : puts (its ++ [it]) = (puts its).put it := by
  unfold puts
  rw [List.foldl_append]
  rfl
theorem ok0 : CtOk ct0 ∧ Ct.small ct0 := ⟨⟨fun _ h => (nomatch h), fun _ h => (nomatch h), fun _ h => (nomatch h), fun _ h => (nomatch h), by decide⟩, by decide, by decide, by decide⟩
end Ab
set_option Elab.async false
set_option linter.all false
set_option maxRecDepth 1000000
set_option  maxHeartbeats 4000000
namespace Ab
open PySem PyProof.Rows L2
def placedI (os : List Item) (it : Item) : List Item := os.filter (fun x => decide (ordK (keyOf x) (keyOf it) < 0)) ++ [it] ++ os.filter (fun x => decide (0 < ordK (keyOf x) (keyOf it)))
def orderd (its : List Item) : List Item := its.foldl placedI []
theorem orderd_snoc (its : List Item) (it : Item) : orderd (its ++ [it]) = placedI (orderd its) it := by
  unfold orderd
  rw [List.foldl_append]
  rfl
theorem placed_ok {os : List Item} {it : Item} (h : ∀ x ∈ os, x.ok) (hi : it.ok) : ∀ x ∈ placedI os it, x.ok := fun x hx => by
  rcases List.mem_append.mp hx with hx | hx
  · rcases List.mem_append.mp hx with hx | hx
    · exact h x (List.mem_filter.mp hx).1
    · rw [List.mem_singleton.mp hx]; exact hi
  · exact h x (List.mem_filter.mp hx).1
theorem filter_two {α : Type} (f g : α → Bool) (h : ∀ x, f x = true → g x = true → False) : ∀ l : List α, (l.filter f).length + (l.filter g).length ≤ l.length
  | [] => Nat.le_refl _
  | x :: l => by
    have ih := filter_two f g h l
    rw [List.filter_cons, List.filter_cons, List.length_cons]
    cases e1 : f x with
    | true =>
      cases e2 : g x with
      | true => exact (h x e1 e2).elim
      | false => rw [if_pos rfl, if_neg Bool.false_ne_true, List.length_cons]; omega
    | false =>
      cases e2 : g x with
      | true => rw [if_neg Bool.false_ne_true, if_pos rfl, List.length_cons]; omega
      | false => rw [if_neg Bool.false_ne_true, if_neg Bool.false_ne_true]; omega
theorem placed_len (os : List Item) (it : Item) : (placedI os it).length ≤ os.length + 1 := by
  have := filter_two (fun x => decide (ordK (keyOf x) (keyOf it) < 0)) (fun x => decide (0 < ordK (keyOf x) (keyOf it))) (fun x h1 h2 => by
    have h1 := of_decide_eq_true h1
    have h2 := of_decide_eq_true h2
    omega) os
  unfold placedI
  rw [List.length_append, List.length_append, List.length_singleton]
  omega
theorem orderd_len : ∀ its : List Item, (orderd its).length ≤ its.length := by
  have key : ∀ (its os : List Item), (its.foldl placedI os).length ≤ os.length + its.length := by
    intro its
    induction its with
    | nil => intro os; exact Nat.le_refl _
    | cons x xs ih =>
      intro os
      have h1 := ih (placedI os x)
      have h2 := placed_len os x
      rw [List.foldl_cons, List.length_cons]
      omega
  intro its
  have := key its []
  rw [List.length_nil, Nat.zero_add] at this
  exact this
theorem orderd_ok {its : List Item} (h : ∀ x ∈ its, x.ok) : ∀ x ∈ orderd its, x.ok := by
  have key : ∀ (its os : List Item), (∀ x ∈ its, x.ok) → (∀ x ∈ os, x.ok) → ∀ x ∈ its.foldl placedI os, x.ok := by
    intro its
    induction its with
    | nil => intro os _ h; exact h
    | cons y ys ih =>
      intro os h1 h2
      exact ih (placedI os y) (fun x hx => h1 x (List.mem_cons_of_mem _ hx)) (placed_ok h2 (h1 y (List.mem_cons_self ..)))
  exact key its [] h fun _ h => nomatch h
section
variable {K : KX} {ρ : Rho} {M : MH} {Q : Sl → MH → Prop} {tl te : TE} {tt : TT}
theorem WT.imp {Q Q' : Bool → MH → Prop} (h : WT K tt ρ M Q) (i : ∀ b M', Q b M' → Q' b M') : WT K tt ρ M Q' := fun σ B H hR hS Q0 k => h σ B H hR hS Q0 fun b M' B' H' q => k b M' B' H' (i b M' q)
/-- [g(x) for x in xs if f(x)], nothing else is touched -/
theorem w_lcF {α : Type} {enc : α → PyData} {xs : List α} {j : Nat} {vs : List Nat} {M1 : MH} (hj : j ∈ vs) (hl : W K tl ρ M fun s M2 => s = .dat (.list (xs.map enc)) ∧ M2 = M1) (hz : xs.length ≤ 1000000) (f : α → Bool) (g : α → PyData)
    (ht : ∀ x D o, x ∈ xs → M1 D = none → WT K tt ((wipeR ρ vs).set j (some (.dat (enc x)))) (um M1 D o) fun b M' => b = f x ∧ M' = um M1 D o)
    (he : ∀ x D o, x ∈ xs → f x = true → M1 D = none → W K te ((wipeR ρ vs).set j (some (.dat (enc x)))) (um M1 D o) fun s M' => s = .dat (g x) ∧ M' = um M1 D o) (q : Q (.dat (.list ((xs.filter f).map g))) M1) : W K (tLc (iList K.K tl) (gName j) tt te vs) ρ M Q :=
  w_lc hj (wi_list (hl.imp fun s M2 ⟨e1, e2⟩ => by
    subst e1 e2
    refine ⟨_, lsv_dat, fun i acc M' => M' = M2 ∧ acc = ((xs.take i).filter f).map g, ⟨rfl, by simp⟩, fun _ _ _ _ _ _ _ _ => lsv_dat, fun i acc M' D hi ⟨eM, ea⟩ hD => ?_, fun acc M' ⟨eM, ea⟩ => ?_⟩
    · subst eM ea
      have hi' : i < xs.length := by simpa using hi
      show WT K tt ((wipeR ρ vs).set j (some (((xs.map enc).map Sl.dat).getD i .non))) _ _
      rw [getD_map hi']
      refine WT.imp (ht xs[i] D _ (List.getElem_mem hi') hD) fun b M3 ⟨e1, e2⟩ => ?_
      subst e1 e2
      have hn : xs.take (i + 1) = xs.take i ++ [xs[i]] := List.take_succ_eq_append_getElem hi'
      cases hf : f xs[i] with
      | true =>
        rw [if_pos rfl]
        show W K te ((wipeR ρ vs).set j (some (((xs.map enc).map Sl.dat).getD i .non))) _ _
        rw [getD_map hi']
        refine (he xs[i] D _ (List.getElem_mem hi') hf hD).imp fun s M4 ⟨e1, e2⟩ => ⟨g xs[i], _, e1, e2, hD, ?_, rfl, ?_⟩
        · have := List.length_filter_le f (xs.take i)
          rw [List.length_map]
          rw [List.length_take] at this
          omega
        · rw [hn, List.filter_append, List.map_append, List.filter_cons, if_pos hf]
          rfl
      | false =>
        rw [if_neg Bool.false_ne_true]
        refine ⟨_, rfl, hD, rfl, ?_⟩
        rw [hn, List.filter_append, List.map_append, List.filter_cons, if_neg (by rw [hf]; exact Bool.false_ne_true)]
        simp
    · subst eM ea
      rw [List.length_map, List.length_map, List.take_length]
      exact q))
end
end Ab
namespace Ab
open PySem PyProof.Rows L2
def stR (d : List (Str × Int)) : Item → List (Str × Int)
  | .relation n w => putG d n w
  | _ => d
def stF1 (d : List (Str × List (List Val))) : Item → List (Str × List (List Val))
  | .relation n _ => putG d n []
  | _ => d
def stF2 (d : List (Str × List (List Val))) : Item → List (Str × List (List Val))
  | .fact n row => putG d n ((valG d n).getD [] ++ [row])
  | _ => d
def stU (d : List (Str × Rul)) : Item → List (Str × Rul)
  | .rule n rel hd b => putG d n ⟨rel, hd, b⟩
  | _ => d
def stD (d : List (Str × List Lit)) : Item → List (Str × List Lit)
  | .denial n b => putG d n b
  | _ => d
def lR (os : List Item) := os.foldl stR []
def lF1 (os : List Item) := os.foldl stF1 []
def lF2 (f : List (Str × List (List Val))) (os : List Item) := os.foldl stF2 f
def lU (os : List Item) := os.foldl stU []
def lD (os : List Item) := os.foldl stD []
structure Like (c : Ct) (os : List Item) : Prop where
  items : c.items = os
  r : c.rel.length = (lR os).length ∧ ∀ n v, valG (lR os) n = some v → valG c.rel n = some v
  f : c.fac.length = (lF2 (lF1 os) os).length ∧ ∀ n v, valG (lF2 (lF1 os) os) n = some v → valG c.fac n = some v
  u : c.rul.length = (lU os).length ∧ ∀ n v, valG (lU os) n = some v → valG c.rul n = some v
  d : c.den.length = (lD os).length ∧ ∀ n v, valG (lD os) n = some v → valG c.den n = some v
theorem fold_snoc {α β : Type} (f : β → α → β) (b : β) (xs : List α) (x : α) : (xs ++ [x]).foldl f b = f (xs.foldl f b) x := by rw [List.foldl_append]; rfl
end Ab
namespace Ab
open PySem PyProof.Rows L2
end Ab
set_option Elab.async false
set_option linter.all false
set_option maxRecDepth 1000000
set_option  maxHeartbeats 4000000
namespace Ab
open PySem PyProof.Rows L2
theorem ordR_neg (a b : List Val) : ordR a b < 0 ↔ rLt a b = true := by
  rw [ordR_lt, decide_eq_true_eq]
theorem ordK_neg (k l : IKey) : ordK k l < 0 ↔ k.s < l.s ∨ (k.s = l.s ∧ k.n.cps.toList < l.n.cps.toList) ∨ (k.s = l.s ∧ k.n = l.n ∧ rLt k.row l.row = true) := by
  unfold ordK
  by_cases h1 : k.s = l.s
  · by_cases h2 : k.n = l.n
    · rw [if_pos ⟨h1, h2⟩, ordR_neg]
      have e1 : ¬ k.s < l.s := by omega
      have e2 : ¬ k.n.cps.toList < l.n.cps.toList := by rw [h2]; exact List.lt_irrefl _
      simp [h1, h2, e1, e2, List.lt_irrefl]
    · rw [if_neg fun z => h2 z.2]
      unfold hdLt
      rw [if_pos h1]
      have e1 : ¬ k.s < l.s := by omega
      by_cases h3 : k.n.cps.toList < l.n.cps.toList
      · rw [decide_eq_true h3, if_pos rfl]
        simp [h1, h3]
      · rw [decide_eq_false h3, if_neg Bool.false_ne_true]
        simp [h1, h2, h3]
  · rw [if_neg fun z => h1 z.1]
    unfold hdLt
    rw [if_neg h1]
    by_cases h3 : k.s < l.s
    · rw [decide_eq_true h3, if_pos rfl]
      simp [h3]
    · rw [decide_eq_false h3, if_neg Bool.false_ne_true]
      simp [h1, h3]
theorem ikey_eq {k l : IKey} (h1 : k.s = l.s) (h2 : k.n = l.n) (h3 : k.row = l.row) : k = l := by
  cases k
  cases l
  simp only at h1 h2 h3
  subst h1 h2 h3
  rfl
theorem ordK_zero (k l : IKey) : ordK k l = 0 ↔ k = l := by
  unfold ordK
  constructor
  · intro h
    by_cases h1 : k.s = l.s ∧ k.n = l.n
    · rw [if_pos h1] at h
      have := ordR_eq k.row l.row
      rw [decide_eq_true h, decide_eq_true_eq] at this
      exact ikey_eq h1.1 h1.2 this
    · rw [if_neg h1] at h
      split at h <;> omega
  · rintro rfl
    rw [if_pos ⟨rfl, rfl⟩]
    have := ordR_eq k.row k.row
    rw [decide_eq_true rfl] at this
    exact of_decide_eq_true this.symm
theorem str_tri (x y : Str) : x.cps.toList < y.cps.toList ∨ x = y ∨ y.cps.toList < x.cps.toList := by
  rcases Std.lt_trichotomy x.cps.toList y.cps.toList with h | h | h
  · exact .inl h
  · exact .inr (.inl (str_eq h))
  · exact .inr (.inr h)
theorem ordK_pos (k l : IKey) : 0 < ordK k l ↔ ordK l k < 0 := by
  constructor
  · intro h
    have h0 : ¬ ordK k l < 0 := by omega
    have h1 : k ≠ l := fun e => by rw [(ordK_zero k l).mpr e] at h; omega
    rw [ordK_neg] at h0 ⊢
    rcases Int.lt_trichotomy k.s l.s with hs | hs | hs
    · exact absurd (.inl hs) h0
    · rcases str_tri k.n l.n with hn | hn | hn
      · exact absurd (.inr (.inl ⟨hs, hn⟩)) h0
      · have hr : k.row ≠ l.row := fun e => h1 (ikey_eq hs hn e)
        have h2 : rLt k.row l.row = false := by
          cases e : rLt k.row l.row with
          | false => rfl
          | true => exact absurd (.inr (.inr ⟨hs, hn, e⟩)) h0
        have h3 := rLt_tri hr
        rw [h2] at h3
        exact .inr (.inr ⟨hs.symm, hn.symm, h3⟩)
      · exact .inr (.inl ⟨hs.symm, hn⟩)
    · exact .inl hs
  · intro h
    have h1 : k ≠ l := fun e => by rw [(ordK_zero l k).mpr e.symm] at h; omega
    have h2 : ordK k l ≠ 0 := fun e => h1 ((ordK_zero k l).mp e)
    have h3 : ¬ ordK k l < 0 := fun z => by
      rw [ordK_neg] at h z
      rcases h with h | ⟨h, g⟩ | ⟨h, g, f⟩
      · rcases z with z | ⟨z, _⟩ | ⟨z, _, _⟩ <;> omega
      · rcases z with z | ⟨z, y⟩ | ⟨z, y, _⟩
        · omega
        · exact List.lt_asymm g y
        · rw [y] at g; exact List.lt_irrefl _ g
      · rcases z with z | ⟨z, y⟩ | ⟨z, y, x⟩
        · omega
        · rw [g] at y; exact List.lt_irrefl _ y
        · have hr : k.row ≠ l.row := fun e => by rw [e, rLt_irr] at x; cases x
          rw [rLt_tri hr, x] at f
          cases f
    omega
theorem ordK_trans {a b c : IKey} (h1 : ordK a b < 0) (h2 : ordK b c < 0) : ordK a c < 0 := by
  rw [ordK_neg] at *
  rcases h1 with h1 | ⟨h1, g1⟩ | ⟨h1, g1, f1⟩
  · left
    rcases h2 with h2 | ⟨h2, _⟩ | ⟨h2, _, _⟩ <;> omega
  · rcases h2 with h2 | ⟨h2, g2⟩ | ⟨h2, g2, f2⟩
    · left; omega
    · exact .inr (.inl ⟨h1.trans h2, List.lt_trans g1 g2⟩)
    · exact .inr (.inl ⟨h1.trans h2, by rw [← g2]; exact g1⟩)
  · rcases h2 with h2 | ⟨h2, g2⟩ | ⟨h2, g2, f2⟩
    · left; omega
    · exact .inr (.inl ⟨h1.trans h2, by rw [g1]; exact g2⟩)
    · exact .inr (.inr ⟨h1.trans h2, g1.trans g2, rLt_trans _ _ _ f1 f2⟩)
abbrev iLt (a b : Item) : Prop := ordK (keyOf a) (keyOf b) < 0
theorem iLt_irr (a : Item) : ¬ iLt a a := fun h => by
  have := (ordK_zero (keyOf a) (keyOf a)).mpr rfl
  unfold iLt at h
  omega
theorem iLt_asymm {a b : Item} (h1 : iLt a b) (h2 : iLt b a) : a = b := absurd (ordK_trans h1 h2) (iLt_irr a)
def memC (c : Ct) : Item → Prop
  | .relation n w => valG c.rel n = some w
  | .fact n row => row ∈ rowsOf c n
  | .rule n rel hd b => valG c.rul n = some ⟨rel, hd, b⟩
  | .denial n b => valG c.den n = some b
theorem rowsOf_put (c : Ct) (n m : Str) (rs : List (List Val)) : rowsOf (c.sFac (putG c.fac n rs)) m = if n = m then rs else rowsOf c m := by
  unfold rowsOf Ct.sFac
  dsimp only
  rw [valG_put]
  split <;> rfl
theorem key_ne {s s' : Int} {n n' : Str} {r r' : List Val} (h : s ≠ s') : (⟨s, n, r⟩ : IKey) ≠ ⟨s', n', r'⟩ := fun e => h (by injection e)
theorem memC_put (c : Ct) (x it : Item) : memC (c.put x) it ↔ it = x ∨ (memC c it ∧ keyOf it ≠ keyOf x) := by
  cases x with
  | relation n w =>
    cases it with
    | relation m v =>
      show valG (putG c.rel n w) m = some v ↔ _
      rw [valG_put]
      by_cases e : n = m
      · subst e
        rw [if_pos rfl]
        constructor
        · intro h; cases h; exact .inl rfl
        · rintro (h | ⟨_, h⟩)
          · cases h; rfl
          · exact absurd rfl h
      · rw [if_neg e]
        constructor
        · intro h
          exact .inr ⟨h, fun z => e (by injection z with _ z _; exact z.symm)⟩
        · rintro (h | ⟨h, _⟩)
          · cases h; exact absurd rfl e
          · exact h
    | fact m row => exact ⟨fun h => .inr ⟨h, key_ne (by decide)⟩, fun h => h.elim (fun z => nomatch z) (·.1)⟩
    | rule m rel hd b => exact ⟨fun h => .inr ⟨h, key_ne (by decide)⟩, fun h => h.elim (fun z => nomatch z) (·.1)⟩
    | denial m b => exact ⟨fun h => .inr ⟨h, key_ne (by decide)⟩, fun h => h.elim (fun z => nomatch z) (·.1)⟩
  | rule n rel hd b =>
    cases it with
    | rule m rel' hd' b' =>
      show valG (putG c.rul n ⟨rel, hd, b⟩) m = some ⟨rel', hd', b'⟩ ↔ _
      rw [valG_put]
      by_cases e : n = m
      · subst e
        rw [if_pos rfl]
        constructor
        · intro h; cases h; exact .inl rfl
        · rintro (h | ⟨_, h⟩)
          · cases h; rfl
          · exact absurd rfl h
      · rw [if_neg e]
        constructor
        · intro h
          exact .inr ⟨h, fun z => e (by injection z with _ z _; exact z.symm)⟩
        · rintro (h | ⟨h, _⟩)
          · cases h; exact absurd rfl e
          · exact h
    | fact m row => exact ⟨fun h => .inr ⟨h, key_ne (by decide)⟩, fun h => h.elim (fun z => nomatch z) (·.1)⟩
    | relation m w => exact ⟨fun h => .inr ⟨h, key_ne (by decide)⟩, fun h => h.elim (fun z => nomatch z) (·.1)⟩
    | denial m b => exact ⟨fun h => .inr ⟨h, key_ne (by decide)⟩, fun h => h.elim (fun z => nomatch z) (·.1)⟩
  | denial n b =>
    cases it with
    | denial m b' =>
      show valG (putG c.den n b) m = some b' ↔ _
      rw [valG_put]
      by_cases e : n = m
      · subst e
        rw [if_pos rfl]
        constructor
        · intro h; cases h; exact .inl rfl
        · rintro (h | ⟨_, h⟩)
          · cases h; rfl
          · exact absurd rfl h
      · rw [if_neg e]
        constructor
        · intro h
          exact .inr ⟨h, fun z => e (by injection z with _ z _; exact z.symm)⟩
        · rintro (h | ⟨h, _⟩)
          · cases h; exact absurd rfl e
          · exact h
    | fact m row => exact ⟨fun h => .inr ⟨h, key_ne (by decide)⟩, fun h => h.elim (fun z => nomatch z) (·.1)⟩
    | relation m w => exact ⟨fun h => .inr ⟨h, key_ne (by decide)⟩, fun h => h.elim (fun z => nomatch z) (·.1)⟩
    | rule m rel hd b => exact ⟨fun h => .inr ⟨h, key_ne (by decide)⟩, fun h => h.elim (fun z => nomatch z) (·.1)⟩
  | fact n row =>
    have other : ∀ it : Item, (∀ m r, it ≠ .fact m r) → (memC (c.put (.fact n row)) it ↔ memC c it) := fun it h => by
      have e : ((c.put (.fact n row)).rel, (c.put (.fact n row)).rul, (c.put (.fact n row)).den) = (c.rel, c.rul, c.den) := by
        show (Ct.rel (if row ∈ rowsOf c n then c else c.sFac _), Ct.rul (if row ∈ rowsOf c n then c else c.sFac _), Ct.den (if row ∈ rowsOf c n then c else c.sFac _)) = _
        split <;> rfl
      injection e with e1 e
      injection e with e2 e3
      cases it with
      | relation m v => unfold memC; rw [e1]
      | rule m _ _ _ => unfold memC; rw [e2]
      | denial m _ => unfold memC; rw [e3]
      | fact m r => exact absurd rfl (h m r)
    cases it with
    | relation m v => rw [other (.relation m v) (by intro _ _ z; cases z)]; exact ⟨fun h => .inr ⟨h, key_ne (by decide)⟩, fun h => h.elim (fun z => nomatch z) (·.1)⟩
    | rule m r1 r2 r3 => rw [other (.rule m r1 r2 r3) (by intro _ _ z; cases z)]; exact ⟨fun h => .inr ⟨h, key_ne (by decide)⟩, fun h => h.elim (fun z => nomatch z) (·.1)⟩
    | denial m r1 => rw [other (.denial m r1) (by intro _ _ z; cases z)]; exact ⟨fun h => .inr ⟨h, key_ne (by decide)⟩, fun h => h.elim (fun z => nomatch z) (·.1)⟩
    | fact m r =>
      have kk : keyOf (.fact m r) ≠ keyOf (.fact n row) ↔ ¬ (Item.fact m r = .fact n row) := not_congr ⟨fun z => by injection z with _ z1 z2; rw [z1, z2], fun z => by cases z; rfl⟩
      rw [kk]
      show r ∈ rowsOf (if row ∈ rowsOf c n then c else c.sFac (putG c.fac n (rowsOf c n ++ [row]))) m ↔ _ ∨ (r ∈ rowsOf c m ∧ _)
      by_cases hin : row ∈ rowsOf c n
      · rw [if_pos hin]
        by_cases e : Item.fact m r = .fact n row
        · cases e
          exact ⟨fun _ => .inl rfl, fun _ => hin⟩
        · exact ⟨fun h => .inr ⟨h, e⟩, fun h => h.elim (fun z => absurd z e) (·.1)⟩
      · rw [if_neg hin, rowsOf_put]
        by_cases en : n = m
        · subst en
          rw [if_pos rfl, List.mem_append, List.mem_singleton]
          by_cases e : r = row
          · subst e
            exact ⟨fun _ => .inl rfl, fun _ => .inr rfl⟩
          · have e' : ¬ Item.fact n r = .fact n row := fun z => e (by cases z; rfl)
            exact ⟨fun h => h.elim (fun z => .inr ⟨z, e'⟩) (fun z => absurd z e), fun h => h.elim (fun z => absurd z e') (fun z => .inl z.1)⟩
        · rw [if_neg en]
          have e' : ¬ Item.fact m r = .fact n row := fun z => en (by cases z; rfl)
          exact ⟨fun h => .inr ⟨h, e'⟩, fun h => h.elim (fun z => absurd z e') (·.1)⟩
theorem mem_placed (os : List Item) (x it : Item) : it ∈ placedI os x ↔ it = x ∨ (it ∈ os ∧ keyOf it ≠ keyOf x) := by
  unfold placedI
  rw [List.mem_append, List.mem_append, List.mem_filter, List.mem_filter, List.mem_singleton, decide_eq_true_eq, decide_eq_true_eq]
  have z : keyOf it ≠ keyOf x ↔ ordK (keyOf it) (keyOf x) < 0 ∨ 0 < ordK (keyOf it) (keyOf x) := by
    have z0 := ordK_zero (keyOf it) (keyOf x)
    constructor
    · intro h
      have : ordK (keyOf it) (keyOf x) ≠ 0 := fun e => h (z0.mp e)
      omega
    · intro h e
      have := z0.mpr e
      omega
  rw [z]
  constructor
  · rintro ((h | h) | h)
    · exact .inr ⟨h.1, .inl h.2⟩
    · exact .inl h
    · exact .inr ⟨h.1, .inr h.2⟩
  · rintro (h | ⟨h, g | g⟩)
    · exact .inl (.inr h)
    · exact .inl (.inl ⟨h, g⟩)
    · exact .inr ⟨h, g⟩
/-- backwards along a list -/
theorem snoc_ind {α : Type} {p : List α → Prop} (h0 : p []) (hs : ∀ xs x, p xs → p (xs ++ [x])) (xs : List α) : p xs := by
  have key : ∀ n (xs : List α), xs.length = n → p xs := by
    intro n
    induction n with
    | zero => intro xs h; rw [List.length_eq_zero_iff] at h; rw [h]; exact h0
    | succ n ih =>
      intro xs h
      have hne : xs ≠ [] := fun e => by rw [e] at h; cases h
      rw [← List.dropLast_concat_getLast hne]
      exact hs _ _ (ih _ (by rw [List.length_dropLast, h]; rfl))
  exact key _ xs rfl
theorem mem_orderd (its : List Item) : ∀ it, it ∈ orderd its ↔ memC (puts its) it := by
  refine snoc_ind (p := fun its => ∀ it, it ∈ orderd its ↔ memC (puts its) it) (fun it => ⟨fun h => (nomatch h), fun h => ?_⟩) (fun xs x ih it => ?_) its
  · cases it with
    | relation n w => cases h
    | fact n r => cases h
    | rule n a b c => cases h
    | denial n b => cases h
  · rw [orderd_snoc, puts_snoc, memC_put, mem_placed, ih]
theorem orderd_pw (its : List Item) : (orderd its).Pairwise iLt := by
  refine snoc_ind (p := fun its => (orderd its).Pairwise iLt) .nil (fun xs x ih => ?_) its
  rw [orderd_snoc]
  unfold placedI
  refine List.pairwise_append.mpr ⟨List.pairwise_append.mpr ⟨ih.filter _, List.pairwise_singleton .., fun a ha b hb => ?_⟩, ih.filter _, fun a ha b hb => ?_⟩
  · rw [List.mem_singleton.mp hb]
    exact of_decide_eq_true (List.mem_filter.mp ha).2
  · have hb := (ordK_pos _ _).mp (of_decide_eq_true (List.mem_filter.mp hb).2)
    rcases List.mem_append.mp ha with ha | ha
    · exact ordK_trans (of_decide_eq_true (List.mem_filter.mp ha).2) hb
    · rw [List.mem_singleton.mp ha]
      exact hb
theorem pw_nodup {os : List Item} (h : os.Pairwise iLt) : os.Nodup := h.imp fun {a b} hab e => by rw [e] at hab; exact iLt_irr b hab
theorem pw_eq {xs ys : List Item} (hx : xs.Pairwise iLt) (hy : ys.Pairwise iLt) (h : ∀ it, it ∈ xs ↔ it ∈ ys) : xs = ys :=
  List.Perm.eq_of_pairwise (le := iLt) (fun a b _ _ => iLt_asymm) hx hy ((List.perm_ext_iff_of_nodup (pw_nodup hx) (pw_nodup hy)).mpr h)
theorem orderd_id : ∀ {os : List Item}, os.Pairwise iLt → orderd os = os := fun {os} => snoc_ind (p := fun os => os.Pairwise iLt → orderd os = os) (fun _ => rfl) (fun xs x ih h => by
  obtain ⟨h1, _, h2⟩ := List.pairwise_append.mp h
  rw [orderd_snoc, ih h1]
  unfold placedI
  have e1 : xs.filter (fun y => decide (ordK (keyOf y) (keyOf x) < 0)) = xs := List.filter_eq_self.mpr fun y hy => decide_eq_true (h2 y hy x (List.mem_singleton.mpr rfl))
  have e2 : xs.filter (fun y => decide (0 < ordK (keyOf y) (keyOf x))) = [] := List.filter_eq_nil_iff.mpr fun y hy z => by
    have z := of_decide_eq_true z
    have := h2 y hy x (List.mem_singleton.mpr rfl)
    unfold iLt at this
    omega
  rw [e1, e2, List.append_nil]) os
end Ab
set_option Elab.async false
set_option linter.all false
set_option maxRecDepth 1000000
set_option  maxHeartbeats 4000000
namespace Ab
open PySem PyProof.Rows L2
theorem putG_mem {κ β : Type} [DecidableEq κ] {l : List (κ × β)} {k : κ} {v : β} {p : κ × β} (h : p ∈ putG l k v) : p = (k, v) ∨ p ∈ l := by
  unfold putG at h
  split at h
  · obtain ⟨q, hq, e⟩ := List.mem_map.mp h
    split at e
    · rename_i e2
      rw [← e, e2]
      exact .inl rfl
    · rw [← e]
      exact .inr hq
  · rcases List.mem_append.mp h with h | h
    · exact .inr h
    · exact .inl (List.mem_singleton.mp h)
theorem valG_nodup {κ β : Type} [DecidableEq κ] {k : κ} {x : β} : ∀ {l : List (κ × β)}, (l.map (·.1)).Nodup → (k, x) ∈ l → valG l k = some x
  | [], _, h => nomatch h
  | (a, y) :: r, hn, h => by
    rw [List.map_cons, List.nodup_cons] at hn
    rw [valG_cons]
    rcases List.mem_cons.mp h with e | h
    · injection e with e1 e2
      rw [if_pos e1.symm, e2]
    · rw [if_neg fun e => hn.1 (by show a ∈ _; rw [e]; exact List.mem_map.mpr ⟨_, h, rfl⟩), valG_nodup hn.2 h]
theorem mem_keys {κ β : Type} [DecidableEq κ] {k : κ} {l : List (κ × β)} : k ∈ l.map (·.1) ↔ ∃ x, valG l k = some x := by
  have z := valG_isSome k l
  constructor
  · intro h
    rw [decide_eq_true h] at z
    cases hv : valG l k with
    | none => rw [hv] at z; cases z
    | some x => exact ⟨x, rfl⟩
  · rintro ⟨x, hx⟩
    rw [hx] at z
    exact of_decide_eq_true z.symm
theorem keys_eq_len {κ β : Type} [DecidableEq κ] {l m : List (κ × β)} (hl : (l.map (·.1)).Nodup) (hm : (m.map (·.1)).Nodup) (h : ∀ k, valG l k = valG m k) : l.length = m.length := by
  have := ((List.perm_ext_iff_of_nodup hl hm).mpr fun k => by rw [mem_keys, mem_keys, h k]).length_eq
  rw [List.length_map, List.length_map] at this
  exact this
/-- what stands in a state made of at most n items -/
structure CtN (c : Ct) (n : Nat) : Prop where
  nr : (c.rel.map (·.1)).Nodup
  nf : (c.fac.map (·.1)).Nodup
  nu : (c.rul.map (·.1)).Nodup
  nd : (c.den.map (·.1)).Nodup
  rel : ∀ p ∈ c.rel, goodS p.1 = true ∧ 0 ≤ p.2 ∧ p.2 ≤ 1000
  fac : ∀ p ∈ c.fac, goodS p.1 = true ∧ (∀ r ∈ p.2, okR r ∧ r ≠ []) ∧ p.2.length ≤ n ∧ p.2.Nodup
  rul : ∀ p ∈ c.rul, (Item.rule p.1 p.2.rel p.2.hd p.2.b).ok
  den : ∀ p ∈ c.den, (Item.denial p.1 p.2).ok
  sz : c.rel.length + c.fac.length + c.rul.length + c.den.length ≤ n
theorem CtN.rows {c : Ct} {n : Nat} (h : CtN c n) (z : Str) : (∀ r ∈ rowsOf c z, okR r ∧ r ≠ []) ∧ (rowsOf c z).length ≤ n ∧ (rowsOf c z).Nodup := by
  unfold rowsOf
  cases hv : valG c.fac z with
  | none => exact ⟨fun _ h => (nomatch h), Nat.zero_le _, List.nodup_nil⟩
  | some x => exact (h.fac _ (valG_mem hv)).2
theorem CtN.up {c : Ct} {n : Nat} (h : CtN c n) : CtN c (n + 1) := ⟨h.nr, h.nf, h.nu, h.nd, h.rel, fun p hp => by obtain ⟨h1, h2, h3, h4⟩ := h.fac p hp; exact ⟨h1, h2, Nat.le_succ_of_le h3, h4⟩, h.rul, h.den, Nat.le_succ_of_le h.sz⟩
theorem CtN.put {c : Ct} {n : Nat} {it : Item} (h : CtN c n) (hi : it.ok) : CtN (c.put it) (n + 1) := by
  have sz := h.sz
  have hu := h.up
  cases it with
  | relation m w =>
    have l1 := putG_len c.rel m w
    exact ⟨putG_nodup h.nr _ _, hu.nf, hu.nu, hu.nd, fun p hp => (putG_mem hp).elim (fun e => by rw [e]; exact hi) (h.rel p), hu.fac, hu.rul, hu.den, by show (putG c.rel m w).length + c.fac.length + c.rul.length + c.den.length ≤ _; omega⟩
  | rule m rel hd b =>
    have l1 := putG_len c.rul m ⟨rel, hd, b⟩
    exact ⟨hu.nr, hu.nf, putG_nodup h.nu _ _, hu.nd, hu.rel, hu.fac, fun p hp => (putG_mem hp).elim (fun e => by rw [e]; exact hi) (h.rul p), hu.den, by show c.rel.length + c.fac.length + (putG c.rul m ⟨rel, hd, b⟩).length + c.den.length ≤ _; omega⟩
  | denial m b =>
    have l1 := putG_len c.den m b
    exact ⟨hu.nr, hu.nf, hu.nu, putG_nodup h.nd _ _, hu.rel, hu.fac, hu.rul, fun p hp => (putG_mem hp).elim (fun e => by rw [e]; exact hi) (h.den p), by show c.rel.length + c.fac.length + c.rul.length + (putG c.den m b).length ≤ _; omega⟩
  | fact m row =>
    show CtN (if row ∈ rowsOf c m then c else c.sFac (putG c.fac m (rowsOf c m ++ [row]))) (n + 1)
    split
    · exact hu
    · rename_i hn
      have l1 := putG_len c.fac m (rowsOf c m ++ [row])
      obtain ⟨r1, r2, r3⟩ := h.rows m
      refine ⟨hu.nr, putG_nodup h.nf _ _, hu.nu, hu.nd, hu.rel, fun p hp => (putG_mem hp).elim (fun e => ?_) (hu.fac p), hu.rul, hu.den, by show c.rel.length + (putG c.fac m (rowsOf c m ++ [row])).length + c.rul.length + c.den.length ≤ _; omega⟩
      rw [e]
      refine ⟨hi.1, fun r hr => (List.mem_append.mp hr).elim (r1 r) fun z => by rw [List.mem_singleton.mp z]; exact hi.2, by rw [List.length_append]; exact Nat.succ_le_succ r2, List.nodup_append.mpr ⟨r3, List.pairwise_singleton .., fun a ha b hb e => hn (by rw [← List.mem_singleton.mp hb, ← e]; exact ha)⟩⟩
theorem puts_N (its : List Item) : (∀ it ∈ its, it.ok) → CtN (puts its) its.length := by
  refine snoc_ind (p := fun its => (∀ it ∈ its, it.ok) → CtN (puts its) its.length) (fun _ => ⟨List.nodup_nil, List.nodup_nil, List.nodup_nil, List.nodup_nil, fun _ h => (nomatch h), fun _ h => (nomatch h), fun _ h => (nomatch h), fun _ h => (nomatch h), Nat.le_refl _⟩) (fun xs x ih h => ?_) its
  rw [puts_snoc, List.length_append]
  exact (ih fun it hi => h it (List.mem_append_left _ hi)).put (h x (List.mem_append_right _ (List.mem_singleton.mpr rfl)))
theorem CtN.ok {c : Ct} {n : Nat} (h : CtN c n) (hn : n ≤ 1000) : CtOk c := by
  have sz := h.sz
  exact ⟨h.rel, fun p hp => by obtain ⟨h1, h2, h3, _⟩ := h.fac p hp; exact ⟨h1, h2, Nat.le_trans h3 hn⟩, h.rul, h.den, by omega, by omega, by omega, by omega⟩
theorem CtN.small {c : Ct} {n : Nat} (h : CtN c n) (hn : n < 64) : Ct.small c := by
  have sz := h.sz
  exact ⟨by omega, by omega, by omega⟩
theorem valG_merge {β : Type} (f : Str → β) (z : Str) (ns : List Str) : valG (mergeG [] (ns.map fun n => (n, f n))) z = if z ∈ ns then some (f z) else none := by
  refine snoc_ind (p := fun ns => valG (mergeG [] (ns.map fun n => (n, f n))) z = if z ∈ ns then some (f z) else none) rfl (fun xs x ih => ?_) ns
  rw [List.map_append]
  show valG (mergeG [] (xs.map (fun n => (n, f n)) ++ [(x, f x)])) z = _
  rw [mergeG_snoc, valG_put, ih]
  by_cases e : x = z
  · subst e
    rw [if_pos rfl, if_pos (List.mem_append_right _ (List.mem_singleton.mpr rfl))]
  · rw [if_neg e]
    by_cases h : z ∈ xs
    · rw [if_pos h, if_pos (List.mem_append_left _ h)]
    · rw [if_neg h, if_neg fun hz => (List.mem_append.mp hz).elim h fun q => e (List.mem_singleton.mp q).symm]
theorem nodup_merge {κ β : Type} [DecidableEq κ] (ws l : List (κ × β)) (h : (l.map (·.1)).Nodup) : ((mergeG l ws).map (·.1)).Nodup := by
  refine snoc_ind (p := fun ws => ((mergeG l ws).map (·.1)).Nodup) h (fun xs x ih => ?_) ws
  rw [mergeG_snoc]
  exact putG_nodup ih _ _
theorem mem_names {c : Ct} {n : Str} : n ∈ c.names ↔ n ∈ c.rel.map (·.1) ∨ rowsOf c n ≠ [] := by
  unfold Ct.names
  rw [sortT_mem, List.mem_append, List.mem_filter, decide_eq_true_eq]
  constructor
  · rintro (h | ⟨_, h⟩)
    · exact .inl h
    · exact .inr fun e => by rw [e] at h; cases h
  · rintro (h | h)
    · exact .inl h
    · refine .inr ⟨?_, List.length_pos_iff.mpr h⟩
      refine mem_keys.mpr ?_
      unfold rowsOf at h
      cases hv : valG c.fac n with
      | none => rw [hv] at h; exact absurd rfl h
      | some x => exact ⟨x, rfl⟩
theorem valG_tidy (c : Ct) (n : Str) : valG c.tidy.fac n = if n ∈ c.names then some (sortR (rowsOf c n)) else none := valG_merge (fun n => sortR (rowsOf c n)) n c.names
theorem rows_tidy (c : Ct) (n : Str) : rowsOf c.tidy n = sortR (rowsOf c n) := by
  show (valG c.tidy.fac n).getD [] = _
  rw [valG_tidy]
  split
  · rfl
  · rename_i h
    have : rowsOf c n = [] := Classical.byContradiction fun z => h (mem_names.mpr (.inr z))
    rw [this]
    exact List.mergeSort_nil.symm
theorem memC_tidy (c : Ct) (it : Item) : memC c.tidy it ↔ memC c it := by
  cases it with
  | relation n w => exact Iff.rfl
  | rule n a b e => exact Iff.rfl
  | denial n b => exact Iff.rfl
  | fact n row =>
    show row ∈ rowsOf c.tidy n ↔ row ∈ rowsOf c n
    rw [rows_tidy, sortR_mem]
theorem names_len (c : Ct) : c.names.length ≤ c.rel.length + c.fac.length := by
  unfold Ct.names
  rw [sortT_len, List.length_append, List.length_map]
  have := List.length_filter_le (fun n => decide (0 < (rowsOf c n).length)) (c.fac.map (·.1))
  rw [List.length_map] at this
  omega
theorem CtN.tidy {c : Ct} {n : Nat} (h : CtN c n) : CtN c.tidy (2 * n) := by
  have l1 := names_len c
  have l2 := mergeG_len (c.names.map fun z => (z, sortR (rowsOf c z))) []
  rw [List.length_map, List.length_nil] at l2
  have sz := h.sz
  refine ⟨h.nr, nodup_merge _ _ List.nodup_nil, h.nu, h.nd, h.rel, fun p hp => ?_, h.rul, h.den, ?_⟩
  · have hv := valG_nodup (nodup_merge (c.names.map fun z => (z, sortR (rowsOf c z))) [] List.nodup_nil) hp
    have e := valG_tidy c p.1
    unfold Ct.tidy Ct.sFac at e
    dsimp only at e
    rw [e] at hv
    split at hv
    · rename_i hm
      injection hv with hv
      obtain ⟨r1, r2, r3⟩ := h.rows p.1
      refine ⟨?_, ?_, ?_, ?_⟩
      · rcases mem_names.mp hm with hm | hm
        · obtain ⟨x, hx⟩ := mem_keys.mp hm
          exact (h.rel _ (valG_mem hx)).1
        · unfold rowsOf at hm
          cases hv : valG c.fac p.1 with
          | none => rw [hv] at hm; exact absurd rfl hm
          | some x => exact (h.fac _ (valG_mem hv)).1
      · intro r hr
        rw [← hv] at hr
        exact r1 r (sortR_mem.mp hr)
      · rw [← hv, sortR_len]; omega
      · rw [← hv]
        exact (List.mergeSort_perm _ _).nodup_iff.mpr r3
    · cases hv
  · show c.rel.length + (mergeG [] (c.names.map fun z => (z, sortR (rowsOf c z)))).length + c.rul.length + c.den.length ≤ _
    omega
theorem sortT_strict {ks : List Str} (h : ks.Nodup) : (sortT ks).Pairwise fun a b => a.cps.toList < b.cps.toList := by
  have h1 : (sortT ks).Nodup := (List.mergeSort_perm _ _).nodup_iff.mpr h
  exact List.Pairwise.imp₂ (fun a b h1 h2 => (leT_iff.mp h1).resolve_left h2) (sortT_pw ks) h1
theorem sortR_strict {rs : List (List Val)} (h : rs.Nodup) : (sortR rs).Pairwise fun a b => rLt a b = true := by
  have h1 : (sortR rs).Nodup := (List.mergeSort_perm _ _).nodup_iff.mpr h
  have h2 : (sortR rs).Pairwise fun a b => leK rowO a b = true := List.pairwise_mergeSort (le := leK rowO) (fun a b c h1 h2 => by
    unfold leK at *
    rw [Bool.not_eq_true'] at *
    cases h3 : rowO.blt c a with
    | false => rfl
    | true => rcases rowO.negTrans c b a h3 with z | z <;> simp_all) (fun a b => by
    unfold leK
    cases h1 : rowO.blt b a with
    | false => rfl
    | true =>
      cases h2 : rowO.blt a b with
      | false => rfl
      | true => 
        have := rowO.trans _ _ _ h1 h2
        rw [rowO.irrefl] at this
        cases this) rs
  refine List.Pairwise.imp₂ (fun a b h1 h2 => ?_) h2 h1
  have z := rLt_tri h2
  unfold leK at h1
  have h1' : (!rLt b a) = true := h1
  rw [z] at h1'
  simpa using h1'
theorem mem_items (c : Ct) (it : Item) : it ∈ c.items ↔ memC c it := by
  unfold Ct.items
  rw [List.mem_append, List.mem_append, List.mem_append, List.mem_map, List.mem_flatMap, List.mem_map, List.mem_map]
  have gone : ∀ n, n ∈ c.rul.map (·.1) → ∃ r, valG c.rul n = some r := fun n h => mem_keys.mp h
  constructor
  · rintro (((⟨n, hn, e⟩ | ⟨n, hn, e⟩) | ⟨n, hn, e⟩) | ⟨n, hn, e⟩)
    · obtain ⟨x, hx⟩ := mem_keys.mp (sortT_mem.mp hn)
      rw [hx] at e
      rw [← e]
      exact hx
    · obtain ⟨r, hr, e⟩ := List.mem_map.mp e
      rw [← e]
      exact hr
    · obtain ⟨x, hx⟩ := mem_keys.mp (sortT_mem.mp hn)
      rw [hx] at e
      rw [← e]
      exact hx
    · obtain ⟨x, hx⟩ := mem_keys.mp (sortT_mem.mp hn)
      rw [hx] at e
      rw [← e]
      exact hx
  · intro h
    cases it with
    | relation n w => exact .inl (.inl (.inl ⟨n, sortT_mem.mpr (mem_keys.mpr ⟨_, h⟩), by rw [show valG c.rel n = some w from h]; rfl⟩))
    | fact n row =>
      have h : row ∈ rowsOf c n := h
      refine .inl (.inl (.inr ⟨n, sortT_mem.mpr (mem_keys.mpr ?_), List.mem_map.mpr ⟨row, h, rfl⟩⟩))
      unfold rowsOf at h
      cases hv : valG c.fac n with
      | none => rw [hv] at h; cases h
      | some x => exact ⟨x, rfl⟩
    | rule n a b e => exact .inl (.inr ⟨n, sortT_mem.mpr (mem_keys.mpr ⟨_, h⟩), by rw [show valG c.rul n = some ⟨a, b, e⟩ from h]⟩)
    | denial n b => exact .inr ⟨n, sortT_mem.mpr (mem_keys.mpr ⟨_, h⟩), by rw [show valG c.den n = some b from h]; rfl⟩
theorem iLt_s {a b : Item} (h : (keyOf a).s < (keyOf b).s) : iLt a b := (ordK_neg _ _).mpr (.inl h)
theorem iLt_n {a b : Item} (h : (keyOf a).s = (keyOf b).s) (h2 : (keyOf a).n.cps.toList < (keyOf b).n.cps.toList) : iLt a b := (ordK_neg _ _).mpr (.inr (.inl ⟨h, h2⟩))
theorem key_rul {c : Ct} {n : Str} (h : n ∈ sortT (c.rul.map (·.1))) : keyOf (rulI c n) = ⟨2, n, []⟩ := by
  obtain ⟨x, hx⟩ := mem_keys.mp (sortT_mem.mp h)
  unfold rulI
  rw [hx]
  rfl
theorem items_is (c : Ct) : c.items = (sortT (c.rel.map (·.1))).map (fun n => .relation n ((valG c.rel n).getD 0)) ++ (sortT (c.fac.map (·.1))).flatMap (facI c) ++ (sortT (c.rul.map (·.1))).map (rulI c) ++ (sortT (c.den.map (·.1))).map (fun n => .denial n ((valG c.den n).getD [])) := rfl
theorem items_pw {c : Ct} (n1 : (c.rel.map (·.1)).Nodup) (n2 : (c.fac.map (·.1)).Nodup) (n3 : (c.rul.map (·.1)).Nodup) (n4 : (c.den.map (·.1)).Nodup) (hr : ∀ n, (rowsOf c n).Pairwise fun a b => rLt a b = true) : c.items.Pairwise iLt := by
  rw [items_is]
  refine List.pairwise_append.mpr ⟨List.pairwise_append.mpr ⟨List.pairwise_append.mpr ⟨?_, ?_, ?_⟩, ?_, ?_⟩, ?_, ?_⟩
  · refine List.pairwise_map.mpr (List.Pairwise.imp ?_ (sortT_strict n1))
    intro a b h
    exact iLt_n rfl h
  · refine List.pairwise_flatMap.mpr ⟨fun n _ => List.pairwise_map.mpr (List.Pairwise.imp ?_ (hr n)), List.Pairwise.imp ?_ (sortT_strict n2)⟩
    · intro a b h
      exact (ordK_neg _ _).mpr (.inr (.inr ⟨rfl, rfl, h⟩))
    · intro a b h x hx y hy
      obtain ⟨r, _, rfl⟩ := List.mem_map.mp hx
      obtain ⟨r', _, rfl⟩ := List.mem_map.mp hy
      exact iLt_n rfl h
  · intro x hx y hy
    obtain ⟨n, _, rfl⟩ := List.mem_map.mp hx
    obtain ⟨m, _, hy⟩ := List.mem_flatMap.mp hy
    obtain ⟨r, _, rfl⟩ := List.mem_map.mp hy
    exact iLt_s (by show (0 : Int) < 1; decide)
  · refine List.pairwise_map.mpr (List.Pairwise.imp_of_mem ?_ (sortT_strict n3))
    intro a b ha hb h
    refine iLt_n ?_ ?_
    · rw [key_rul ha, key_rul hb]
    · rw [key_rul ha, key_rul hb]
      exact h
  · intro x hx y hy
    obtain ⟨n, hn, rfl⟩ := List.mem_map.mp hy
    refine iLt_s ?_
    rw [key_rul hn]
    rcases List.mem_append.mp hx with hx | hx
    · obtain ⟨m, _, rfl⟩ := List.mem_map.mp hx
      show (0 : Int) < 2
      decide
    · obtain ⟨m, _, hx⟩ := List.mem_flatMap.mp hx
      obtain ⟨r, _, rfl⟩ := List.mem_map.mp hx
      show (1 : Int) < 2
      decide
  · refine List.pairwise_map.mpr (List.Pairwise.imp ?_ (sortT_strict n4))
    intro a b h
    exact iLt_n rfl h
  · intro x hx y hy
    obtain ⟨n, hn, rfl⟩ := List.mem_map.mp hy
    refine iLt_s ?_
    show _ < (3 : Int)
    rcases List.mem_append.mp hx with hx | hx
    · rcases List.mem_append.mp hx with hx | hx
      · obtain ⟨m, _, rfl⟩ := List.mem_map.mp hx
        show (0 : Int) < 3
        decide
      · obtain ⟨m, _, hx⟩ := List.mem_flatMap.mp hx
        obtain ⟨r, _, rfl⟩ := List.mem_map.mp hx
        show (1 : Int) < 3
        decide
    · obtain ⟨m, hm, rfl⟩ := List.mem_map.mp hx
      rw [key_rul hm]
      show (2 : Int) < 3
      decide
def hasKey (os : List Item) (x : Item) : Prop := ∀ y ∈ os, keyOf y ≠ keyOf x
theorem pw_snoc {xs : List Item} {x : Item} (h : (xs ++ [x]).Pairwise iLt) : xs.Pairwise iLt ∧ hasKey xs x := by
  obtain ⟨h1, _, h2⟩ := List.pairwise_append.mp h
  refine ⟨h1, fun y hy e => ?_⟩
  have := h2 y hy x (List.mem_singleton.mpr rfl)
  unfold iLt at this
  rw [(ordK_zero _ _).mpr e] at this
  exact absurd this (by decide)
theorem mem_snoc {α : Type} {xs : List α} {x y : α} : y ∈ xs ++ [x] ↔ y ∈ xs ∨ y = x := by rw [List.mem_append, List.mem_singleton]
theorem lR_iff (os : List Item) : os.Pairwise iLt → ∀ n v, valG (lR os) n = some v ↔ Item.relation n v ∈ os := by
  refine snoc_ind (p := fun os => os.Pairwise iLt → ∀ n v, valG (lR os) n = some v ↔ Item.relation n v ∈ os) (fun _ n v => ⟨fun h => (nomatch h), fun h => (nomatch h)⟩) (fun xs x ih h n v => ?_) os
  obtain ⟨h1, h2⟩ := pw_snoc h
  rw [show lR (xs ++ [x]) = stR (lR xs) x from fold_snoc _ _ _ _, mem_snoc, ← ih h1]
  cases x with
  | relation m w =>
    show valG (putG (lR xs) m w) n = some v ↔ _
    rw [valG_put]
    by_cases e : m = n
    · subst e
      rw [if_pos rfl]
      refine ⟨fun h => .inr (by cases h; rfl), fun h => h.elim (fun z => ?_) fun z => by cases z; rfl⟩
      exact absurd (by rfl) (h2 _ ((ih h1 m v).mp z))
    · rw [if_neg e]
      exact ⟨.inl, fun h => h.elim id fun z => absurd (by cases z; rfl) e⟩
  | fact m r => exact ⟨.inl, fun h => h.elim id fun z => nomatch z⟩
  | rule m r a b => exact ⟨.inl, fun h => h.elim id fun z => nomatch z⟩
  | denial m r => exact ⟨.inl, fun h => h.elim id fun z => nomatch z⟩
theorem lU_iff (os : List Item) : os.Pairwise iLt → ∀ n v, valG (lU os) n = some v ↔ Item.rule n v.rel v.hd v.b ∈ os := by
  refine snoc_ind (p := fun os => os.Pairwise iLt → ∀ n v, valG (lU os) n = some v ↔ Item.rule n v.rel v.hd v.b ∈ os) (fun _ n v => ⟨fun h => (nomatch h), fun h => (nomatch h)⟩) (fun xs x ih h n v => ?_) os
  obtain ⟨h1, h2⟩ := pw_snoc h
  rw [show lU (xs ++ [x]) = stU (lU xs) x from fold_snoc _ _ _ _, mem_snoc, ← ih h1]
  cases x with
  | rule m rel hd b =>
    show valG (putG (lU xs) m ⟨rel, hd, b⟩) n = some v ↔ _
    rw [valG_put]
    by_cases e : m = n
    · subst e
      rw [if_pos rfl]
      refine ⟨fun h => .inr (by cases h; rfl), fun h => h.elim (fun z => ?_) fun z => by obtain ⟨a, b, c⟩ := v; cases z; rfl⟩
      exact absurd (by rfl) (h2 _ ((ih h1 m v).mp z))
    · rw [if_neg e]
      exact ⟨.inl, fun h => h.elim id fun z => absurd (by cases z; rfl) e⟩
  | fact m r => exact ⟨.inl, fun h => h.elim id fun z => nomatch z⟩
  | relation m r => exact ⟨.inl, fun h => h.elim id fun z => nomatch z⟩
  | denial m r => exact ⟨.inl, fun h => h.elim id fun z => nomatch z⟩
theorem lD_iff (os : List Item) : os.Pairwise iLt → ∀ n v, valG (lD os) n = some v ↔ Item.denial n v ∈ os := by
  refine snoc_ind (p := fun os => os.Pairwise iLt → ∀ n v, valG (lD os) n = some v ↔ Item.denial n v ∈ os) (fun _ n v => ⟨fun h => (nomatch h), fun h => (nomatch h)⟩) (fun xs x ih h n v => ?_) os
  obtain ⟨h1, h2⟩ := pw_snoc h
  rw [show lD (xs ++ [x]) = stD (lD xs) x from fold_snoc _ _ _ _, mem_snoc, ← ih h1]
  cases x with
  | denial m w =>
    show valG (putG (lD xs) m w) n = some v ↔ _
    rw [valG_put]
    by_cases e : m = n
    · subst e
      rw [if_pos rfl]
      refine ⟨fun h => .inr (by cases h; rfl), fun h => h.elim (fun z => ?_) fun z => by cases z; rfl⟩
      exact absurd (by rfl) (h2 _ ((ih h1 m v).mp z))
    · rw [if_neg e]
      exact ⟨.inl, fun h => h.elim id fun z => absurd (by cases z; rfl) e⟩
  | fact m r => exact ⟨.inl, fun h => h.elim id fun z => nomatch z⟩
  | rule m r a b => exact ⟨.inl, fun h => h.elim id fun z => nomatch z⟩
  | relation m r => exact ⟨.inl, fun h => h.elim id fun z => nomatch z⟩
def rowIn (n : Str) : Item → Option (List Val)
  | .fact m r => if m = n then some r else none
  | _ => none
def rowsIn (os : List Item) (n : Str) : List (List Val) := os.filterMap (rowIn n)
theorem mem_rowsIn {os : List Item} {n : Str} {r : List Val} : r ∈ rowsIn os n ↔ Item.fact n r ∈ os := by
  unfold rowsIn
  rw [List.mem_filterMap]
  constructor
  · rintro ⟨x, hx, e⟩
    cases x with
    | fact m r' =>
      unfold rowIn at e
      dsimp only at e
      split at e
      · rename_i e2
        injection e with e
        rw [← e, ← e2]
        exact hx
      · cases e
    | _ => cases e
  · intro h
    exact ⟨_, h, by unfold rowIn; dsimp only; rw [if_pos rfl]⟩
theorem rowsIn_pw {os : List Item} (h : os.Pairwise iLt) (n : Str) : (rowsIn os n).Pairwise fun a b => rLt a b = true := by
  unfold rowsIn
  refine List.pairwise_filterMap.mpr (h.imp fun {a b} hab x hx y hy => ?_)
  cases a with
  | fact m r =>
    cases b with
    | fact m' r' =>
      unfold rowIn at hx hy
      dsimp only at hx hy
      split at hx
      · split at hy
        · rename_i e1 e2
          subst e1 e2
          injection hx with hx
          injection hy with hy
          subst hx hy
          rcases (ordK_neg _ _).mp hab with h | ⟨_, h⟩ | ⟨_, _, h⟩
          · exact absurd h (by show ¬ (1 : Int) < 1; decide)
          · exact absurd h (List.lt_irrefl _)
          · exact h
        · cases hy
      · cases hx
    | _ => cases hy
  | _ => cases hx
theorem lF1_is (os : List Item) (n : Str) : valG (lF1 os) n = if (os.any fun x => match x with | .relation m _ => decide (m = n) | _ => false) = true then some [] else none := by
  refine snoc_ind (p := fun os => valG (lF1 os) n = if (os.any fun x => match x with | .relation m _ => decide (m = n) | _ => false) = true then some [] else none) rfl (fun xs x ih => ?_) os
  rw [show lF1 (xs ++ [x]) = stF1 (lF1 xs) x from fold_snoc _ _ _ _, List.any_append]
  cases x with
  | relation m w =>
    show valG (putG (lF1 xs) m []) n = _
    rw [valG_put, ih]
    by_cases e : m = n
    · subst e
      rw [if_pos rfl]
      simp
    · rw [if_neg e]
      simp [e]
  | fact m w => rw [show stF1 (lF1 xs) (.fact m w) = lF1 xs from rfl]; simpa using ih
  | rule m w a b => rw [show stF1 (lF1 xs) (.rule m w a b) = lF1 xs from rfl]; simpa using ih
  | denial m w => rw [show stF1 (lF1 xs) (.denial m w) = lF1 xs from rfl]; simpa using ih
theorem lF2_is (F : List (Str × List (List Val))) (n : Str) (hF : (valG F n).getD [] = []) (os : List Item) : valG (lF2 F os) n = if rowsIn os n = [] then valG F n else some (rowsIn os n) := by
  refine snoc_ind (p := fun os => valG (lF2 F os) n = if rowsIn os n = [] then valG F n else some (rowsIn os n)) rfl (fun xs x ih => ?_) os
  have eR : rowsIn (xs ++ [x]) n = rowsIn xs n ++ (rowIn n x).toList := by
    unfold rowsIn
    rw [List.filterMap_append, List.filterMap_cons]
    cases rowIn n x <;> rfl
  rw [show lF2 F (xs ++ [x]) = stF2 (lF2 F xs) x from fold_snoc _ _ _ _, eR]
  cases x with
  | fact m r =>
    by_cases e : m = n
    · subst e
      rw [show (rowIn m (.fact m r)).toList = [r] by unfold rowIn; simp]
      show valG (putG (lF2 F xs) m ((valG (lF2 F xs) m).getD [] ++ [r])) m = _
      rw [valG_put, if_pos rfl, if_neg (by simp), ih]
      by_cases h : rowsIn xs m = []
      · rw [if_pos h, h, hF]
      · rw [if_neg h]
        rfl
    · rw [show (rowIn n (.fact m r)).toList = [] by unfold rowIn; simp [e], List.append_nil]
      show valG (putG (lF2 F xs) m ((valG (lF2 F xs) m).getD [] ++ [r])) n = _
      rw [valG_put, if_neg e, ih]
  | relation m w => rw [show (rowIn n (.relation m w)).toList = [] from rfl, List.append_nil]; exact ih
  | rule m w a b => rw [show (rowIn n (.rule m w a b)).toList = [] from rfl, List.append_nil]; exact ih
  | denial m w => rw [show (rowIn n (.denial m w)).toList = [] from rfl, List.append_nil]; exact ih
theorem fold_nodup {κ β : Type} [DecidableEq κ] (f : List (κ × β) → Item → List (κ × β)) (hf : ∀ d x, f d x = d ∨ ∃ k v, f d x = putG d k v) (os : List Item) (d : List (κ × β)) (h : (d.map (·.1)).Nodup) : ((os.foldl f d).map (·.1)).Nodup := by
  refine snoc_ind (p := fun os => ((os.foldl f d).map (·.1)).Nodup) h (fun xs x ih => ?_) os
  rw [fold_snoc]
  rcases hf (xs.foldl f d) x with e | ⟨k, v, e⟩
  · rw [e]; exact ih
  · rw [e]; exact putG_nodup ih _ _
theorem opt_ext {α : Type} {a b : Option α} (h : ∀ v, a = some v ↔ b = some v) : a = b := by
  cases a with
  | none =>
    cases b with
    | none => rfl
    | some y => exact absurd ((h y).mpr rfl) (by simp)
  | some x => exact ((h x).mp rfl).symm
end Ab
set_option Elab.async false
set_option linter.all false
set_option maxRecDepth 1000000
set_option  maxHeartbeats 4000000
namespace Ab
open PySem PyProof.Rows L2
end Ab
set_option Elab.async false
set_option linter.all false
set_option maxRecDepth 1000000
set_option  maxHeartbeats 4000000
namespace Ab
open PySem L2
abbrev Prs (α : Type) := List Int → Option (α × List Int)
def Prs.ret {α : Type} (x : α) : Prs α := fun D => some (x, D)
def Prs.thn {α β : Type} (p : Prs α) (f : α → Prs β) : Prs β := fun D => match p D with
  | none => none
  | some (x, r) => f x r
def pLen : Prs Int := fun D => some ((D.length : Int), D)
/-- a change, with any key -/
inductive Chk where
  | comes (it : Item)
  | goes (k : IKey)
def Chk.enc : Chk → PyData
  | .comes it => .tuple [.str "comes", it.enc]
  | .goes k => .tuple [.str "goes", k.enc]
/-- bytes -/
def Byt (D : List Int) : Prop := ∀ b ∈ D, 0 ≤ b ∧ b < 256
def Rt {α : Type} (p : Prs α) (D : List Int) (x : α) : Prop := ∀ r, p (D ++ r) = some (x, r)
theorem Rt.ret {α : Type} {x : α} : Rt (Prs.ret x) [] x := fun _ => rfl
theorem Rt.thn {α β : Type} {p : Prs α} {f : α → Prs β} {D E : List Int} {x : α} {y : β} (h : Rt p D x) (h' : Rt (f x) E y) : Rt (Prs.thn p f) (D ++ E) y := fun r => by
  unfold Prs.thn
  rw [List.append_assoc, h (E ++ r)]
  exact h' r
theorem Rt.thn0 {α β : Type} {p : Prs α} {f : α → Prs β} {D : List Int} {x : α} {y : β} (h : Rt p D x) (h' : Rt (f x) [] y) : Rt (Prs.thn p f) D y := by
  have := h.thn h'
  rwa [List.append_nil] at this
theorem Rt.map {α β : Type} {p : Prs α} {g : α → β} {D : List Int} {x : α} (h : Rt p D x) : Rt (Prs.thn p fun x => Prs.ret (g x)) D (g x) := h.thn0 Rt.ret
def Chk.ok : Chk → Prop
  | .comes it => it.ok
  | .goes k => k.ok ∧ 0 ≤ k.s ∧ k.s < 4
/-- few terms -/
def Lit.sm : Lit → Prop
  | .fact _ ts => ts.length ≤ 5
  | .neg _ ts => ts.length ≤ 5
  | .count _ _ ts => ts.length ≤ 5
  | _ => True
def smB (b : List Lit) : Prop := b.length ≤ 5 ∧ ∀ l ∈ b, l.sm
def Item.sm : Item → Prop
  | .relation _ _ => True
  | .fact _ row => row.length ≤ 6
  | .rule _ _ ts b => ts.length ≤ 5 ∧ smB b
  | .denial _ b => smB b
def Chk.sm : Chk → Prop
  | .comes it => it.sm
  | .goes k => k.row.length ≤ 6
end Ab
set_option Elab.async false
set_option linter.all false
set_option maxRecDepth 100000
set_option  maxHeartbeats 4000000
namespace Ab
open PySem PySem.Spec PyProof.Rows L2
section
variable {K : KX} {ρ : Rho} {M : MH} {Q : Sl → MH → Prop} {te : TE} {tc : TT} {tb : TS} {nx bk ct : Rho → MH → Prop} {rt : Sl → MH → Prop}
/-- while, what is left told by a number -/
theorem ws_while (J : Nat → Rho → MH → Prop) (h0 : ∃ m, J m ρ M)
    (hs : ∀ m ρ' M', J m ρ' M' → WT K tc ρ' M' fun b M2 => if b = true then WS K tb ρ' M2 ⟨fun ρ3 M3 => ∃ m', m' < m ∧ J m' ρ3 M3, rt, nx, fun ρ3 M3 => ∃ m', m' < m ∧ J m' ρ3 M3⟩ else nx ρ' M2) : WS K (tWhile tc tb) ρ M ⟨nx, rt, bk, ct⟩ := fun σ B H D hR hS a b c d => by
  obtain ⟨m0, j0⟩ := h0
  refine ⟨fun m σ' H' => ∃ ρ' M' B', J m ρ' M' ∧ Same B B' ∧ Rl K B' σ' ρ' ∧ Sep K B' M' H', ⟨m0, ρ, M, B, j0, Same.refl _, hR, hS⟩, ?_⟩
  rintro m σ' H' ⟨ρ', M', B', hj, e, R, S⟩
  refine hs m ρ' M' hj σ' B' H' R S _ fun k M2 B2 H2 q e2 S2 => ?_
  have e02 := e.trans e2
  cases k with
  | true =>
    rw [if_pos rfl] at q ⊢
    refine ⟨fun σ3 H3 => ∃ m', m' < m ∧ ∃ ρ3 M3 B3, J m' ρ3 M3 ∧ Same B B3 ∧ Rl K B3 σ3 ρ3 ∧ Sep K B3 M3 H3, fun σ3 H3 z => z, ?_⟩
    exact q σ' B2 H2 _ (R.mono e2) S2 (fun ρ3 M3 σ3 B3 H3 ⟨m', hm, j3⟩ e3 R3 S3 => ⟨m', hm, ρ3, M3, B3, j3, e02.trans e3, R3, S3⟩) (fun s v M3 B3 H3 q3 e3 => b s v M3 B3 H3 q3 (e02.trans e3))
      (fun ρ3 M3 σ3 B3 H3 q3 e3 => a ρ3 M3 σ3 B3 H3 q3 (e02.trans e3)) (fun ρ3 M3 σ3 B3 H3 ⟨m', hm, j3⟩ e3 R3 S3 => ⟨m', hm, ρ3, M3, B3, j3, e02.trans e3, R3, S3⟩)
  | false =>
    rw [if_neg Bool.false_ne_true] at q ⊢
    exact a ρ' M2 σ' B2 H2 q e02 (R.mono e2) S2
end
section
variable {K : PySem.W.Frag} {M : MH} {Q : Sl → MH → Prop}
/-- xs.extend(data) -/
theorem wm_extendD {a : Addr} {xs : List Sl} {ds : List PyData} (ha : M a = some (.lst xs)) (hl : xs.length + ds.length ≤ 1000000) (q : Q .non (um M a (.lst (xs ++ ds.map .dat)))) : WM K rExtend (.raw (.ref a)) [.dat (.list ds)] M Q := fun B H v vs hS o1 o2 Q0 k => by
  cases o2 with
  | cons o2 o3 =>
    cases o3
    obtain rfl : v = V.ref a := o1
    cases o2 with
    | lst hb hd =>
      obtain ⟨_, u, hu, us, rfl, h1⟩ := hS.has a _ ha
      have h2 := sla_dat hd
      have l2 := SlAll.len h2
      rw [List.length_map] at l2
      refine ⟨a, _, us, _, rfl, rfl, hu, hS.sub _ _ hb, Nat.le_trans (by rw [SlAll.len h1, l2]; exact hl) (show 1000000 ≤ sizeLine by decide), ?_⟩
      exact k _ _ _ B _ q (Same.refl B) (hS.put ha ⟨_, rfl, SlAll.app h1 h2⟩) slok_non
theorem lsv_dp {s : Sl} {ds : List PyData} {B H : Hp} {v : V} (z : SeqAt.shaped (.list ds) = true) (h : LsV K s M (ds.map .dat)) (hS : Sep K B M H) (o : SlOk K B v s) : Dp K H v (.list ds) := by
  obtain ⟨a, vs, rfl, hq, ha⟩ := h.get hS o
  exact .lst hq (dqa_dpS z (dpa_same hS.sub _ _ (dpa_of ha)))
theorem w2_neL {s t : Sl} {ds es : List PyData} (hs : LsV K s M (ds.map .dat)) (ht : LsV K t M (es.map .dat)) (h1 : SeqAt.shaped (.list ds) = true) (h2 : SeqAt.shaped (.list es) = true) (q : Q (.bl (!PyData.eqv (.list ds) (.list es))) M) : W2 K (rNeD K) s t M Q := fun B H v w hS o1 o2 Q0 k =>
  ⟨.list ds, .list es, lsv_dp h1 hs hS o1, lsv_dp h2 ht hS o2, h1, h2, k _ _ M B H q (Same.refl B) hS slok_bl⟩
end
end Ab
set_option Elab.async false
set_option linter.all false
set_option maxRecDepth 1000000
set_option  maxHeartbeats 4000000
namespace Ab
open PySem PySem.Spec PyProof.Rows L2
abbrev bys (D : List Int) : List Sl := (D.map PyData.int).map Sl.dat
abbrev rdF (l : Addr) (n : Int) : List (Str × Sl) := [("data", .raw (.ref l)), ("at", .dat (.int n))]
def rdO (C dx l : Addr) (n : Int) : MO := .ins C dx (rdF l n)
/-- a reader: its class, the error, itself, its dict, its list, all of the bytes, what else stands -/
structure Rx where
  C : Addr
  Ex : Addr
  o : Addr
  dx : Addr
  l : Addr
  all : List Int
  M0 : MH
def Rx.m (c : Rx) (D : List Int) : MH := um c.M0 c.o (rdO c.C c.dx c.l ((c.all.length : Int) - D.length))
structure Rx.Ok (c : Rx) : Prop where
  hl : c.M0 c.l = some (.lst (bys c.all))
  ne : c.l ≠ c.o
  by' : Byt c.all
  sz : c.all.length ≤ 1000000
/-- what else stood before, stands -/
abbrev Rx.Keep (c : Rx) (M' : MH) : Prop := ∀ b u, b ≠ c.o → c.M0 b = some u → M' b = some u
def Rx.Fut {α : Type} (c : Rx) (p : Prs α) (D : List Int) (Q : α → MH → Prop) (X : Value → Option Addr → MH → Prop) : Prop := match p D with
  | none => ∀ M', c.Keep M' → X (.ref c.Ex) none M'
  | some (x, r) => r <:+ c.all → Q x (c.m r)
theorem Rx.at (c : Rx) (D : List Int) : c.m D c.o = some (.ins c.C c.dx (rdF c.l ((c.all.length : Int) - D.length))) := um_same
theorem Rx.data {c : Rx} (h : c.Ok) (D : List Int) : c.m D c.l = some (.lst (bys c.all)) := by
  unfold Rx.m
  rw [um_ne h.ne]
  exact h.hl
theorem Rx.keep (c : Rx) (D : List Int) : c.Keep (c.m D) := fun b u hb h => by
  unfold Rx.m
  rw [um_ne hb]
  exact h
theorem Rx.Fut.thn {α β : Type} {c : Rx} {p : Prs α} {f : α → Prs β} {D : List Int} {Q : β → MH → Prop} {X : Value → Option Addr → MH → Prop} (F : c.Fut (Prs.thn p f) D Q X) :
    (p D = none → ∀ M', c.Keep M' → X (.ref c.Ex) none M') ∧ ∀ x r, p D = some (x, r) → c.Fut (f x) r Q X := by
  unfold Rx.Fut Prs.thn at F
  refine ⟨fun h => ?_, fun x r h => ?_⟩
  · rw [h] at F
    exact F
  · rw [h] at F
    exact F
theorem Rx.Fut.ret {α : Type} {c : Rx} {x : α} {D : List Int} {Q : α → MH → Prop} {X : Value → Option Addr → MH → Prop} (F : c.Fut (Prs.ret x) D Q X) (h : D <:+ c.all) : Q x (c.m D) := F h
theorem Rx.Fut.of {α : Type} {c : Rx} {p : Prs α} {D : List Int} {Q : α → MH → Prop} {X : Value → Option Addr → MH → Prop} (h1 : p D = none → ∀ M', c.Keep M' → X (.ref c.Ex) none M') (h2 : ∀ x r, p D = some (x, r) → r <:+ c.all → Q x (c.m r)) : c.Fut p D Q X := by
  unfold Rx.Fut
  cases h : p D with
  | none => exact h1 h
  | some z => exact h2 z.1 z.2 h
theorem Rx.Fut.len {β : Type} {c : Rx} {f : Int → Prs β} {D : List Int} {Q : β → MH → Prop} {X : Value → Option Addr → MH → Prop} (F : c.Fut (Prs.thn pLen f) D Q X) : c.Fut (f (D.length : Int)) D Q X := F
end Ab
set_option Elab.async false
set_option linter.all false
set_option maxRecDepth 1000000
set_option  maxHeartbeats 4000000
namespace L2
open PySem PySem.Spec PyProof.Rows
end L2
namespace Ab
open PySem PySem.Spec PyProof.Rows L2
/-- a def of the module, as it stands there -/
def FnG (K : PySem.W.Frag) (nm : Str) (st : Stmt) : Prop := ∃ (f : Addr) (oc : Value) (od : Option Addr) (kV dc pm cd ct : Value) (an : Option Addr) (sl : Array (Option Value)),
  PySem.W.nsIn K mainGlobals nm = some (some (.ref f)) ∧ K.lookup f = some ⟨oc, od, .func (PySem.W.fnOf nm nm (defArgs st) (defBody st) (defScope st) .none kV dc pm an cd ct), sl⟩ ∧ PySem.W.codeIn K cd nm = true ∧ PySem.W.keepIn K (.ref f) = true
/-- a method of a class of the module -/
def MtG (K : PySem.W.Frag) (C m qual : Str) (st : Stmt) : Prop := ∃ (cc f : Addr) (oc : Value) (od : Option Addr) (kV dc pm cd ct : Value) (an : Option Addr) (sl : Array (Option Value)),
  PySem.W.nsIn K mainGlobals C = some (some (.ref cc)) ∧ PySem.W.findIn K (.ref cc) m = some (some (.ref f)) ∧ PySem.W.isFn K (.ref f) = true ∧ K.lookup f = some ⟨oc, od, .func (PySem.W.fnOf m qual (defArgs st) (defBody st) (defScope st) .none kV dc pm an cd ct), sl⟩ ∧ PySem.W.codeIn K cd qual = true ∧ PySem.W.keepIn K (.ref f) = true
abbrev fnIn {K : PySem.W.Frag} {h : Heap} (_ : K.In h) (nm : Str) (st : Stmt) : Prop := FnG K nm st
abbrev mtIn {K : PySem.W.Frag} {h : Heap} (_ : K.In h) (C m qual : Str) (st : Stmt) : Prop := MtG K C m qual st
theorem fnG_mk {K : PySem.W.Frag} {h : Heap} (X : K.In h) {nm : Str} {st : Stmt} {f : Addr} {oc : Value} {od : Option Addr} {kV dc pm cd ct : Value} {an : Option Addr} {sl : Array (Option Value)}
    (h1 : PySem.W.nsIn K mainGlobals nm = some (some (.ref f))) (h2 : K.lookup f = some ⟨oc, od, .func (PySem.W.fnOf nm nm (defArgs st) (defBody st) (defScope st) .none kV dc pm an cd ct), sl⟩) (h3 : PySem.W.codeIn K cd nm = true) (h4 : PySem.W.keepIn K (.ref f) = true) : fnIn X nm st :=
  ⟨f, oc, od, kV, dc, pm, cd, ct, an, sl, h1, h2, h3, h4⟩
theorem mtG_mk {K : PySem.W.Frag} {h : Heap} (X : K.In h) {C m qual : Str} {st : Stmt} {cc f : Addr} {oc : Value} {od : Option Addr} {kV dc pm cd ct : Value} {an : Option Addr} {sl : Array (Option Value)}
    (h1 : PySem.W.nsIn K mainGlobals C = some (some (.ref cc))) (h2 : PySem.W.findIn K (.ref cc) m = some (some (.ref f))) (h3 : PySem.W.isFn K (.ref f) = true) (h4 : K.lookup f = some ⟨oc, od, .func (PySem.W.fnOf m qual (defArgs st) (defBody st) (defScope st) .none kV dc pm an cd ct), sl⟩) (h5 : PySem.W.codeIn K cd qual = true) (h6 : PySem.W.keepIn K (.ref f) = true) : mtIn X C m qual st :=
  ⟨cc, f, oc, od, kV, dc, pm, cd, ct, an, sl, h1, h2, h3, h4, h5, h6⟩
end Ab
namespace Ab
open PySem PySem.Spec PyProof.Rows L2
section
variable {K : KX} {ρ : Rho} {M : MH} {Q : Sl → MH → Prop} {te tl : TE}
theorem w_dropA (a : Addr) (h : W K te ρ M fun s M1 => Q s (del M1 a)) : W K te ρ M Q := fun σ B H hR hS Q0 k =>
  h σ B H hR hS Q0 fun s v M1 B1 H1 q e S o => k s v (del M1 a) B1 H1 q e S.drop o
end
section
variable {K : PySem.W.Frag} {M : MH} {Q : Sl → MH → Prop} {xs : List Sl}
theorem del_umum {a b : Addr} {x y : MO} (h : M a = none) (hb : b ≠ a) : del (um (um M a x) b y) a = um M b y := by
  rw [um_comm hb.symm, del_um]
  rw [um_ne hb.symm]
  exact h
/-- text + text -/
theorem w2_addS {x y : Str} (hl : x.length + y.length ≤ 1000000) (q : Q (.str (x ++ y)) M) : W2 K (fun x y H Q => ∃ i j, x = .str i ∧ y = .str j ∧ i.length + j.length ≤ sizeLine ∧ Q (.str (i ++ j)) H) (.str x) (.str y) M Q := fun B H v w hS o1 o2 Q0 k =>
  ⟨x, y, of_str o1, of_str o2, Nat.le_trans hl (show 1000000 ≤ sizeLine by decide), k _ _ M B H q (Same.refl B) hS slok_str⟩
end
end Ab
set_option Elab.async false
set_option linter.all false
set_option maxRecDepth 1000000
set_option  maxHeartbeats 4000000
namespace L2
open PySem PySem.Spec PyProof.Rows
end L2
set_option Elab.async false
set_option linter.all false
set_option maxRecDepth 1000000
set_option  maxHeartbeats 4000000
namespace L2
open PySem PySem.Spec PyProof.Rows
end L2
set_option Elab.async false
set_option linter.all false
set_option maxRecDepth 1000000
set_option  maxHeartbeats 4000000
namespace L2
open PySem PySem.Spec PyProof.Rows Ab
end L2
namespace Ab
open PySem PyProof.Rows L2
end Ab
namespace Ab
open PySem PyProof.Rows L2
end Ab
set_option Elab.async false
set_option linter.all false
set_option maxRecDepth 1000000
set_option  maxHeartbeats 4000000
namespace Ab
open PySem PyProof.Rows L2
abbrev rDictD : List V → Hp → VK → Prop := fun xs H Q => ∃ (a : Addr) (kvs : List (Key × V)), xs = [.ref a] ∧ Rd H a (.dK kvs) ∧ ∀ p, H p = none → Q (.ref p) (upd H p (.dK kvs))
section
variable {F : PySem.W.Frag} {K : KX} {ρ : Rho} {M : MH} {Q : Sl → MH → Prop} {te td ty tx : TE} {nx bk ct : Rho → MH → Prop} {rt : Sl → MH → Prop} {β : Type} {f : β → PyData} {w : List (Str × β)}
/-- dict(d) -/
theorem wl_dict {s : Sl} {kvs : List (Key × Sl)} (h : DcV F s M kvs) (q : ∀ p, M p = none → Q (.raw (.ref p)) (um M p (.dK kvs))) : WL F rDictD [s] M Q := fun B H vs hS o Q0 k => by
  cases o with
  | cons o1 o2 =>
    cases o2
    obtain ⟨a, us, rfl, hr, hk⟩ := h.get hS o1
    exact ⟨a, us, rfl, hr, fun p hp => k _ _ _ B _ (q p (hS.freeM hp)) (Same.refl B) (hS.new hp ⟨us, rfl, hk⟩) slok_ref⟩
/-- d.get(x) -/
theorem w_dget1 (h : W K td ρ M fun s M1 => (∃ kvs, DcV K.K s M1 kvs) ∧ W K ty ρ M1 fun y M2 => ∃ kvs k, DcV K.K s M2 kvs ∧ y = kS k ∧ Q ((valG kvs k).getD .non) M2) : W K (tDGet1 td ty) ρ M Q := fun σ B H hR hS Q0 q0 =>
  h σ B H hR hS _ fun s v M1 B1 H1 ⟨⟨kv0, h0⟩, h1⟩ e1 S1 o1 => by
    obtain ⟨a, vs0, rfl, hr0, _⟩ := h0.get S1 o1
    refine ⟨a, rfl, isD_of hr0, h1 σ B1 H1 (hR.mono e1) S1 _ fun y w M2 B2 H2 ⟨kvs, k, hd, ey, q⟩ e2 S2 o2 => ?_⟩
    subst ey
    obtain ⟨b, vs, eb, hr, hk⟩ := hd.get S2 (o1.mono e2)
    cases eb
    obtain ⟨i1, i2⟩ := slks_val (k := k) hk
    refine ⟨valV vs k, .inl ⟨vs, k, hr, of_kS o2, rfl⟩, ?_⟩
    cases hv : valG kvs k with
    | none => rw [i2 hv]; rw [hv] at q; exact q0 _ _ M2 B2 H2 q (e1.trans e2) S2 slok_non
    | some s => obtain ⟨z, hz, oz⟩ := i1 s hv; rw [hz]; rw [hv] at q; exact q0 _ _ M2 B2 H2 q (e1.trans e2) S2 oz
end
end Ab
set_option Elab.async false
set_option linter.all false
set_option maxRecDepth 1000000
set_option  maxHeartbeats 4000000
namespace SupX
open PySem PySem.Spec PyProof.Rows L2
abbrev envS (qual : Str) (sc : Scope) (L f : Addr) (cd : Value) (cc : Addr) : Env := PySem.W.envX qual sc L f cd [("__class__", cc)]
abbrev fnS (nm qual : Str) (params : Arguments) (body : List Stmt) (sc : Scope) (cc : Addr) (dV kV doc pm : Value) (an : Option Addr) (cdv ct : Value) : FuncData := PySem.W.fnX nm qual params body sc [("__class__", cc)] dV kV doc pm an cdv ct
/-- the context of such a def -/
def cxS (P : Program) (w : World) (K : PySem.W.Frag) (mg : Str → Option Value) (base : Heap) (N : List Str) (qual : Str) (sc : Scope) (f : Addr) (cd : Value) (cc : Addr) (A : Around) (outer : List Env) (s : Shared) (H : Hp) : Cx where
  prog := P
  w := w
  K := K
  mg := mg
  base := base
  A := A.deeper (envS qual sc s.heap.objs.size f cd cc)
  N := N
  s_0 := s
  H_0 := H
  env := envS qual sc s.heap.objs.size f cd cc
  outer := outer
  stack := envS qual sc s.heap.objs.size f cd cc :: outer
  ex := []
  calm := true
  fn := fun _ => false
  pn := []
  xe := fun _ _ => False
structure ScS (N ps : List Str) (sc : Scope) : Prop where
  nd : N.Nodup
  pre : N.take ps.length = ps
  par : ∀ n ∈ ps, sc.names.lookup n = some .local
  noc : ∀ x ∈ sc.names, x.2 ≠ .cell
  fre : ∀ x ∈ sc.names, x.2 = .free → x.1 = ("__class__" : Str)
  kc : sc.names.lookup ("__class__" : Str) = some .free
  ks : sc.names.lookup ("super" : Str) = some .globalImplicit
  kind : sc.kind = .function
  co : sc.isCoroutine = false
  gen : sc.isGenerator = false
section
variable {P : Program} {w : World} {K : PySem.W.Frag} {mg : Str → Option Value} {base : Heap} {N ps : List Str} {qual : Str} {sc : Scope} {f cc : Addr} {cd : Value} {A : Around} {outer : List Env} {s : Shared} {H : Hp} {us : List Value} {vs : List V}
theorem start_get {i : Nat} {v : V} (h : (L2.start N vs)[i]? = some (some v)) : vs[i]? = some v := by
  unfold L2.start at h
  by_cases hi : i < vs.length
  · rw [List.getElem?_append_left (by simpa using hi), List.getElem?_map] at h
    cases e : vs[i]? with
    | none => rw [e] at h; cases h
    | some a => rw [e] at h; cases h; rfl
  · rw [List.getElem?_append_right (by simpa using hi), List.getElem?_replicate] at h
    split at h <;> cases h
theorem cls_look {y : Str} {c : Addr} (h : ([("__class__", cc)] : List (Str × Addr)).lookup y = some c) : y = "__class__" ∧ c = cc := by
  rw [List.lookup] at h
  split at h
  · rename_i e
    injection h with h
    exact ⟨beq_iff_eq.mp e, h.symm⟩
  · cases h
theorem inv_startS {h₁ : Heap} {tk : Nat} {ocl : Value} {old : Option Addr} {D : Value} {osl : Array (Option Value)} (S : ScS N ps sc) (hcc : K.lookup cc = some ⟨ocl, old, .cell (some D), osl⟩) (hd : A.handled = none) (e0 : Env0 P w K mg base A outer s H) (hl : vs.length = ps.length) (r : Vals vs us)
    (hns : h₁.Ns s.heap.objs.size fun y => (ps.zip us).reverse.lookup y) (kp : ∀ b o, s.heap.get? b = some o → h₁.get? b = some o) :
    Inv (cxS P w K mg base N qual sc f cd cc A outer s H) [] (L2.start N vs) H { s with heap := h₁, toks := tk } := by
  have plN : ps.length ≤ N.length := by
    have q := congrArg List.length S.pre
    rw [List.length_take] at q
    omega
  have ccB : base.get? cc = some ⟨ocl, old, .cell (some D), osl⟩ := e0.mod.kin _ _ hcc
  have noX : ∀ b : Addr, b ∉ (cxS P w K mg base N qual sc f cd cc A outer s H).ex := fun b z => by cases (show b ∈ ([] : List Addr) from z)
  have ok : (cxS P w K mg base N qual sc f cd cc A outer s H).Ok := {
    mod := e0.mod, kind := S.kind, glob := rfl, blt := rfl, above := Nat.le_refl _
    inj := fun x y c h1 h2 => (cls_look h1).1.trans (cls_look h2).1.symm
    has := fun y hy => by
      have hy : sc.names.lookup y = some .cell ∨ sc.names.lookup y = some .free := hy
      rcases hy with hy | hy
      · exact absurd rfl (S.noc _ (PySem.mem_of_lookup hy))
      · obtain rfl := S.fre _ (PySem.mem_of_lookup hy) rfl
        exact ⟨cc, by rfl⟩
    cab := fun y c z _ => by cases (show false = true from z)
    hd := fun _ => hd, frames := Around.frames_deeper e0.frames, stk := .inr ⟨rfl, rfl⟩, exf := fun b z => absurd z (noX b), bs := e0.bs, bsz := e0.bsz, noex := fun b _ _ => noX b, exfs := fun b z => absurd z (noX b), funs := e0.funs, frf := e0.frf }
  exact {
    ok := ok, os := rfl, bare := e0.bare, base := Un.kept kp
    loc := ⟨_, hns, fun i y v h1 h2 h3 => by
      have hv := start_get h2
      obtain ⟨u, hu, rv⟩ := r.get hv
      have hi : i < ps.length := by
        rw [← hl]
        exact (List.getElem?_eq_some_iff.mp hv).1
      have hp : ps[i]? = some y := by
        have h1 : N[i]? = some y := h1
        rw [← S.pre, List.getElem?_take_of_lt hi]
        exact h1
      have ndP : ps.Nodup := by
        rw [← S.pre]
        exact S.nd.sublist (List.take_sublist _ _)
      exact ⟨u, rv, .inl ⟨S.par y (List.mem_of_getElem? hp), NdefX.zip_look ndP hp hu⟩⟩⟩
    cell := fun y c h => ⟨some D, by
      obtain ⟨_, rfl⟩ := cls_look h
      exact ⟨_, kp _ _ (e0.bs _ _ ccB).1, rfl⟩⟩
    free := e0.hok.fresh (Nat.le_refl _)
    freeC := fun y c h => by
      obtain ⟨_, rfl⟩ := cls_look h
      exact (e0.bs _ _ ccB).2
    pin := fun q z => by cases (show q ∈ ([] : List (Addr × Obj)) from z)
    hok := e0.hok.kept kp
    len := by
      show (L2.start N vs).length = N.length
      unfold L2.start
      rw [List.length_append, List.length_map, List.length_replicate]
      omega }
end
/-- what the module says of such a def and its class -/
structure SupK (P : Program) (K : PySem.W.Frag) (mg : Str → Option Value) (C f cda cc : Addr) (fd : FuncData) (ar : Str) : Prop where
  fn : ∃ (oc : Value) (od : Option Addr) (osl : Array (Option Value)), K.lookup f = some ⟨oc, od, .func fd, osl⟩
  hd : ∃ a : Arg, (fd.params.posonlyargs ++ fd.params.args).head? = some a ∧ a.arg = ar
  file : ∃ (ccl : Value) (cdd : Option Addr) (vs : Array Value) (ccs : Array (Option Value)) (fl : Str) (tf : Tok), K.lookup cda = some ⟨ccl, cdd, .fields vs, ccs⟩ ∧ vs[2]? = some (.str fl tf) ∧ ((P.main.file : Str) == fl) = true
  top : (P.main.scope.names.lookup ("super" : Str)).isSome = false
  cell : ∃ (cl : Value) (cld : Option Addr) (csl : Array (Option Value)), K.lookup cc = some ⟨cl, cld, .cell (some (.ref C)), csl⟩
  cls : ∃ cdD, PySem.W.clsIn K C = some cdD
  mro : PySem.W.mroIn K C (.ref C) = some true
  glob : mg "super" = none
  any : PySem.W.nsIn K cStatics "thirdparty.any" = some none
  ini : PySem.W.ks_superIn K C C "__init__" = some (some (.builtin "ValueError.__init__"))
  sub : PySem.W.subIn K (.ref C) (.type "ValueError") = some true
section
variable {P : Program} {w : World} {K : PySem.W.Frag} {mg : Str → Option Value} {base : Heap} {N : List Str} {nm qual : Str} {params : Arguments} {body : List Stmt} {sc : Scope} {f cda cc C : Addr} {A : Around} {outer : List Env} {s0 : Shared} {H0 : Hp} {σ : L2.St} {H : Hp} {a : Addr} {ar : Str}
  {dV kV doc pm ct : Value} {an : Option Addr}
theorem boot_super : bootBuiltins "super" = some (.type "super") := by decide +kernel
theorem call_wrap {prog : Program} {A : Around} {E : Value → Shared → Prop} {h : Heap} {g : Array GenState} {d : Drawn} {t : Nat} {os : OsState} {nm q : Str} {C N u e t0 : Addr} {bs bm : List Value} {hdct : Bool} {sn : List Str} {sub : List Value} {ab : Bool} {col : Option Bool} {dd : Option Addr} {k0 k1 k2 k3 k5 : Option Value} {rest : List Value} {Q : Value → Shared → Prop}
    (hC : h.get? C = some (excClassObj nm q C N bs bm hdct sn sub ab col dd k0 k1 k2 k3 k5 "ValueError.__new__")) (he : h.get? e = some (PySem.HandSPX.excO C t0)) (hu : h.get? u = some (PySem.W.kxs_mw "ValueError.__init__" e)) (hz : rest.length ≤ sizeLine)
    (q : ∀ h' t1, (∀ b o, b ≠ e → h.get? b = some o → h'.get? b = some o) → h'.get? e = some (PySem.HandSPX.excO C t1) → Q .none ⟨h', g, d, t, os⟩) : wpAny (model prog w) A (call (.ref u) rest) Q E ⟨h, g, d, t, os⟩ := by
  refine wpAny_call (codeAny_of_tree ?_)
  show wpAny _ A.in1 (callAny (Value.ref u) ⟨rest, []⟩) _ _ _
  unfold callAny
  refine wpAny_bind (wpAny_load hu ?_)
  simp only [PySem.W.kxs_mw, show (Value.type "method-wrapper" == Value.type "method" || Value.type "method-wrapper" == Value.type "builtin_function_or_method" || Value.type "method-wrapper" == Value.type "method-wrapper") = true by decide, if_true]
  refine PySem.W.KFB.if_so (by decide) (wpAny_bind (PySem.W.check_bound_init F.excBase_ValueError.toExcCallFacts hC he rfl (wpAny_bind (wpAny_pure (wpAny_pure ?_)))))
  refine ⟨Code.quiet_builtin _ (by decide +kernel), codeAny_builtin F.excBase_ValueError.initEntry ?_⟩
  exact PySem.W.exc_init_tree (cls := .ref C) (t0 := t0) (dv := none) (c2 := .none) (c3 := .none) (b4 := .bool false) he hz fun h' k1 k2 _ => q h' _ k1 k2
/-- super().__init__(text), said ahead of any field -/
theorem super_step {ps : List Str} {txt : Str} {j : Nat} {p0 p1 p2 p3 p4 p5 : Pos} {Q : Flow → Shared → Prop} {s : Shared} (Z : ScS N ps sc) (S : SupK P K mg C f cda cc (fnS nm qual params body sc cc dV kV doc pm an (.ref cda) ct) ar) (T : OexC K C) (hka : sc.names.lookup ar = some .local) (hN : N[0]? = some ar)
    (hin : ∀ (L f : Addr) (cd : Value) (cc : Addr), interactive (envS qual sc L f cd cc) = false)
    (hev : ∀ (L f : Addr) (cd : Value) (cc : Addr), ∃ pl : Sem Bool, eval (.Call (.Attribute (.Call (.Name "super" p0) [] [] p1) "__init__" p2) [.Constant (.str txt) j p3] [] p4) (envS qual sc L f cd cc) = (do
      let ov ← attributeBase (.Call (.Name "super" p0) [] [] p1) "__init__" (envS qual sc L f cd cc) (eval (.Call (.Name "super" p0) [] [] p1) (envS qual sc L f cd cc))
      standAt p2.atName
      let (f1, first) ← holding [ov] (getMethod ov "__init__" pl)
      callWith p4 f1 first (backTo p4 (starEach [.Constant (.str txt) j p3] (envS qual sc L f cd cc))) []))
    (I : Inv (cxS P w K mg base N qual sc f (.ref cda) cc A outer s0 H0) [] σ H s) (hs : σ[0]? = some (some (.ref a))) (ea : H a = some (exo a C none))
    (q : ∀ s', Inv (cxS P w K mg base N qual sc f (.ref cda) cc A outer s0 H0) [] σ H s' → Q .next s') :
    _root_.PySem.wpAt (model P w) (A.deeper (envS qual sc s0.heap.objs.size f (.ref cda) cc)) (.func body (envS qual sc s0.heap.objs.size f (.ref cda) cc))
      (exec (.Expr (.Call (.Attribute (.Call (.Name "super" p0) [] [] p1) "__init__" p2) [.Constant (.str txt) j p3] [] p4) p5) (envS qual sc s0.heap.objs.size f (.ref cda) cc)) Q (fun _ _ => False) s := by
  obtain ⟨oc, od, osl, hf⟩ := S.fn
  obtain ⟨ag, hag, rfl⟩ := S.hd
  obtain ⟨ccl, cdd, fvs, ccs, fl, tf, hcode, hvs, hfile⟩ := S.file
  obtain ⟨cl, cld, csl, hcell⟩ := S.cell
  obtain ⟨cdD, hD⟩ := S.cls
  have X : K.In s.heap := I.kIn
  obtain ⟨t1, he⟩ := exo_at I.hok ea
  obtain ⟨oD, hD1, hD2⟩ : ∃ oD, s.heap.get? C = some oD ∧ oD.data = .cls cdD := by
    unfold PySem.W.clsIn at hD
    split at hD
    · rename_i c d cd' sl ho
      cases hD
      exact ⟨_, X _ _ ho, rfl⟩
    · cases hD
  have IA : PySem.W.InstAt s.heap a { cls := .ref C, dict := none, data := .fields #[.ref t1, .none, .none, .none, .bool false, .none] } C none := ⟨he, rfl, rfl, trivial⟩
  have naC : a ≠ C := PySem.W.ks_ne X IA hD
  obtain ⟨m, hns, hloc⟩ := I.loc
  have hself : m ag.arg = some (.ref a) := by
    obtain ⟨u, ru, lk⟩ := hloc 0 ag.arg (.ref a) hN hs (.inl hka)
    cases ru
    rcases lk with ⟨_, e⟩ | ⟨e, _⟩
    · exact e
    · have e : sc.names.lookup ag.arg = some .cell ∨ sc.names.lookup ag.arg = some .free := e
      rw [hka] at e
      rcases e with e | e <;> cases e
  obtain ⟨mb, hmb, hboot⟩ := I.mod.blt
  obtain ⟨pl, hpl⟩ := hev s0.heap.objs.size f (.ref cda) cc
  refine ks_wpAt_Expr_any (ks_wpAt_MethodCall (pl := pl) (ks_wpAt_super_base (env := envS qual sc s0.heap.objs.size f (.ref cda) cc) Z.ks Z.kc (by decide) rfl (X _ _ hf) rfl hag rfl (X _ _ hcode) rfl hvs hfile S.top ?_) hpl) (hin _ _ _ _)
  refine PySem.W.ks_loadName_global Z.kind Z.ks (Calls.loadGlobal_builtin (env := envS qual sc s0.heap.objs.size f (.ref cda) cc) (I.mod.glob.keeps I.bk) S.glob (hmb.keeps I.bk) ((hboot _ (by decide +kernel)).trans boot_super) ⟨rfl, ?_⟩)
  refine wpAny_loadName_free Z.kind Z.kc (by rfl) ⟨_, X _ _ hcell, rfl⟩ ?_
  refine wpAny_loadName_local Z.kind hka hns hself ?_
  obtain ⟨hh, g, d, tk, os⟩ := s
  refine ks_wpAny_isType_cls hD1 hD2 ⟨rfl, ?_⟩
  refine ks_wpAny_call_super hD1 hD2 he rfl (fun c z => nomatch z) (PySem.W.looks_mroIn X S.mro) fun h1 e1 k1 => ?_
  have I1 := ClX.pin_new (t' := tk) I k1 (Nat.le_refl _) e1 (fun v z => nomatch z)
  have X1 : K.In h1 := I1.kIn
  have hm : PySem.W.alongIn K "__init__" ((cdD.mro.dropWhile (· != .ref C)).drop 1) = some (some (.builtin "ValueError.__init__")) := by
    have z := S.ini
    unfold PySem.W.ks_superIn at z
    rw [hD] at z
    exact z
  have IA1 : PySem.W.InstAt h1 a { cls := .ref C, dict := none, data := .fields #[.ref t1, .none, .none, .none, .bool false, .none] } C none := ⟨k1 _ _ he, rfl, rfl, trivial⟩
  refine PySem.W.kxs_getMethod PySem.W.kxs_ValueError e1 (PySem.W.looks_opaque X1 S.any) (l₀ := cdD.mro) (fun A Q E s k q => wpAny_bind ((PySem.W.looks_clsIn X1 hD) A _ E s k (wpAny_pure q))) rfl X1 hm (IA1.type.andThen (PySem.W.looks_subIn X1 S.sub)) naC (by decide) ?_
  have I2 := ClX.pin_new (t' := tk + 1) (h' := h1.push (PySem.W.kxs_mw "ValueError.__init__" a)) (a := h1.objs.size) (o := PySem.W.kxs_mw "ValueError.__init__" a) I1 (fun b o e => Heap.get?_push_of_some _ e) (Nat.le_refl _) (Heap.get?_push_at rfl rfl) (fun v z => nomatch z)
  have hst : starEach [.Constant (.str txt) j p3] (envS qual sc s0.heap.objs.size f (.ref cda) cc) = (false, eval (.Constant (.str txt) j p3) (envS qual sc s0.heap.objs.size f (.ref cda) cc)) :: starEach [] (envS qual sc s0.heap.objs.size f (.ref cda) cc) := rfl
  have hA : PA (cxS P w K mg base N qual sc f (.ref cda) cc A outer s0 H0) [.Constant (.str txt) j p3] (tCons (tC (.str txt)) tNil) := pa_cons pe_str pa_nil
  show wpAny _ _ (callWith p4 (Value.ref h1.objs.size) [] (backTo p4 (starEach [.Constant (.str txt) j p3] _)) []) _ _ _
  refine PySem.W.kxs_callWith (i := "ValueError.__init__") (x := a) rfl (Calls.evalArgs_plain (thn (hA.run p4 _ _ σ H _ I2 (show tCons (tC (.str txt)) tNil σ H fun vs H1 => vs = [V.str txt] ∧ H1 = H from ⟨rfl, rfl⟩)) fun us s1 ⟨vs, H1, I3, rv, ev, eH⟩ => ?_))
  subst ev eH
  obtain ⟨nm2, q2, N2, bs, bm, sn, sub, ab, col, dd, k0, k1', k2, k3, k5, hC, hbm⟩ := T.cls
  have hu := ClX.pin_at I3
  obtain ⟨t2, he3⟩ := exo_at I3.hok ea
  obtain ⟨h3, g3, d3, tk3, os3⟩ := s1
  have hlen : us.length ≤ sizeLine := by
    rw [← Paired.length rv]
    exact (show 1 ≤ sizeLine by decide)
  refine ⟨hu, ?_⟩
  show wpAny _ _ (call (Value.ref h1.objs.size) us) _ _ _
  refine call_wrap (I3.kIn _ _ hC) he3 hu hlen fun h' t4 kk hx => ?_
  have J := I3.write (t' := tk3) (x := a) (e := a) (o := exo a C none) (by rw [ea]; exact True.intro) (.inl rfl) kk ⟨_, hx⟩ (exo_ok hx)
  have eu : upd H1 a (exo a C none) = H1 := by
    funext b
    by_cases hb : b = a
    · rw [hb, upd_same, ea]
    · rw [upd_ne hb]
  rw [eu] at J
  exact q _ (ClX.unpin (ClX.unpin J))
/-- THE RULE: the def, by what stands behind super().__init__(text) -/
theorem fn_sup {CX : CXT} {k : Nat} {rest : List Stmt} {ps : List Str} {sp : Sp} {txt : Str} {j : Nat} {p0 p1 p2 p3 p4 p5 : Pos} (Z : ScS N ps sc) (S : SupK P K mg C f cda cc (fnS nm qual params (.Expr (.Call (.Attribute (.Call (.Name "super" p0) [] [] p1) "__init__" p2) [.Constant (.str txt) j p3] [] p4) p5 :: rest) sc cc dV kV doc pm an (.ref cda) ct) ar)
    (T : OexC K C) (hcd : PySem.W.codeIn K (.ref cda) qual = true) (hka : sc.names.lookup ar = some .local) (hN : N[0]? = some ar)
    (hin : ∀ (L f : Addr) (cd : Value) (cc : Addr), interactive (envS qual sc L f cd cc) = false)
    (hev : ∀ (L f : Addr) (cd : Value) (cc : Addr), ∃ pl : Sem Bool, eval (.Call (.Attribute (.Call (.Name "super" p0) [] [] p1) "__init__" p2) [.Constant (.str txt) j p3] [] p4) (envS qual sc L f cd cc) = (do
      let ov ← attributeBase (.Call (.Name "super" p0) [] [] p1) "__init__" (envS qual sc L f cd cc) (eval (.Call (.Name "super" p0) [] [] p1) (envS qual sc L f cd cc))
      standAt p2.atName
      let (f1, first) ← holding [ov] (getMethod ov "__init__" pl)
      callWith p4 f1 first (backTo p4 (starEach [.Constant (.str txt) j p3] (envS qual sc L f cd cc))) []))
    (len : ∀ vs H Q E, sp vs H Q E → vs.length = ps.length)
    (hself : ∀ vs H Q E, sp vs H Q E → ∃ a r, vs = .ref a :: r ∧ H a = some (exo a C none))
    (hbody : ∀ (A : Around) (outer : List Env) (s : Shared) (H : Hp) (vs : List V) (Q : VK) (E : XK), sp vs H Q E →
      ∃ t, PSs (cxS P w K mg base N qual sc f (.ref cda) cc A outer s H) rest t ∧ t { nx := fun _ H' => Q .non H', rt := Q } (L2.start N vs) H) :
    FnOk P w K mg base CX (k + 1) f (fnS nm qual params (.Expr (.Call (.Attribute (.Call (.Name "super" p0) [] [] p1) "__init__" p2) [.Constant (.str txt) j p3] [] p4) p5 :: rest) sc cc dV kV doc pm an (.ref cda) ct) ps sp := by
  refine ⟨len, fun A outer s H args us vs Q E hr e0 hb r hsp => ?_⟩
  have KX : K.In s.heap := e0.mod.kin.keeps fun b o e => (e0.bs b o e).1
  have lim : s.heap.NoLimit := e0.mod.nolimit.keeps fun b o e => (e0.bs b o e).1
  obtain ⟨oc, od, osl, lk⟩ := S.fn
  obtain ⟨cl, cld, csl, hcell⟩ := S.cell
  refine ks_codeAny_call_defAt hr.depth (KX _ _ lk) rfl lim (PySem.W.codeRec_of KX hcd) rfl hb Z.noc (fun ⟨n, _⟩ hy => Z.par n (List.of_mem_zip hy).1) (fun h₁ hns kp => ?_) Z.co Z.gen Z.kind
  have I := inv_startS (w := w) (mg := mg) (qual := qual) (f := f) (cd := .ref cda) (tk := s.toks + (ps.zip us).length) Z hcell hr.hd e0 (len _ _ _ _ hsp) r hns kp
  obtain ⟨a, vr, rfl, ea⟩ := hself _ _ _ _ hsp
  obtain ⟨t, ht, hq⟩ := hbody A outer s H _ Q E hsp
  refine ks_wpAt_mono (Q := fun fl s' => match fl with | .ret u => CE outer P w H s Q u s' | .next => CE outer P w H s Q .none s' | _ => False) (E := fun _ _ => False) ?_ (fun fl s' z => ?_) fun _ _ z => z.elim
  · refine ks_wpAt_execs_cons (super_step Z S T hka hN hin hev I (by rfl) ea fun s' J => ?_)
    refine PySem.wpAt_of_wpAny (wpAny_mono (ht.run [] _ _ H _ J hq) (fun fl s2 hs => ?_) fun _ _ z => z)
    cases fl with
    | ret u =>
      obtain ⟨v, σ', H', J2, rv, q⟩ := hs
      exact ⟨v, H', J2.os, J2.bare, J2.base, J2.hok, rv, q⟩
    | next =>
      obtain ⟨σ', H', J2, q⟩ := hs
      exact ⟨V.non, H', J2.os, J2.bare, J2.base, J2.hok, rfl, q⟩
    | brk =>
      obtain ⟨_, _, _, q⟩ := hs
      exact q.elim
    | cont =>
      obtain ⟨_, _, _, q⟩ := hs
      exact q.elim
  · cases fl with
    | ret u => exact z
    | next => exact z
    | brk => exact z.elim
    | cont => exact z.elim
end
end SupX
set_option Elab.async false
set_option linter.all false
set_option maxRecDepth 1000000
set_option  maxHeartbeats 4000000
namespace PySem.W
open PySem PySem.Spec PySem.Calls PyProof.Rows
end PySem.W
namespace L2
open PySem PySem.Spec PyProof.Rows
end L2
namespace SupX
open PySem PySem.Spec PyProof.Rows L2
/-- what «def __init__(self, x): super().__init__(text); self.fl = x» keeps -/
def spF (C : Addr) (fl : Str) : Sp := fun vs H Q _ => ∃ (a : Addr) (y : V), vs = [.ref a, y] ∧ H a = some (exo a C none) ∧ ∀ dx, H dx = none → dx ≠ a → Q .non (upd (upd H dx (exd dx [(fl, y)])) a (exo a C (some dx)))
section
variable {P : Program} {w : World} {K : PySem.W.Frag} {mg : Str → Option Value} {base : Heap} {nm qual : Str} {params : Arguments} {sc : Scope} {f cda cc C : Addr} {dV kV doc pm ct : Value} {an : Option Addr} {CX : CXT} {k : Nat} {x fl : Str}
theorem fn_fld1 {txt : Str} {j : Nat} {p0 p1 p2 p3 p4 p5 q1 q2 q3 q4 : Pos} (Z : ScS ["self", x] ["self", x] sc)
    (S : SupK P K mg C f cda cc (fnS nm qual params [.Expr (.Call (.Attribute (.Call (.Name "super" p0) [] [] p1) "__init__" p2) [.Constant (.str txt) j p3] [] p4) p5, .Assign [.Attribute (.Name "self" q1) fl q2] (.Name x q3) q4] sc cc dV kV doc pm an (.ref cda) ct) "self")
    (T : OexC K C) (hcd : PySem.W.codeIn K (.ref cda) qual = true) (hno : PySem.W.findIn K (.ref C) fl = some none)
    (hin : ∀ (L f : Addr) (cd : Value) (cc : Addr), interactive (envS qual sc L f cd cc) = false)
    (hev : ∀ (L f : Addr) (cd : Value) (cc : Addr), ∃ pl : Sem Bool, eval (.Call (.Attribute (.Call (.Name "super" p0) [] [] p1) "__init__" p2) [.Constant (.str txt) j p3] [] p4) (envS qual sc L f cd cc) = (do
      let ov ← attributeBase (.Call (.Name "super" p0) [] [] p1) "__init__" (envS qual sc L f cd cc) (eval (.Call (.Name "super" p0) [] [] p1) (envS qual sc L f cd cc))
      standAt p2.atName
      let (f1, first) ← holding [ov] (getMethod ov "__init__" pl)
      callWith p4 f1 first (backTo p4 (starEach [.Constant (.str txt) j p3] (envS qual sc L f cd cc))) []))
    (hsw : ∀ (L f : Addr) (cd : Value) (cc : Addr), swapsWith (.Name x q3) (some (.Attribute (.Name "self" q1) fl q2)) q4.line (envS qual sc L f cd cc) = pure false)
    (hd1 : (x == ("__debug__" : Str)) = false) (hd2 : (x == ("__classdict__" : Str)) = false) :
    FnOk P w K mg base CX (k + 1) f (fnS nm qual params [.Expr (.Call (.Attribute (.Call (.Name "super" p0) [] [] p1) "__init__" p2) [.Constant (.str txt) j p3] [] p4) p5, .Assign [.Attribute (.Name "self" q1) fl q2] (.Name x q3) q4] sc cc dV kV doc pm an (.ref cda) ct) ["self", x] (spF C fl) := by
  refine fn_sup Z S T hcd (Z.par _ List.mem_cons_self) rfl hin hev (fun vs H Q E ⟨a, y, e, _⟩ => by subst e; rfl) (fun vs H Q E ⟨a, y, e, ea, _⟩ => ⟨a, [y], e, ea⟩) fun A outer s H vs Q E ⟨a, y, e, ea, q⟩ => ?_
  subst e
  refine ⟨_, pss_one (ps_ost (pe_var (i := 0) rfl (.inl (Z.par _ List.mem_cons_self))) (pe_var (i := 1) rfl (.inl (Z.par _ (List.mem_cons_of_mem _ List.mem_cons_self))) hd1 hd2) (hsw _ _ _ _)), ?_⟩
  exact ⟨y, rfl, V.ref a, rfl, a, C, rfl, T, hno, .inl ⟨ea, fun dx h1 h2 => q dx h1 h2⟩⟩
end
end SupX
namespace Ab
open PySem PySem.Spec PyProof.Rows L2 SupX
section
variable {K : KX} {ρ : Rho} {M : MH} {Q : Sl → MH → Prop} {ta te : TE} {P : AE} {nx bk ct : Rho → MH → Prop} {rt : Sl → MH → Prop}
/-- raise C(e), C with one field -/
theorem ws_raiseF {C : Addr} {fl : Str} (h : W K te ρ M fun s M1 => ∀ d, M1 d = none → K.X (.ref C) (some d) ρ (um M1 d (.xd [(fl, s)]))) : WS K (fun _ σ H => tMkO C (spF C fl) [] (tCons te tNil) σ H fun cls d H' => K.W cls d σ H') ρ M P := fun σ B H D hR hS _ _ _ _ =>
  h σ B H hR hS _ fun s v M1 B1 H1 q e1 S1 o1 => ⟨(show 1 ≤ 1000 by decide), fun a ha => ⟨a, v, rfl, upd_same, fun dx hdx hne => by
    have hd : H1 dx = none := by rw [upd_ne hne] at hdx; exact hdx
    refine ⟨rfl, dx, [(fl, v)], upd_same, ?_, hd, ?_⟩
    · rw [upd_ne hne, upd_same]
    · have e : upd (L2.del (upd (upd (upd H1 a (exo a C none)) dx (exd dx [(fl, v)])) a (exo a C (some dx))) a) dx (.xd [(fl, v)]) = upd H1 dx (.xd [(fl, v)]) := by
        funext b
        by_cases hb : b = dx
        · subst hb; rw [upd_same, upd_same]
        · rw [upd_ne hb, upd_ne hb]
          by_cases hb2 : b = a
          · subst hb2; rw [L2.del_same, ha]
          · rw [L2.del_ne hb2, upd_ne hb2, upd_ne hb, upd_ne hb2]
      rw [e]
      exact hR.x (.ref C) (some dx) ρ _ σ B1 _ (q dx (S1.freeM hd)) e1 (hR.r.mono e1) (S1.new hd ⟨_, rfl, .cons ⟨rfl, o1⟩ .nil⟩)⟩⟩
end
end Ab
namespace L2
open PySem PySem.Spec PyProof.Rows
end L2
namespace SupX
open PySem PySem.Spec PyProof.Rows L2
/-- an own exception class with one field, as its uses ask for it -/
structure ExF (P : Program) (K : PySem.W.Frag) (mg : Str → Option Value) (C fI : Addr) (fd : FuncData) (x fl : Str) : Prop where
  o : OexC K C
  i : PySem.W.findIn K (.ref C) "__init__" = some (some (.ref fI))
  ti : PySem.W.typeIn K (.ref fI) = some (.type "function")
  fn : ∀ (w : World) (base : Heap), FnOk P w K mg base CX0 1 fI fd ["self", x] (spF C fl)
  bi : Binds K fd ["self", x] []
  xf : XfC K C
  no : PySem.W.findIn K (.ref C) fl = some none
theorem exF_mk {P : Program} {K : PySem.W.Frag} {mg : Str → Option Value} {h : Heap} (X : K.In h) (G : h.Ns mainGlobals mg) {C fI cda cell : Addr} {qual x fl : Str} {params : Arguments} {sc : Scope} {dV kV doc pm ct : Value} {an : Option Addr}
    {nm q : Str} {N : Addr} {bs bm : List Value} {sn : List Str} {sub : List Value} {ab : Bool} {col : Option Bool} {dd : Option Addr} {k0 k1 k2 k3 k5 : Option Value} {oc : Value} {od : Option Addr} {osl : Array (Option Value)} {ccl : Value} {cdd : Option Addr} {vs : Array Value} {ccs : Array (Option Value)} {fle : Str} {tf : Tok} {cl : Value} {cld : Option Addr} {csl : Array (Option Value)} {cdD : ClassData}
    {txt : Str} {j : Nat} {p0 p1 p2 p3 p4 p5 q1 q2 q3 q4 : Pos}
    (xo : K.lookup C = some (excClassObj nm q C N bs bm true sn sub ab col dd k0 k1 k2 k3 k5 "ValueError.__new__")) (xb : PySem.HandSPX.refsVE bm = true) (sa : PySem.W.findIn K (.ref C) "__setattr__" = some (some (.builtin "object.__setattr__")))
    (be : PySem.W.subIn K (.ref C) (.type "BaseException") = some true) (ty : PySem.W.typeIn K (.ref C) = some (.type "type")) (kp : PySem.W.keepIn K (.ref C) = true)
    (xi : PySem.W.findIn K (.ref C) "__init__" = some (some (.ref fI))) (xt : PySem.W.typeIn K (.ref fI) = some (.type "function"))
    (xl : K.lookup fI = some ⟨oc, od, .func (fnS "__init__" qual params [.Expr (.Call (.Attribute (.Call (.Name "super" p0) [] [] p1) "__init__" p2) [.Constant (.str txt) j p3] [] p4) p5, .Assign [.Attribute (.Name "self" q1) fl q2] (.Name x q3) q4] sc cell dV kV doc pm an (.ref cda) ct), osl⟩)
    (xc : PySem.W.codeIn K (.ref cda) qual = true) (xh : K.lookup cda = some ⟨ccl, cdd, .fields vs, ccs⟩) (xv : vs[2]? = some (.str fle tf)) (xf : ((P.main.file : Str) == fle) = true) (xtop : (P.main.scope.names.lookup ("super" : Str)).isSome = false)
    (xq : K.lookup cell = some ⟨cl, cld, .cell (some (.ref C)), csl⟩) (xk : PySem.W.clsIn K C = some cdD) (xm : PySem.W.mroIn K C (.ref C) = some true) (xg : PySem.W.nsIn K mainGlobals "super" = some none) (xa : PySem.W.nsIn K cStatics "thirdparty.any" = some none)
    (xs : PySem.W.ks_superIn K C C "__init__" = some (some (.builtin "ValueError.__init__"))) (xu : PySem.W.subIn K (.ref C) (.type "ValueError") = some true)
    (ga : PySem.W.findIn K (.ref C) "__getattribute__" = some (some (.builtin "BaseException.__getattribute__"))) (gg : PySem.W.findIn K (.ref C) "__getattr__" = some none) (hd : PySem.W.hasDictIn K C = true) (no : PySem.W.findIn K (.ref C) fl = some none)
    (Z : ScS ["self", x] ["self", x] sc) (hh : ∃ a : Arg, (params.posonlyargs ++ params.args).head? = some a ∧ a.arg = "self")
    (hin : ∀ (L f : Addr) (cd : Value) (cc : Addr), interactive (envS qual sc L f cd cc) = false)
    (hev : ∀ (L f : Addr) (cd : Value) (cc : Addr), ∃ pl : Sem Bool, eval (.Call (.Attribute (.Call (.Name "super" p0) [] [] p1) "__init__" p2) [.Constant (.str txt) j p3] [] p4) (envS qual sc L f cd cc) = (do
      let ov ← attributeBase (.Call (.Name "super" p0) [] [] p1) "__init__" (envS qual sc L f cd cc) (eval (.Call (.Name "super" p0) [] [] p1) (envS qual sc L f cd cc))
      standAt p2.atName
      let (f1, first) ← holding [ov] (getMethod ov "__init__" pl)
      callWith p4 f1 first (backTo p4 (starEach [.Constant (.str txt) j p3] (envS qual sc L f cd cc))) []))
    (hsw : ∀ (L f : Addr) (cd : Value) (cc : Addr), swapsWith (.Name x q3) (some (.Attribute (.Name "self" q1) fl q2)) q4.line (envS qual sc L f cd cc) = pure false)
    (hd1 : (x == ("__debug__" : Str)) = false) (hd2 : (x == ("__classdict__" : Str)) = false)
    (hbd : ∀ us : List Value, us.length = 2 → bindArgs (fnS "__init__" qual params [.Expr (.Call (.Attribute (.Call (.Name "super" p0) [] [] p1) "__init__" p2) [.Constant (.str txt) j p3] [] p4) p5, .Assign [.Attribute (.Name "self" q1) fl q2] (.Name x q3) q4] sc cell dV kV doc pm an (.ref cda) ct) ⟨us, []⟩ = pure ((["self", x] : List Str).zip us)) :
    ExF P K mg C fI (fnS "__init__" qual params [.Expr (.Call (.Attribute (.Call (.Name "super" p0) [] [] p1) "__init__" p2) [.Constant (.str txt) j p3] [] p4) p5, .Assign [.Attribute (.Name "self" q1) fl q2] (.Name x q3) q4] sc cell dV kV doc pm an (.ref cda) ct) x fl := by
  have O : OexC K C := ⟨⟨nm, q, N, bs, bm, sn, sub, ab, col, dd, k0, k1, k2, k3, k5, xo, xb⟩, sa, be, ty, kp⟩
  exact ⟨O, xi, xt, fun w base => fn_fld1 (k := 0) Z ⟨⟨_, _, _, xl⟩, hh, ⟨_, _, _, _, _, _, xh, xv, xf⟩, xtop, ⟨_, _, _, xq⟩, ⟨_, xk⟩, xm, PySem.W.mg_none_of X G xg, xa, xs, xu⟩ O xc no hin hev hsw hd1 hd2, .all hbd, ⟨ga, gg, be, hd⟩, no⟩
end SupX
namespace SupX
open PySem PySem.Spec PyProof.Rows L2
/-- C(e), as it is raised -/
theorem pmk_one {X : Cx} {x : Str} {C fI : Addr} {k : Nat} {fd : FuncData} {ps : List Str} {sp : Sp} {e : Expr} {te : TE} {p pos : Pos} (T : OexC X.K C) (iC : PySem.W.findIn X.K (.ref C) "__init__" = some (some (.ref fI))) (tI : PySem.W.typeIn X.K (.ref fI) = some (.type "function"))
    (F1 : FnOk X.prog X.w X.K X.mg X.base CX0 k fI fd ps sp) (hr : Room (k + 1) X.A) (hb : Binds X.K fd ps []) (hx : Passes CX0 X (fun _ _ _ => False)) (hg : Gl X x) (hm : X.mg x = some (.ref C)) (he : PE X e te)
    (hdb : (x == ("__debug__" : Str)) = false := by decide) (h1 : starEach [e] X.env = (false, eval e X.env) :: starEach [] X.env := by rfl) :
    PMk X (.Call (.Name x p) [e] [] pos) (tMkO C sp [] (tCons te tNil)) := pmk_oex T iC tI F1 hr hb .nil hx hg hm (pa_cons he pa_nil h1) hdb h1 (by rfl)
end SupX
set_option Elab.async false
set_option linter.all false
set_option maxRecDepth 1000000
set_option  maxHeartbeats 4000000
namespace Ab
open PySem PySem.Spec PyProof.Rows L2
def NcV (s : Sl) (M : MH) (P : Program) (w : World) (kvs : List (NK × Sl)) : Prop := ∃ a, s = .raw (.ref a) ∧ (M a = some (.dN P w a kvs) ∨ ∃ od v, M a = some (.frz od v (.dN P w a kvs)))
section
variable {F : PySem.W.Frag} {B H : Hp} {M : MH} {P : Program} {w : World} {kvs : List (NK × Sl)} {vs : List (NK × Addr × V)}
theorem NcV.get {s : Sl} {v : V} (h : NcV s M P w kvs) (S : Sep F B M H) (o : SlOk F B v s) : ∃ a vs, v = .ref a ∧ Rd H a (HN P w a vs) ∧ SlNs F B vs kvs := by
  obtain ⟨a, rfl, h⟩ := h
  rcases h with h | ⟨od, u, h⟩
  · obtain ⟨_, z, hz, vs, rfl, hv⟩ := S.has a _ h
    exact ⟨a, vs, o, .inl hz, hv⟩
  · obtain ⟨_, z, hz, rfl, vs, rfl, hv⟩ := S.has a _ h
    exact ⟨a, vs, o, .inr ⟨od, hz⟩, hv⟩
end
/-- xs.remove(x) of data, x there -/
theorem eraseMap {α β : Type} (f : α → β) : ∀ (xs : List α) (j : Nat), (xs.eraseIdx j).map f = (xs.map f).eraseIdx j
  | [], _ => rfl
  | _ :: _, 0 => rfl
  | x :: xs, j + 1 => by rw [List.eraseIdx_cons_succ, List.map_cons, List.map_cons, List.eraseIdx_cons_succ, eraseMap f xs j]
theorem slall_erase {K : PySem.W.Frag} {B : Hp} : ∀ {vs : List V} {xs : List Sl} (j : Nat), SlAll K B vs xs → SlAll K B (vs.eraseIdx j) (xs.eraseIdx j)
  | _, _, _, .nil => .nil
  | _, _, 0, .cons _ t => t
  | _, _, j + 1, .cons h t => .cons h (slall_erase j t)
theorem wm_remD {K : PySem.W.Frag} {M : MH} {Q : Sl → MH → Prop} {a : Addr} {d : PyData} {ds : List PyData} {j : Nat} (h : M a = some (.lst (ds.map .dat))) (h1 : SeqAt.shaped (.list ds) = true) (h2 : SeqAt.shaped d = true) (hit : ∃ z, ds[j]? = some z ∧ PyData.eqv z d = true)
    (hno : ∀ m z, m < j → ds[m]? = some z → PyData.eqv z d = false) (q : Q .non (um M a (.lst ((ds.eraseIdx j).map .dat)))) : WM K (rRemD K) (.raw (.ref a)) [.dat d] M Q := fun B H v vs hS o1 o2 Q0 k => by
  cases o2 with
  | cons o2 o3 =>
    cases o3
    obtain ⟨_, u, hu, ws, rfl, ha⟩ := hS.has a _ h
    obtain rfl : v = .ref a := o1
    refine ⟨a, ws, _, d, ds, j, rfl, rfl, hu, dqa_dpS h1 (dpa_same hS.sub _ _ (dpa_of ha)), dq_dpS h2 (dp_same hS.sub _ _ o2), h1, h2, hit, hno, ?_⟩
    refine k _ _ _ B _ q (Same.refl B) (hS.put h ⟨_, rfl, ?_⟩) slok_non
    rw [eraseMap]
    exact slall_erase j ha
end Ab
set_option Elab.async false
set_option linter.all false
set_option maxRecDepth 1000000
set_option  maxHeartbeats 4000000
namespace Ab
open PySem PyProof.Rows L2
instance ikeyDec : DecidableEq IKey := fun k l => if h : k.s = l.s ∧ k.n = l.n ∧ k.row = l.row then .isTrue (ikey_eq h.1 h.2.1 h.2.2) else .isFalse fun e => h (by rw [e]; exact ⟨rfl, rfl, rfl⟩)
inductive Chg where
  | comes (it : Item)
  | goes (it : Item)
def Chg.enc : Chg → PyData
  | .comes it => .tuple [.str "comes", it.enc]
  | .goes it => .tuple [.str "goes", (keyOf it).enc]
def Chg.it : Chg → Item
  | .comes it => it
  | .goes it => it
def Chg.ok (c : Chg) : Prop := c.it.ok
theorem dropG_val {κ β : Type} [DecidableEq κ] (k g : κ) : ∀ l : List (κ × β), valG (dropG l k) g = if k = g then none else valG l g
  | [] => by unfold dropG; simp [valG]
  | (a, x) :: r => by
    have ih := dropG_val k g r
    unfold dropG at ih ⊢
    rw [List.filter_cons, valG_cons]
    by_cases e : a = k
    · rw [if_neg (by simp [e]), ih]
      by_cases e2 : k = g
      · rw [if_pos e2, if_pos e2]
      · rw [if_neg e2, if_neg e2, if_neg fun z => e2 (e.symm.trans z)]
    · rw [if_pos (by simp [e]), valG_cons, ih]
      by_cases e2 : a = g
      · rw [if_pos e2, if_pos e2, if_neg fun z => e (e2.trans z.symm)]
      · rw [if_neg e2, if_neg e2]
theorem dropG_sub {κ β : Type} [DecidableEq κ] (l : List (κ × β)) (k : κ) : (dropG l k).Sublist l := List.filter_sublist
theorem dropG_nodup {κ β : Type} [DecidableEq κ] {l : List (κ × β)} (h : (l.map (·.1)).Nodup) (k : κ) : ((dropG l k).map (·.1)).Nodup := h.sublist ((dropG_sub l k).map _)
def Ct.take (c : Ct) (k : IKey) : Ct :=
  if k.s = 0 then c.sRel (dropG c.rel k.n) else if k.s = 2 then c.sRul (dropG c.rul k.n) else if k.s = 3 then c.sDen (dropG c.den k.n)
  else if k.row ∈ rowsOf c k.n then c.sFac (putG c.fac k.n ((rowsOf c k.n).erase k.row)) else c
theorem memC_take {c : Ct} {x : Item} (hn : (rowsOf c (keyOf x).n).Nodup) (it : Item) : memC (c.take (keyOf x)) it ↔ memC c it ∧ keyOf it ≠ keyOf x := by
  cases x with
  | relation n w =>
    cases it with
    | relation m v =>
      show valG (dropG c.rel n) m = some v ↔ valG c.rel m = some v ∧ _
      rw [dropG_val]
      by_cases e : n = m
      · subst e
        rw [if_pos rfl]
        exact ⟨fun h => (nomatch h), fun h => absurd rfl h.2⟩
      · rw [if_neg e]
        exact ⟨fun h => ⟨h, fun z => e (by injection z with _ z _; exact z.symm)⟩, fun h => h.1⟩
    | fact m row => exact ⟨fun h => ⟨h, key_ne (by decide)⟩, fun h => h.1⟩
    | rule m a b d => exact ⟨fun h => ⟨h, key_ne (by decide)⟩, fun h => h.1⟩
    | denial m b => exact ⟨fun h => ⟨h, key_ne (by decide)⟩, fun h => h.1⟩
  | rule n a1 a2 a3 =>
    cases it with
    | rule m a b d =>
      show valG (dropG c.rul n) m = some ⟨a, b, d⟩ ↔ valG c.rul m = some ⟨a, b, d⟩ ∧ _
      rw [dropG_val]
      by_cases e : n = m
      · subst e
        rw [if_pos rfl]
        exact ⟨fun h => (nomatch h), fun h => absurd rfl h.2⟩
      · rw [if_neg e]
        exact ⟨fun h => ⟨h, fun z => e (by injection z with _ z _; exact z.symm)⟩, fun h => h.1⟩
    | fact m row => exact ⟨fun h => ⟨h, key_ne (by decide)⟩, fun h => h.1⟩
    | relation m a => exact ⟨fun h => ⟨h, key_ne (by decide)⟩, fun h => h.1⟩
    | denial m b => exact ⟨fun h => ⟨h, key_ne (by decide)⟩, fun h => h.1⟩
  | denial n a1 =>
    cases it with
    | denial m b =>
      show valG (dropG c.den n) m = some b ↔ valG c.den m = some b ∧ _
      rw [dropG_val]
      by_cases e : n = m
      · subst e
        rw [if_pos rfl]
        exact ⟨fun h => (nomatch h), fun h => absurd rfl h.2⟩
      · rw [if_neg e]
        exact ⟨fun h => ⟨h, fun z => e (by injection z with _ z _; exact z.symm)⟩, fun h => h.1⟩
    | fact m row => exact ⟨fun h => ⟨h, key_ne (by decide)⟩, fun h => h.1⟩
    | relation m a => exact ⟨fun h => ⟨h, key_ne (by decide)⟩, fun h => h.1⟩
    | rule m a b d => exact ⟨fun h => ⟨h, key_ne (by decide)⟩, fun h => h.1⟩
  | fact n row =>
    have e0 : c.take (keyOf (.fact n row)) = if row ∈ rowsOf c n then c.sFac (putG c.fac n ((rowsOf c n).erase row)) else c := rfl
    rw [e0]
    have hn : (rowsOf c n).Nodup := hn
    by_cases hin : row ∈ rowsOf c n
    · rw [if_pos hin]
      cases it with
      | fact m r =>
        show r ∈ rowsOf (c.sFac (putG c.fac n ((rowsOf c n).erase row))) m ↔ r ∈ rowsOf c m ∧ _
        rw [rowsOf_put]
        by_cases e : n = m
        · subst e
          rw [if_pos rfl, hn.mem_erase_iff]
          exact ⟨fun h => ⟨h.2, fun z => h.1 (by injection z)⟩, fun h => ⟨fun z => h.2 (by rw [z]), h.1⟩⟩
        · rw [if_neg e]
          exact ⟨fun h => ⟨h, fun z => e (by injection z with _ z _; exact z.symm)⟩, fun h => h.1⟩
      | relation m a => exact ⟨fun h => ⟨h, key_ne (by decide)⟩, fun h => h.1⟩
      | rule m a b d => exact ⟨fun h => ⟨h, key_ne (by decide)⟩, fun h => h.1⟩
      | denial m b => exact ⟨fun h => ⟨h, key_ne (by decide)⟩, fun h => h.1⟩
    · rw [if_neg hin]
      refine ⟨fun h => ⟨h, fun z => ?_⟩, fun h => h.1⟩
      cases it with
      | fact m r =>
        injection z with _ z1 z2
        subst z1 z2
        exact hin h
      | relation m a => exact key_ne (by decide) z
      | rule m a b d => exact key_ne (by decide) z
      | denial m b => exact key_ne (by decide) z
theorem CtN.take {c : Ct} {n : Nat} (h : CtN c n) (k : IKey) : CtN (c.take k) n := by
  have sz := h.sz
  unfold Ct.take
  split
  · have := (dropG_sub c.rel k.n).length_le
    exact ⟨dropG_nodup h.nr _, h.nf, h.nu, h.nd, fun p hp => h.rel p ((dropG_sub _ _).subset hp), h.fac, h.rul, h.den, by show (dropG c.rel k.n).length + c.fac.length + c.rul.length + c.den.length ≤ _; omega⟩
  · split
    · have := (dropG_sub c.rul k.n).length_le
      exact ⟨h.nr, h.nf, dropG_nodup h.nu _, h.nd, h.rel, h.fac, fun p hp => h.rul p ((dropG_sub _ _).subset hp), h.den, by show c.rel.length + c.fac.length + (dropG c.rul k.n).length + c.den.length ≤ _; omega⟩
    · split
      · have := (dropG_sub c.den k.n).length_le
        exact ⟨h.nr, h.nf, h.nu, dropG_nodup h.nd _, h.rel, h.fac, h.rul, fun p hp => h.den p ((dropG_sub _ _).subset hp), by show c.rel.length + c.fac.length + c.rul.length + (dropG c.den k.n).length ≤ _; omega⟩
      · split
        · rename_i hin
          obtain ⟨r1, r2, r3⟩ := h.rows k.n
          obtain ⟨x, hx⟩ : ∃ x, valG c.fac k.n = some x := by
            unfold rowsOf at hin
            cases hv : valG c.fac k.n with
            | none => rw [hv] at hin; cases hin
            | some x => exact ⟨x, rfl⟩
          have hk : k.n ∈ c.fac.map (·.1) := mem_keys.mpr ⟨x, hx⟩
          have len : (putG c.fac k.n ((rowsOf c k.n).erase k.row)).length = c.fac.length := by
            have := congrArg List.length (putG_keys c.fac k.n ((rowsOf c k.n).erase k.row))
            rw [if_pos hk, List.length_map, List.length_map] at this
            exact this
          refine ⟨h.nr, putG_nodup h.nf _ _, h.nu, h.nd, h.rel, fun p hp => (putG_mem hp).elim (fun e => ?_) (h.fac p), h.rul, h.den, by show c.rel.length + (putG c.fac k.n ((rowsOf c k.n).erase k.row)).length + c.rul.length + c.den.length ≤ _; omega⟩
          rw [e]
          refine ⟨(h.fac _ (valG_mem hx)).1, fun r hr => r1 r (List.mem_of_mem_erase hr), Nat.le_trans List.length_erase_le r2, r3.erase _⟩
        · exact h
/-- a content that has just these items -/
structure Holds (c : Ct) (os : List Item) (n : Nat) : Prop where
  N : CtN c n
  pw : os.Pairwise iLt
  mem : ∀ it, it ∈ os ↔ memC c it
theorem placed_pw {os : List Item} (h : os.Pairwise iLt) (x : Item) : (placedI os x).Pairwise iLt := by
  unfold placedI
  refine List.pairwise_append.mpr ⟨List.pairwise_append.mpr ⟨h.filter _, List.pairwise_singleton .., fun a ha b hb => ?_⟩, h.filter _, fun a ha b hb => ?_⟩
  · rw [List.mem_singleton.mp hb]
    exact of_decide_eq_true (List.mem_filter.mp ha).2
  · have hb := (ordK_pos _ _).mp (of_decide_eq_true (List.mem_filter.mp hb).2)
    rcases List.mem_append.mp ha with ha | ha
    · exact ordK_trans (of_decide_eq_true (List.mem_filter.mp ha).2) hb
    · rw [List.mem_singleton.mp ha]
      exact hb
theorem holds_puts {its : List Item} (h : ∀ it ∈ its, it.ok) : Holds (puts its) (orderd its) its.length := ⟨puts_N its h, orderd_pw its, mem_orderd its⟩
theorem Holds.put {c : Ct} {os : List Item} {n : Nat} (h : Holds c os n) {it : Item} (hi : it.ok) : Holds (c.put it) (placedI os it) (n + 1) := ⟨h.N.put hi, placed_pw h.pw it, fun x => by rw [mem_placed, memC_put, h.mem]⟩
def goneI (os : List Item) (x : Item) : List Item := os.filter fun y => !decide (keyOf y = keyOf x)
theorem mem_gone {os : List Item} {x it : Item} : it ∈ goneI os x ↔ it ∈ os ∧ keyOf it ≠ keyOf x := by
  unfold goneI
  rw [List.mem_filter]
  refine and_congr_right fun _ => ?_
  by_cases e : keyOf it = keyOf x <;> simp [e]
theorem Holds.take {c : Ct} {os : List Item} {n : Nat} (h : Holds c os n) (x : Item) : Holds (c.take (keyOf x)) (goneI os x) n := ⟨h.N.take _, h.pw.filter _, fun it => by rw [mem_gone, memC_take (h.N.rows _).2.2, h.mem]⟩
theorem Holds.tidy {c : Ct} {os : List Item} {n : Nat} (h : Holds c os n) : Holds c.tidy os (2 * n) := ⟨h.N.tidy, h.pw, fun it => by rw [memC_tidy, h.mem]⟩
def Ct.chg (c : Ct) : Chg → Ct
  | .comes it => c.put it
  | .goes it => c.take (keyOf it)
def chgI (os : List Item) : Chg → List Item
  | .comes it => placedI os it
  | .goes it => goneI os it
def chgs (c : Ct) (cs : List Chg) : Ct := cs.foldl Ct.chg c
theorem Holds.chg {c : Ct} {os : List Item} {n : Nat} (h : Holds c os n) {x : Chg} (hx : x.ok) : Holds (c.chg x) (chgI os x) (n + 1) := by
  cases x with
  | comes it => exact h.put hx
  | goes it =>
    have := h.take it
    exact ⟨this.N.up, this.pw, this.mem⟩
theorem chgI_ok {os : List Item} {x : Chg} (h : ∀ y ∈ os, y.ok) (hx : x.ok) : ∀ y ∈ chgI os x, y.ok := by
  cases x with
  | comes it => exact placed_ok h hx
  | goes it => exact fun y hy => h y ((mem_gone (x := it)).mp hy).1
theorem chgI_len (os : List Item) (x : Chg) : (chgI os x).length ≤ os.length + 1 := by
  cases x with
  | comes it => exact placed_len os it
  | goes it => exact Nat.le_succ_of_le (List.length_filter_le _ _)
theorem lR_len (os : List Item) : (lR os).length ≤ os.length := by
  refine snoc_ind (p := fun os => (lR os).length ≤ os.length) (Nat.le_refl _) (fun xs x ih => ?_) os
  rw [show lR (xs ++ [x]) = stR (lR xs) x from fold_snoc _ _ _ _, List.length_append]
  cases x with
  | relation n w => exact Nat.le_trans (putG_len _ _ _) (Nat.succ_le_succ ih)
  | fact n w => exact Nat.le_succ_of_le ih
  | rule n a b d => exact Nat.le_succ_of_le ih
  | denial n b => exact Nat.le_succ_of_le ih
theorem lU_len (os : List Item) : (lU os).length ≤ os.length := by
  refine snoc_ind (p := fun os => (lU os).length ≤ os.length) (Nat.le_refl _) (fun xs x ih => ?_) os
  rw [show lU (xs ++ [x]) = stU (lU xs) x from fold_snoc _ _ _ _, List.length_append]
  cases x with
  | rule n a b d => exact Nat.le_trans (putG_len _ _ _) (Nat.succ_le_succ ih)
  | fact n w => exact Nat.le_succ_of_le ih
  | relation n w => exact Nat.le_succ_of_le ih
  | denial n b => exact Nat.le_succ_of_le ih
theorem lD_len (os : List Item) : (lD os).length ≤ os.length := by
  refine snoc_ind (p := fun os => (lD os).length ≤ os.length) (Nat.le_refl _) (fun xs x ih => ?_) os
  rw [show lD (xs ++ [x]) = stD (lD xs) x from fold_snoc _ _ _ _, List.length_append]
  cases x with
  | denial n b => exact Nat.le_trans (putG_len _ _ _) (Nat.succ_le_succ ih)
  | fact n w => exact Nat.le_succ_of_le ih
  | relation n w => exact Nat.le_succ_of_le ih
  | rule n a b d => exact Nat.le_succ_of_le ih
def isRel : Item → Bool
  | .relation _ _ => true
  | _ => false
def isFac : Item → Bool
  | .fact _ _ => true
  | _ => false
theorem lF1_len (os : List Item) : (lF1 os).length ≤ (os.filter isRel).length := by
  refine snoc_ind (p := fun os => (lF1 os).length ≤ (os.filter isRel).length) (Nat.le_refl _) (fun xs x ih => ?_) os
  rw [show lF1 (xs ++ [x]) = stF1 (lF1 xs) x from fold_snoc _ _ _ _, List.filter_append, List.length_append]
  cases x with
  | relation n w => exact Nat.le_trans (putG_len _ _ _) (Nat.succ_le_succ ih)
  | fact n w => exact ih
  | rule n a b d => exact ih
  | denial n b => exact ih
theorem lF2_len (F : List (Str × List (List Val))) (os : List Item) : (lF2 F os).length ≤ F.length + (os.filter isFac).length := by
  refine snoc_ind (p := fun os => (lF2 F os).length ≤ F.length + (os.filter isFac).length) (Nat.le_refl _) (fun xs x ih => ?_) os
  rw [show lF2 F (xs ++ [x]) = stF2 (lF2 F xs) x from fold_snoc _ _ _ _, List.filter_append, List.length_append]
  cases x with
  | fact n w => exact Nat.le_trans (putG_len _ _ _) (Nat.succ_le_succ ih)
  | relation n w => exact ih
  | rule n a b d => exact ih
  | denial n b => exact ih
theorem lF_len (os : List Item) : (lF2 (lF1 os) os).length ≤ os.length := by
  have h1 := lF1_len os
  have h2 := lF2_len (lF1 os) os
  have h3 := filter_two isRel isFac (fun x a b => by cases x <;> simp_all [isRel, isFac]) os
  omega
/-- what holds items is as the law's dicts say, once tidy -/
theorem Holds.like {c : Ct} {os : List Item} {n : Nat} (h : Holds c os n) : Like c.tidy os := by
  have hN := h.N
  have hT := hN.tidy
  have hp := h.pw
  have mem : ∀ it, it ∈ os ↔ memC c.tidy it := fun it => by rw [memC_tidy, h.mem]
  have hit : c.tidy.items = os := pw_eq (items_pw hT.nr hT.nf hT.nu hT.nd fun m => by rw [rows_tidy]; exact sortR_strict (hN.rows m).2.2) hp fun it => by rw [mem_items, memC_tidy, h.mem]
  have hrow : ∀ m, rowsOf c.tidy m = rowsIn os m := fun m => by
    have h1 : (rowsOf c.tidy m).Pairwise fun a b => rLt a b = true := by rw [rows_tidy]; exact sortR_strict (hN.rows m).2.2
    have h2 := rowsIn_pw hp m
    have nd : ∀ {l : List (List Val)}, (l.Pairwise fun a b => rLt a b = true) → l.Nodup := fun h => h.imp fun {a b} z e => by rw [e, rLt_irr] at z; cases z
    refine List.Perm.eq_of_pairwise (le := fun a b => rLt a b = true) (fun a b _ _ z1 z2 => ?_) h1 h2 ((List.perm_ext_iff_of_nodup (nd h1) (nd h2)).mpr fun r => ?_)
    · have := rLt_trans _ _ _ z1 z2
      rw [rLt_irr] at this
      cases this
    · rw [mem_rowsIn, mem]
      exact Iff.rfl
  have vr : ∀ m, valG c.tidy.rel m = valG (lR os) m := fun m => opt_ext fun v => by rw [lR_iff _ hp, mem]; exact Iff.rfl
  have vu : ∀ m, valG c.tidy.rul m = valG (lU os) m := fun m => opt_ext fun v => by rw [lU_iff _ hp, mem]; exact Iff.rfl
  have vd : ∀ m, valG c.tidy.den m = valG (lD os) m := fun m => opt_ext fun v => by rw [lD_iff _ hp, mem]; exact Iff.rfl
  have vf : ∀ m, valG c.tidy.fac m = valG (lF2 (lF1 os) os) m := fun m => by
    have e1 := lF1_is os m
    rw [lF2_is _ _ (by rw [e1]; split <;> rfl), valG_tidy, e1, ← rows_tidy, hrow]
    by_cases h1 : rowsIn os m = []
    · rw [if_pos h1, h1]
      have e2 : m ∈ c.names ↔ (os.any fun x => match x with | .relation k _ => decide (k = m) | _ => false) = true := by
        rw [mem_names, List.any_eq_true]
        have h3 : rowsOf c m = [] := by
          have := hrow m
          rw [rows_tidy, h1] at this
          have z := sortR_len (rowsOf c m)
          rw [this] at z
          exact List.length_eq_zero_iff.mp z.symm
        rw [h3]
        constructor
        · rintro (h4 | h4)
          · obtain ⟨w, hw⟩ := mem_keys.mp h4
            exact ⟨.relation m w, (mem _).mpr hw, decide_eq_true rfl⟩
          · exact absurd rfl h4
        · rintro ⟨x, hx, e⟩
          cases x with
          | relation k w =>
            have e := of_decide_eq_true e
            subst e
            exact .inl (mem_keys.mpr ⟨w, (mem _).mp hx⟩)
          | _ => cases e
      by_cases h4 : m ∈ c.names
      · rw [if_pos h4]
        exact (if_pos (e2.mp h4)).symm
      · rw [if_neg h4]
        exact (if_neg fun z => h4 (e2.mpr z)).symm
    · rw [if_neg h1, if_pos]
      refine mem_names.mpr (.inr fun z => h1 ?_)
      rw [← hrow, rows_tidy, z]
      exact List.mergeSort_nil
  refine ⟨hit, ⟨keys_eq_len hT.nr (fold_nodup _ (fun d x => ?_) _ _ List.nodup_nil) vr, fun n v hv => by rw [vr]; exact hv⟩, ⟨keys_eq_len hT.nf (fold_nodup _ (fun d x => ?_) _ _ (fold_nodup _ (fun d x => ?_) _ _ List.nodup_nil)) vf, fun n v hv => by rw [vf]; exact hv⟩, ⟨keys_eq_len hT.nu (fold_nodup _ (fun d x => ?_) _ _ List.nodup_nil) vu, fun n v hv => by rw [vu]; exact hv⟩, ⟨keys_eq_len hT.nd (fold_nodup _ (fun d x => ?_) _ _ List.nodup_nil) vd, fun n v hv => by rw [vd]; exact hv⟩⟩
  · cases x with
    | relation m w => exact .inr ⟨_, _, rfl⟩
    | _ => exact .inl rfl
  · cases x with
    | fact m w => exact .inr ⟨_, _, rfl⟩
    | _ => exact .inl rfl
  · cases x with
    | relation m w => exact .inr ⟨_, _, rfl⟩
    | _ => exact .inl rfl
  · cases x with
    | rule m w => exact .inr ⟨_, _, rfl⟩
    | _ => exact .inl rfl
  · cases x with
    | denial m w => exact .inr ⟨_, _, rfl⟩
    | _ => exact .inl rfl
theorem Holds.fine {c : Ct} {os : List Item} {n : Nat} (h : Holds c os n) (hn : n ≤ 400) (hl : os.length < 32) : CtOk c.tidy ∧ Ct.small c.tidy ∧ Like c.tidy os := by
  have lk := h.like
  have r := lR_len os
  have f := lF_len os
  have u := lU_len os
  have d := lD_len os
  exact ⟨h.N.tidy.ok (by omega), ⟨by rw [lk.r.1, lk.f.1]; omega, by rw [lk.u.1]; omega, by rw [lk.d.1]; omega⟩, lk⟩
end Ab
set_option Elab.async false
set_option linter.all false
set_option maxRecDepth 1000000
set_option  maxHeartbeats 4000000
namespace Ab
open PySem PyProof.Rows L2
abbrev encP (p : List Str) : PyData := .tuple (p.map .str)
/-- the number of columns -/
def ruleCols (c : Ct) (r : Str) (n : Str) : Option Int := (valG c.rul n).bind fun u => if u.rel = r then some (u.hd.length : Int) else none
def colsF (c : Ct) (r : Str) : Option Int := match valG c.rel r with
  | some w => some w
  | none => (sortT (c.rul.map (·.1))).findSome? (ruleCols c r)
def encO : Option Int → PyData
  | none => .none
  | some i => .int i
/-- no problem, or one -/
def atomP (cols : Str → Option Int) (r : Str) (ts : List Term) : Option (List Str) := match cols r with
  | none => some ["no relation", r]
  | some w => if w = (ts.length : Int) then none else some ["width", r]
def termP (known : List Str) (any : Bool) : Term → Option (List Str)
  | .any => if any then none else some ["any"]
  | .value _ => none
  | .variable z => if z ∈ known then none else some ["unbound", z]
def termsP (known : List Str) (any : Bool) (ts : List Term) : Option (List Str) := ts.findSome? (termP known any)
def varT : Term → Option Str
  | .variable z => some z
  | _ => none
def varsF (ts : List Term) : List Str := ts.filterMap varT
/-- the first problem of a literal; what it binds -/
def litP (cols : Str → Option Int) (known : List Str) : Lit → Option (List Str)
  | .fact r ts => atomP cols r ts
  | .neg r ts => (atomP cols r ts).or (termsP known true ts)
  | .compare _ s t => termsP known false [s, t]
  | .is _ _ s t => termsP known false [s, t]
  | .count x r ts => (atomP cols r ts).or (if x ∈ varsF ts then some ["own total", x] else none)
def bindsF : Lit → List Str
  | .fact _ ts => varsF ts
  | .is x _ _ _ => [x]
  | .count x _ _ => [x]
  | _ => []
def addK (known : List Str) (vs : List Str) : List Str := vs.foldl (fun k v => if v ∈ k then k else k ++ [v]) known
def bodyE (cols : Str → Option Int) : List Str → List Lit → List Str ⊕ List Str
  | known, [] => .inr known
  | known, l :: b => match litP cols known l with
    | some p => .inl p
    | none => bodyE cols (addK known (bindsF l)) b
def denP (c : Ct) (n : Str) (b : List Lit) : Option (List Str) := match valG c.den n with
  | some _ => some ["exists", "denial", n]
  | none => match bodyE (colsF c) [] b with
    | .inl p => some p
    | .inr _ => none
theorem varsF_len (ts : List Term) : (varsF ts).length ≤ ts.length := List.length_filterMap_le ..
theorem addK_len (vs : List Str) : ∀ known : List Str, (addK known vs).length ≤ known.length + vs.length := by
  unfold addK
  induction vs with
  | nil => intro k; exact Nat.le_refl _
  | cons v vs ih =>
    intro k
    refine Nat.le_trans (ih (if v ∈ k then k else k ++ [v])) ?_
    split
    · rw [List.length_cons]; omega
    · rw [List.length_append, List.length_cons, List.length_cons, List.length_nil]; omega
theorem bindsF_len {l : Lit} (h : l.ok) : (bindsF l).length ≤ 1000 := by
  cases l with
  | fact r ts => exact Nat.le_trans (varsF_len ts) h.2.1
  | neg r ts => simp [bindsF]
  | compare op s t => simp [bindsF]
  | is x op s t => simp [bindsF]
  | count x r ts => simp [bindsF]
theorem any_strs (ks : List Str) (z : Str) : ((ks.map PyData.str).any fun y => PyData.eqv y (.str z)) = decide (z ∈ ks) := by
  induction ks with
  | nil => rfl
  | cons k ks ih =>
    rw [List.map_cons, List.any_cons, ih, eqv_str]
    by_cases h : k = z
    · subst h; simp
    · have h' : z ≠ k := fun e => h e.symm
      simp [h, h']
theorem strs_shaped {ks : List Str} (h : ∀ z ∈ ks, PyData.strOk z = true) (hl : ks.length ≤ 1000000) : SeqAt.shaped (.list (ks.map PyData.str)) = true := okD_shaped (n := 1) (okD_mkL (by rw [List.length_map]; exact hl) (okAll_of fun d hd => by
  obtain ⟨z, hz, rfl⟩ := List.mem_map.mp hd
  exact okD_str (h z hz))) (by decide)
/-- the variables and names are texts that may be compared -/
theorem varsF_good {ts : List Term} (h : ∀ t ∈ ts, t.ok) : ∀ z ∈ varsF ts, goodS z = true := fun z hz => by
  obtain ⟨t, ht, e⟩ := List.mem_filterMap.mp hz
  cases t with
  | any => cases e
  | value v => cases e
  | «variable» y => cases e; exact h _ ht
theorem bindsF_good {l : Lit} (h : l.ok) : ∀ z ∈ bindsF l, goodS z = true := by
  cases l with
  | fact r ts => exact varsF_good h.2.2
  | neg r ts => exact fun z h => nomatch h
  | compare op s t => exact fun z h => nomatch h
  | is x op s t => exact fun z hz => by rw [List.mem_singleton.mp hz]; exact h.1
  | count x r ts => exact fun z hz => by rw [List.mem_singleton.mp hz]; exact h.1
theorem addK_good {known vs : List Str} (h1 : ∀ z ∈ known, goodS z = true) (h2 : ∀ z ∈ vs, goodS z = true) : ∀ z ∈ addK known vs, goodS z = true := by
  unfold addK
  induction vs generalizing known with
  | nil => exact h1
  | cons v vs ih =>
    refine ih (known := if v ∈ known then known else known ++ [v]) (fun z hz => ?_) fun z hz => h2 z (List.mem_cons_of_mem _ hz)
    split at hz
    · exact h1 z hz
    · rcases List.mem_append.mp hz with hz | hz
      · exact h1 z hz
      · rw [List.mem_singleton.mp hz]; exact h2 v List.mem_cons_self
section
variable {K : PySem.W.Frag} {M : MH} {Q : Sl → MH → Prop}
/-- z in a list of texts; not in -/
theorem w2_inT {s : Sl} {z : Str} {ks : List Str} (hl : LsV K s M (ks.map fun y => .str y)) (h1 : goodS z = true) (h2 : ∀ y ∈ ks, goodS y = true) (h3 : ks.length ≤ 1000000) (q : Q (.bl (decide (z ∈ ks))) M) : W2 K (rInD K) (.str z) s M Q := by
  refine w2_inL (ds := ks.map .str) (by rw [List.map_map]; exact hl) (shaped_str (goodS_ok h1)) (strs_shaped (fun y hy => goodS_ok (h2 y hy)) h3) ?_
  rw [any_strs]
  exact q
theorem w2_notInL {s : Sl} {d : PyData} {ds : List PyData} (hl : LsV K s M (ds.map .dat)) (h1 : SeqAt.shaped d = true) (h2 : SeqAt.shaped (.list ds) = true) (q : Q (.bl (!ds.any fun z => PyData.eqv z d)) M) : W2 K (rNotInD K) (.dat d) s M Q := fun B H v w hS o1 o2 Q0 k => by
  obtain ⟨a, vs, rfl, hq, ha⟩ := hl.get hS o2
  exact ⟨d, ds, dq_dpS h1 (dp_same hS.sub _ _ o1), .lst hq (dqa_dpS h2 (dpa_same hS.sub _ _ (dpa_of ha))), h1, h2, k _ _ M B H q (Same.refl B) hS slok_bl⟩
theorem w2_notInT {s : Sl} {z : Str} {ks : List Str} (hl : LsV K s M (ks.map fun y => .str y)) (h1 : goodS z = true) (h2 : ∀ y ∈ ks, goodS y = true) (h3 : ks.length ≤ 1000000) (q : Q (.bl (!decide (z ∈ ks))) M) : W2 K (rNotInD K) (.str z) s M Q := by
  refine w2_notInL (ds := ks.map .str) (by rw [List.map_map]; exact hl) (shaped_str (goodS_ok h1)) (strs_shaped (fun y hy => goodS_ok (h2 y hy)) h3) ?_
  rw [any_strs]
  exact q
end
/-- the raised: a class with one field -/
def XP (C : Addr) (fl : Str) (M : MH) (X : Value → Option Addr → MH → Prop) (d : PyData) : Prop := ∀ M' e, (∀ b u, M b = some u → M' b = some u) → M e = none → M' e = some (.xd [(fl, .dat d)]) → X (.ref C) (some e) M'
theorem XP.ext {C : Addr} {fl : Str} {M N : MH} {X : Value → Option Addr → MH → Prop} {d : PyData} (h : XP C fl M X d) (e : ∀ b u, M b = some u → N b = some u) : XP C fl N X d := fun M' x h1 h2 h3 => h M' x (fun b u q => h1 b u (e b u q)) (by
  cases z : M x with
  | none => rfl
  | some u => rw [e x u z] at h2; cases h2) h3
theorem XP.at {C : Addr} {fl : Str} {M : MH} {X : Value → Option Addr → MH → Prop} {d : PyData} (h : XP C fl M X d) {e : Addr} (he : M e = none) : X (.ref C) (some e) (um M e (.xd [(fl, .dat d)])) := h _ e (fun b u hb => by rw [um_ne fun z => by rw [z, he] at hb; cases hb]; exact hb) he um_same
end Ab
namespace Ab
open PySem PyProof.Rows L2
section
variable {K : KX} {ρ : Rho} {M : MH} {Q : Sl → MH → Prop} {td : TE}
/-- sorted(d), read at once -/
theorem w_sortedN {kvs : List (Key × Sl)} {ks : List Str} (h : W K td ρ M fun s M1 => DcV K.K s M1 kvs ∧ kvs.map (·.1) = ks.map Sum.inr ∧ ks.length < 64 ∧ Q (.dat (.list ((sortT ks).map .str))) M1) : W K (tCB rSortedDk (tCons td tNil)) ρ M Q :=
  w_frz (w_cb (wa_cons (h.imp fun s M1 ⟨h1, h2, h3, q⟩ => wa_nil (wl_sortedD h1 h2 h3 fun p hp => ⟨p, (sortT ks).map .str, rfl, by rw [um_same, List.map_map]; rfl, by rw [del_um hp]; exact q⟩))))
end
end Ab
namespace Ab
open PySem PyProof.Rows L2
section
variable {K : KX} {ρ : Rho} {M : MH} {Q : Sl → MH → Prop} {te : TE} {tt : TT} {nx bk ct : Rho → MH → Prop} {rt : Sl → MH → Prop}
/-- [g(x) for x in a tuple of data if f(x)] -/
theorem w_lcTF {α : Type} {enc : α → PyData} {xs : List α} {tl : TE} {j : Nat} {vs : List Nat} {M1 : MH} (hj : j ∈ vs) (hl : W K tl ρ M fun s M2 => s = .dat (.tuple (xs.map enc)) ∧ M2 = M1) (hz : xs.length ≤ 1000000) (f : α → Option PyData)
    (ht : ∀ x D o, x ∈ xs → M1 D = none → WT K tt ((wipeR ρ vs).set j (some (.dat (enc x)))) (um M1 D o) fun b M' => b = (f x).isSome ∧ M' = um M1 D o)
    (he : ∀ x D o d, x ∈ xs → f x = some d → M1 D = none → W K te ((wipeR ρ vs).set j (some (.dat (enc x)))) (um M1 D o) fun s M' => s = .dat d ∧ M' = um M1 D o) (q : Q (.dat (.list (xs.filterMap f))) M1) : W K (tLc (iTup K.K tl) (gName j) tt te vs) ρ M Q :=
  w_lc hj (wi_tup (hl.imp fun s M2 ⟨e1, e2⟩ => by
    subst e1 e2
    refine ⟨_, tpv_dat, fun i acc M' => M' = M2 ∧ acc = (xs.take i).filterMap f, ⟨rfl, by simp⟩, fun _ _ _ _ _ _ _ _ => trivial, fun i acc M' D hi ⟨eM, ea⟩ hD => ?_, fun acc M' ⟨eM, ea⟩ => ?_⟩
    · subst eM ea
      have hi' : i < xs.length := by simpa using hi
      show WT K tt ((wipeR ρ vs).set j (some (((xs.map enc).map Sl.dat).getD i .non))) _ _
      rw [getD_map hi']
      refine WT.imp (ht xs[i] D _ (List.getElem_mem hi') hD) fun b M3 ⟨e1, e2⟩ => ?_
      subst e1 e2
      have hn : xs.take (i + 1) = xs.take i ++ [xs[i]] := List.take_succ_eq_append_getElem hi'
      cases hf : f xs[i] with
      | some d =>
        show W K te ((wipeR ρ vs).set j (some (((xs.map enc).map Sl.dat).getD i .non))) _ _
        rw [getD_map hi']
        refine (he xs[i] D _ d (List.getElem_mem hi') hf hD).imp fun s M4 ⟨e1, e2⟩ => ⟨d, _, e1, e2, hD, ?_, rfl, ?_⟩
        · have := List.length_filterMap_le f (xs.take i)
          rw [List.length_take] at this
          omega
        · rw [hn, List.filterMap_append, List.filterMap_cons, hf]
          rfl
      | none =>
        refine ⟨_, rfl, hD, rfl, ?_⟩
        rw [hn, List.filterMap_append, List.filterMap_cons, hf]
        simp
    · subst eM ea
      rw [List.length_map, List.length_map, List.take_length]
      exact q))
/-- for x in a tuple of data -/
theorem ws_forT {α : Type} {enc : α → PyData} {xs : List α} {tl : TE} {g : TG} {tb : TS} {M1 : MH} (hl : W K tl ρ M fun s M2 => s = .dat (.tuple (xs.map enc)) ∧ M2 = M1) (J : List α → Rho → MH → Prop) (h0 : J [] ρ M1)
    (hs : ∀ pre x post ρ' M', xs = pre ++ x :: post → J pre ρ' M' → WG K g (.dat (enc x)) ρ' M' fun ρ2 M2 => WS K tb ρ2 M2 ⟨J (pre ++ [x]), rt, nx, J (pre ++ [x])⟩) (hd : ∀ ρ' M', J xs ρ' M' → nx ρ' M') : WS K (tFor (iTup K.K tl) g tb) ρ M ⟨nx, rt, bk, ct⟩ :=
  ws_for (wi_tup (hl.imp fun s M2 ⟨e1, e2⟩ => by
    subst e1 e2
    refine ⟨_, tpv_dat, fun i => J (xs.take i), h0, fun _ _ _ _ _ => trivial, fun i ρ' M' hi hj => ?_, fun ρ' M' hj => hd ρ' M' (by rwa [List.length_map, List.length_map, List.take_length] at hj)⟩
    have hi' : i < xs.length := by simpa using hi
    have q := hs (xs.take i) xs[i] (xs.drop (i + 1)) ρ' M' (split_at hi') hj
    rw [← List.take_succ_eq_append_getElem hi'] at q
    show WG K g (((xs.map enc).map Sl.dat).getD i .non) ρ' M' _
    rw [getD_map hi']
    exact q))
end
end Ab
namespace Ab
open PySem PyProof.Rows L2
theorem lsv_strs {K : PySem.W.Frag} {M : MH} {ks : List Str} : LsV K (.dat (.list (ks.map .str))) M (ks.map fun y => .str y) := .inl ⟨_, rfl, by rw [List.map_map]; rfl⟩
end Ab
set_option Elab.async false
set_option linter.all false
set_option maxRecDepth 1000000
set_option  maxHeartbeats 4000000
namespace L2
open PySem PySem.Spec PyProof.Rows
section
variable {X : Cx}
def rInTp (F : PySem.W.Frag) : R2 := fun x y H Q => ∃ z zs, Dp F H x z ∧ Dp F H y (.tuple zs) ∧ SeqAt.shaped z = true ∧ SeqAt.shaped (.tuple zs) = true ∧ Q (.bl (zs.any fun e => PyData.eqv e z)) H
def rOutTp (F : PySem.W.Frag) : R2 := fun x y H Q => ∃ z zs, Dp F H x z ∧ Dp F H y (.tuple zs) ∧ SeqAt.shaped z = true ∧ SeqAt.shaped (.tuple zs) = true ∧ Q (.bl (!zs.any fun e => PyData.eqv e z)) H
theorem op_inTp (hu : X.A.units + 65 < cLine) : OpR X (compareOp .In) (rInTp X.K) := fun pins s σ H x y v u Q I rx ry ⟨z, zs, hz, hs, sz, ss, q⟩ => by
  obtain ⟨as, r1⟩ := Dp.reads I z x v hz rx
  obtain ⟨bs, r2⟩ := Dp.reads I (.tuple zs) y u hs ry
  exact SeqAt.in_tuple_reads r2 r1 (SeqAt.canLay_of_shaped ss) (SeqAt.canLay_of_shaped sz) (room_in_shaped sz hu) ⟨.bl _, H, I, rfl, q⟩
theorem op_outTp (hu : X.A.units + 65 < cLine) : OpR X (compareOp .NotIn) (rOutTp X.K) := fun pins s σ H x y v u Q I rx ry ⟨z, zs, hz, hs, sz, ss, q⟩ => by
  obtain ⟨as, r1⟩ := Dp.reads I z x v hz rx
  obtain ⟨bs, r2⟩ := Dp.reads I (.tuple zs) y u hs ry
  exact SeqAt.notIn_tuple_reads r2 r1 (SeqAt.canLay_of_shaped ss) (SeqAt.canLay_of_shaped sz) (room_in_shaped sz hu) ⟨.bl _, H, I, rfl, q⟩
end
end L2
namespace Ab
open PySem PyProof.Rows L2
section
variable {K : PySem.W.Frag} {M : MH} {Q : Sl → MH → Prop}
theorem w2_inTp {d : PyData} {ds : List PyData} (h1 : SeqAt.shaped d = true) (h2 : SeqAt.shaped (.tuple ds) = true) (q : Q (.bl (ds.any fun z => PyData.eqv z d)) M) : W2 K (rInTp K) (.dat d) (.dat (.tuple ds)) M Q := fun B H v w hS o1 o2 Q0 k =>
  ⟨d, ds, dq_dpS h1 (dp_same hS.sub _ _ o1), dq_dpS h2 (dp_same hS.sub _ _ o2), h1, h2, k _ _ M B H q (Same.refl B) hS slok_bl⟩
theorem w2_outTp {d : PyData} {ds : List PyData} (h1 : SeqAt.shaped d = true) (h2 : SeqAt.shaped (.tuple ds) = true) (q : Q (.bl (!ds.any fun z => PyData.eqv z d)) M) : W2 K (rOutTp K) (.dat d) (.dat (.tuple ds)) M Q := fun B H v w hS o1 o2 Q0 k =>
  ⟨d, ds, dq_dpS h1 (dp_same hS.sub _ _ o1), dq_dpS h2 (dp_same hS.sub _ _ o2), h1, h2, k _ _ M B H q (Same.refl B) hS slok_bl⟩
end
section
variable {K : KX} {ρ : Rho} {M : MH} {Q : Sl → MH → Prop} {te : TE} {tt : TT}
/-- [g(i) for i in range(n) if f(i)] -/
theorem w_lcRF {t : TA} {n : Nat} {j : Nat} {vs : List Nat} {M1 : MH} (hj : j ∈ vs) (hl : WA K t ρ M fun ss M2 => ss = [.int (n : Int)] ∧ M2 = M1) (hz : n ≤ 1000000) (f : Nat → Option PyData)
    (ht : ∀ (i : Nat) D o, i < n → M1 D = none → WT K tt ((wipeR ρ vs).set j (some (.int (i : Int)))) (um M1 D o) fun b M' => b = (f i).isSome ∧ M' = um M1 D o)
    (he : ∀ (i : Nat) D o d, i < n → f i = some d → M1 D = none → W K te ((wipeR ρ vs).set j (some (.int (i : Int)))) (um M1 D o) fun s M' => s = .dat d ∧ M' = um M1 D o) (q : Q (.dat (.list ((List.range n).filterMap f))) M1) : W K (tLc (iRng1 t) (gName j) tt te vs) ρ M Q :=
  w_lc hj (wi_r1 fun σ B H hR hS Q0 k => hl σ B H hR hS Q0 fun ss ws M' B' H' ⟨e1, e2⟩ => by
    subst e1 e2
    refine k _ ws _ B' H' ⟨(n : Int), rfl, by omega, by omega, fun i acc M2 => M2 = M' ∧ acc = (List.range i).filterMap f, ⟨rfl, rfl⟩, fun _ _ _ _ _ _ _ _ => trivial, fun i acc M2 D hi ⟨eM, ea⟩ hD => ?_, fun acc M2 ⟨eM, ea⟩ => ?_⟩
    · subst eM ea
      have hi' : i < n := by simpa using hi
      refine WT.imp (ht i D _ hi' hD) fun b M3 ⟨e1, e2⟩ => ?_
      subst e1 e2
      have hn : List.range (i + 1) = List.range i ++ [i] := List.range_succ
      have hll := List.length_filterMap_le f (List.range i)
      rw [List.length_range] at hll
      cases hf : f i with
      | some d =>
        refine (he i D _ d hi' hf hD).imp fun s M4 ⟨e1, e2⟩ => ⟨d, _, e1, e2, hD, by omega, rfl, ?_⟩
        rw [hn, List.filterMap_append, List.filterMap_cons, hf]
        rfl
      | none =>
        refine ⟨_, rfl, hD, rfl, ?_⟩
        rw [hn, List.filterMap_append, List.filterMap_cons, hf]
        simp
    · subst eM ea
      exact q)
end
end Ab
namespace Ab
open PySem PyProof.Rows L2
section
variable {K : KX} {ρ : Rho} {M : MH} {Q : Sl → MH → Prop} {td te : TE}
/-- [f(n) for n in d], d held fast -/
theorem w_lcKeysF {j : Nat} {vs : List Nat} {a : Addr} {kvs : List (Key × Sl)} {ns : List Str} (hj : j ∈ vs) (hk : kvs.map (·.1) = ns.map Sum.inr) (hz : ns.length ≤ 1000000) (f : Str → PyData)
    (hl : ∀ x : MO, (∃ od v, x = .frz od v (.dK kvs)) → W K td ρ (um M a x) fun s M2 => s = .raw (.ref a) ∧ M2 = um M a x)
    (he : ∀ (n : Str) (D : Addr) (o x : MO), (∃ od v, x = .frz od v (.dK kvs)) → n ∈ ns → M D = none → D ≠ a → W K te ((wipeR ρ vs).set j (some (.str n))) (um (um M a x) D o) fun s M' => s = .dat (f n) ∧ M' = um (um M a x) D o)
    (od : Obj) (v : HO) : W K (tLc (iKeys td) (gName j) tYes te vs) ρ (um M a (.frz od v (.dK kvs))) fun s M' => s = .dat (.list (ns.map f)) ∧ M' = um M a (.frz od v (.dK kvs)) :=
  w_lc hj (wi_keys ((hl _ ⟨od, v, rfl⟩).imp fun s M2 ⟨e1, e2⟩ => by
    subst e1 e2
    have hlen : kvs.length = ns.length := by rw [← List.length_map (f := (·.1)), hk, List.length_map]
    refine ⟨a, od, v, kvs, rfl, um_same, fun i acc M' => M' = um M a (.frz od v (.dK kvs)) ∧ acc = (ns.take i).map f, ⟨rfl, rfl⟩, fun i acc M' _ ⟨e, _⟩ D o hD => ?_, fun i acc M' D hi ⟨e, ea⟩ hD => ?_, fun acc M' ⟨e, ea⟩ => ?_⟩
    · subst e
      have : a ≠ D := fun z => by rw [← z, um_same] at hD; cases hD
      rw [um_ne this, um_same]
    · subst e ea
      have hi' : i < ns.length := by rw [← hlen]; exact hi
      have ne : D ≠ a := fun z => by rw [z, um_same] at hD; cases hD
      have hD2 : M D = none := by rw [um_ne ne] at hD; exact hD
      have gi : (kvs.map fun q => kS q.1).getD i .non = .str ns[i] := by
        have e : (kvs.map fun q => kS q.1) = (ns.map Sum.inr).map kS := by rw [← hk, List.map_map]; rfl
        rw [e, List.getD_eq_getElem?_getD, List.map_map, List.getElem?_map, List.getElem?_eq_getElem hi']
        rfl
      refine wt_yes ?_
      rw [if_pos rfl]
      show W K te ((wipeR ρ vs).set j (some ((kvs.map fun q => kS q.1).getD i .non))) _ _
      rw [gi]
      refine (he ns[i] D _ _ ⟨od, v, rfl⟩ (List.getElem_mem hi') hD2 ne).imp fun s M' ⟨e1, e2⟩ => ⟨f ns[i], _, e1, e2, hD, ?_, rfl, ?_⟩
      · rw [List.length_map, List.length_take]
        omega
      · rw [List.take_succ_eq_append_getElem hi', List.map_append]
        rfl
    · subst e ea
      refine ⟨?_, rfl⟩
      rw [hlen, List.take_length]))
theorem w_lockLc {j : Nat} {vs : List Nat} {a : Addr} {kvs : List (Key × Sl)} {ns : List Str} (hj : j ∈ vs) (h : M a = some (.dK kvs)) (hk : kvs.map (·.1) = ns.map Sum.inr) (hz : ns.length ≤ 1000000) (f : Str → PyData)
    (hl : ∀ x : MO, (∃ od v, x = .frz od v (.dK kvs)) → W K td ρ (um M a x) fun s M2 => s = .raw (.ref a) ∧ M2 = um M a x)
    (he : ∀ (n : Str) (D : Addr) (o x : MO), (∃ od v, x = .frz od v (.dK kvs)) → n ∈ ns → M D = none → D ≠ a → W K te ((wipeR ρ vs).set j (some (.str n))) (um (um M a x) D o) fun s M' => s = .dat (f n) ∧ M' = um (um M a x) D o)
    (q : Q (.dat (.list (ns.map f))) M) : W K (tLockE (tLc (iKeys td) (gName j) tYes te vs)) ρ M Q :=
  w_lock h fun od v => (w_lcKeysF hj hk hz f hl he od v).imp fun s M' ⟨e1, e2⟩ => by
    subst e1 e2
    rw [um_um, um_id h]
    exact ⟨um_same, q⟩
end
end Ab
namespace L2
open PySem PySem.Spec PyProof.Rows
/-- x not in c, c a list or a tuple -/
def rOutU (F : PySem.W.Frag) : R2 := fun x y H Q => rNotInD F x y H Q ∨ rOutTp F x y H Q
theorem op_outU {X : Cx} (hu : X.A.units + 65 < cLine) : OpR X (compareOp .NotIn) (rOutU X.K) := fun pins s σ H x y v u Q I rx ry h => h.elim (op_notInD hu pins s σ H x y v u Q I rx ry) (op_outTp hu pins s σ H x y v u Q I rx ry)
end L2
namespace Ab
open PySem PyProof.Rows L2
theorem w2_outUl {K : PySem.W.Frag} {M : MH} {Q : Sl → MH → Prop} {x y : Sl} (h : W2 K (rNotInD K) x y M Q) : W2 K (rOutU K) x y M Q := fun B H v w hS o1 o2 Q0 k => .inl (h B H v w hS o1 o2 Q0 k)
theorem w2_outUt {K : PySem.W.Frag} {M : MH} {Q : Sl → MH → Prop} {x y : Sl} (h : W2 K (rOutTp K) x y M Q) : W2 K (rOutU K) x y M Q := fun B H v w hS o1 o2 Q0 k => .inr (h B H v w hS o1 o2 Q0 k)
end Ab
set_option Elab.async false
set_option linter.all false
set_option maxRecDepth 1000000
set_option  maxHeartbeats 4000000
namespace Ab
open PySem PyProof.Rows L2
/-- a draw of a sort -/
abbrev A_draw (P : PyData → Prop) : ASp := A_gen (fun ds => ds = []) fun _ d => P d
/-- bound names -/
abbrev bnd (ks : List Str) : PyData := .list (ks.map .str)
structure okK (ks : List Str) : Prop where
  g : ∀ z ∈ ks, goodS z = true
  l : ks.length ≤ 100000
/-- a term instead of one that may be loose -/
def settled (ks : List Str) : Term → Term
  | .any => .value (.int 1)
  | .variable z => if z ∈ ks then .variable z else .value (.int 1)
  | t => t
theorem settled_ok {ks : List Str} {t : Term} (h : t.ok) : (settled ks t).ok := by
  cases t with
  | any => exact (by decide +kernel : (1 : Int).natAbs < 10 ^ 30)
  | value v => exact h
  | «variable» z =>
    show (if z ∈ ks then Term.variable z else .value (.int 1)).ok
    by_cases hz : z ∈ ks
    · rw [if_pos hz]; exact h
    · rw [if_neg hz]; exact (by decide +kernel : (1 : Int).natAbs < 10 ^ 30)
/-- the widths as a dict -/
def kvW (W : List (Str × Int)) : List (Key × Sl) := W.map fun p => (.inr p.1, .int p.2)
structure okW (W : List (Str × Int)) : Prop where
  g : ∀ p ∈ W, goodS p.1 = true ∧ 0 ≤ p.2 ∧ p.2 ≤ 100
  l : W.length < 60
  n : W ≠ []
section
variable {K : PySem.W.Frag} {M : MH} {Q : Sl → MH → Prop}
/-- one of some texts -/
theorem w2_ixT1 {ks : List Str} {i : Int} (h0 : 0 ≤ i) (h : i < ks.length) (q : ∀ z ∈ ks, Q (.str z) M) : W2 K (rIxL K) (.dat (bnd ks)) (.int i) M Q :=
  w2_ixAny h0 (by rw [List.length_map]; exact h) fun d hd => by
    obtain ⟨z, hz, rfl⟩ := List.mem_map.mp hd
    exact q z hz
end
end Ab
namespace Ab
open PySem PyProof.Rows L2
section
variable {K : KX} {ρ : Rho} {M : MH} {Q : Sl → MH → Prop} {td te tl : TE}
theorem w_dropE (h : W K te ρ M fun s M1 => ∃ a, Q s (del M1 a)) : W K te ρ M Q := fun σ B H hR hS Q0 k =>
  h σ B H hR hS Q0 fun s v M1 B1 H1 ⟨a, q⟩ e S o => k s v (del M1 a) B1 H1 q e S.drop o
/-- sorted(list(d)), read at once -/
theorem w_sortedLN {kvs : List (Key × Sl)} {ks : List Str} (h : W K td ρ M fun s M1 => DcV K.K s M1 kvs ∧ kvs.map (·.1) = ks.map Sum.inr ∧ ks.length < 64 ∧ Q (.dat (bnd (sortT ks))) M1) : W K (tCB (rSortedS K.K) (tCons (tCB rListDk (tCons td tNil)) tNil)) ρ M Q :=
  w_dropE (w_frz (w_cb (wa_cons (w_cb (wa_cons (h.imp fun s M1 ⟨h1, h2, h3, q⟩ => wa_nil (wl_listD h1 fun p hp => wa_nil (wl_sortedS (ys := ks) (lsv_ref (by
    rw [um_same]
    have e : kvs.map (fun q => kS q.1) = (kvs.map (·.1)).map kS := by rw [List.map_map]; rfl
    rw [e, h2, List.map_map]
    rfl)) h3 fun p2 hp2 => ⟨p2, (sortT ks).map .str, rfl, by rw [um_same, List.map_map]; rfl, p, by rw [del_um hp2, del_um hp]; exact q⟩))))))))
/-- [g(x) for x in a list of data], each of a sort -/
theorem w_lcP1 {α : Type} {enc : α → PyData} {xs : List α} {j : Nat} {vs : List Nat} {M1 : MH} (hj : j ∈ vs) (hl : W K tl ρ M fun s M2 => s = .dat (.list (xs.map enc)) ∧ M2 = M1) (hz : xs.length ≤ 1000000) (P : PyData → Prop)
    (he : ∀ x D o, x ∈ xs → M1 D = none → W K te ((wipeR ρ vs).set j (some (.dat (enc x)))) (um M1 D o) fun s M' => ∃ d, s = .dat d ∧ P d ∧ M' = um M1 D o) (q : ∀ ds, ds.length = xs.length → (∀ d ∈ ds, P d) → Q (.dat (.list ds)) M1) : W K (tLc (iList K.K tl) (gName j) tYes te vs) ρ M Q :=
  w_lc hj (wi_list (hl.imp fun s M2 ⟨e1, e2⟩ => by
    subst e1 e2
    refine ⟨_, lsv_dat, fun i acc M' => M' = M2 ∧ acc.length = i ∧ ∀ d ∈ acc, P d, ⟨rfl, rfl, fun _ h => (nomatch h)⟩, fun _ _ _ _ _ _ _ _ => lsv_dat, fun i acc M' D hi ⟨eM, ea, ep⟩ hD => ?_, fun acc M' ⟨eM, ea, ep⟩ => ?_⟩
    · subst eM ea
      have hi' : acc.length < xs.length := by simpa using hi
      refine wt_yes ?_
      rw [if_pos rfl]
      show W K te ((wipeR ρ vs).set j (some (((xs.map enc).map Sl.dat).getD acc.length .non))) _ _
      rw [getD_map hi']
      refine (he _ D _ (List.getElem_mem hi') hD).imp fun s M4 ⟨d, e1, e2, e3⟩ => ⟨d, _, e1, e3, hD, by omega, rfl, by rw [List.length_append]; rfl, fun z hz => ?_⟩
      rcases List.mem_append.mp hz with h | h
      · exact ep z h
      · rw [List.mem_singleton.mp h]; exact e2
    · subst eM
      exact q acc (by rw [ea, List.length_map, List.length_map]) ep))
end
theorem kvW_keys (W : List (Str × Int)) : (kvW W).map (·.1) = (W.map (·.1)).map Sum.inr := by unfold kvW; rw [List.map_map, List.map_map]; rfl
theorem kvW_at {W : List (Str × Int)} {z : Str} {n : Int} (h : valG W z = some n) : valG (kvW W) (.inr z) = some (.int n) := by
  have := valG_inr (fun i : Int => Sl.int i) z W
  rw [h] at this
  exact this
end Ab
namespace Ab
open PySem PyProof.Rows L2
section
variable {K : KX} {ρ : Rho} {M : MH} {Q : Sl → MH → Prop} {te tl : TE}
/-- terms instead of terms -/
theorem w_termL {ts : List Term} {j : Nat} {vs : List Nat} {M1 : MH} (hj : j ∈ vs) (hts : okTs ts) (hl : W K tl ρ M fun s M2 => s = .dat (.list (ts.map Term.enc)) ∧ M2 = M1)
    (he : ∀ x D o, x ∈ ts → M1 D = none → W K te ((wipeR ρ vs).set j (some (.dat (Term.enc x)))) (um M1 D o) fun s M' => ∃ t : Term, t.ok ∧ s = .dat t.enc ∧ M' = um M1 D o)
    (q : ∀ us, okTs us → us.length = ts.length → Q (.dat (.list (us.map Term.enc))) M1) : W K (tLc (iList K.K tl) (gName j) tYes te vs) ρ M Q :=
  w_lcP1 (enc := Term.enc) (xs := ts) (M1 := M1) hj hl (by have := hts.1; omega) (fun d => ∃ t : Term, d = t.enc ∧ t.ok) (fun x D o hx hD => (he x D o hx hD).imp fun s M' ⟨t, h1, h2, h3⟩ => ⟨_, h2, ⟨t, rfl, h1⟩, h3⟩) fun ds hl hP => by
    obtain ⟨us, rfl, hus⟩ := list_enc hP
    rw [List.length_map] at hl
    exact q us ⟨by rw [hl]; exact hts.1, hus⟩ hl
theorem Term.shaped {t : Term} (h : t.ok) : SeqAt.shaped t.enc = true := okD_shaped (n := 2) (Term.okD h) (by decide)
end
end Ab
namespace Ab
open PySem PyProof.Rows L2
def Lit.form : Lit → Str
  | .fact _ _ => "fact"
  | .neg _ _ => "not"
  | .compare _ _ _ => "compare"
  | .is _ _ _ _ => "is"
  | .count _ _ _ => "count"
theorem Lit.form_good : ∀ l : Lit, goodS l.form = true
  | .fact _ _ => (by decide +kernel : goodS ("fact" : Str) = true)
  | .neg _ _ => (by decide +kernel : goodS ("not" : Str) = true)
  | .compare _ _ _ => (by decide +kernel : goodS ("compare" : Str) = true)
  | .is _ _ _ _ => (by decide +kernel : goodS ("is" : Str) = true)
  | .count _ _ _ => (by decide +kernel : goodS ("count" : Str) = true)
theorem w2_ixHd {K : PySem.W.Frag} {M : MH} {Q : Sl → MH → Prop} {l : Lit} (q : Q (.str l.form) M) : W2 K (rIxT K) (.dat l.enc) (.int 0) M Q := by
  cases l <;> exact w2_ixT rfl q
end Ab
set_option Elab.async false
set_option linter.all false
set_option maxRecDepth 1000000
set_option  maxHeartbeats 4000000
namespace Ab
open PySem PyProof.Rows L2
def encOP : Option (List Str) → PyData
  | none => .none
  | some p => encP p
theorem eqv_var (x : Str) : ∀ t : Term, PyData.eqv t.enc (Term.variable x).enc = decide (varT t = some x)
  | .any => by
    show PyData.eqv (.tuple [.str "any"]) (.tuple [.str "variable", .str x]) = _
    rw [PyData.eqv, PyData.eqvAll, PyData.eqvAll, Bool.and_false]
    rfl
  | .value v => by
    show PyData.eqv (.tuple [.str "value", v.enc]) (.tuple [.str "variable", .str x]) = _
    rw [PyData.eqv, PyData.eqvAll, eqv_str, show decide (("value" : Str) = "variable") = false from by decide +kernel, Bool.false_and]
    rfl
  | .variable y => by
    show PyData.eqv (.tuple [.str "variable", .str y]) (.tuple [.str "variable", .str x]) = _
    rw [PyData.eqv, PyData.eqvAll, eqv_str, PyData.eqvAll, eqv_str, PyData.eqvAll, decide_eq_true rfl, Bool.true_and, Bool.and_true]
    by_cases h : y = x
    · subst h; simp [varT]
    · simp [varT, h]
theorem any_var (x : Str) : ∀ ts : List Term, ((ts.map Term.enc).any fun z => PyData.eqv z (Term.variable x).enc) = decide (x ∈ varsF ts)
  | [] => by simp [varsF]
  | t :: ts => by
    rw [List.map_cons, List.any_cons, any_var x ts, eqv_var]
    unfold varsF
    rw [List.filterMap_cons]
    cases h : varT t with
    | none => simp
    | some y =>
      by_cases e : y = x
      · subst e; simp
      · have e' : x ≠ y := fun z => e z.symm
        simp [e, e']
theorem encT_shaped {ts : List Term} (h : okTs ts) : SeqAt.shaped (encT ts) = true := okD_shaped (n := 2) (okTs_okD h) (by decide)
/-- the names, each once -/
def onceG (vs : List Str) (k : Nat) : Option Str := match vs[k]? with
  | some v => if v ∈ vs.take k then none else some v
  | none => none
theorem onceG_at {vs : List Str} {k : Nat} (h : k < vs.length) : onceG vs k = if vs[k] ∈ vs.take k then none else some vs[k] := by unfold onceG; rw [List.getElem?_eq_getElem h]
def onceF (vs : List Str) : List Str := (List.range vs.length).filterMap (onceG vs)
theorem fm_congr {α β : Type} {f g : α → Option β} : ∀ {xs : List α}, (∀ x ∈ xs, f x = g x) → xs.filterMap f = xs.filterMap g
  | [], _ => rfl
  | x :: xs, h => by rw [List.filterMap_cons, List.filterMap_cons, h x List.mem_cons_self, fm_congr fun y hy => h y (List.mem_cons_of_mem _ hy)]
theorem onceF_snoc (vs : List Str) (v : Str) : onceF (vs ++ [v]) = onceF vs ++ (if v ∈ vs then [] else [v]) := by
  unfold onceF
  rw [List.length_append, List.length_cons, List.length_nil, List.range_succ, List.filterMap_append]
  congr 1
  · refine fm_congr fun k hk => ?_
    have hk' : k < vs.length := List.mem_range.mp hk
    unfold onceG
    rw [List.getElem?_append_left hk', List.take_append_of_le_length (by omega)]
  · rw [List.filterMap_cons, List.filterMap_nil]
    unfold onceG
    rw [List.getElem?_append_right (by omega), List.take_append_of_le_length (by omega), List.take_length]
    by_cases h : v ∈ vs <;> simp [h]
theorem mem_addK {vs ks : List Str} {z : Str} : z ∈ addK ks vs ↔ z ∈ ks ∨ z ∈ vs := by
  unfold addK
  induction vs generalizing ks with
  | nil => simp
  | cons v vs ih =>
    rw [List.foldl_cons, ih]
    split
    · rename_i h
      simp only [List.mem_cons]
      constructor
      · rintro (h1 | h1)
        · exact .inl h1
        · exact .inr (.inr h1)
      · rintro (h1 | rfl | h1)
        · exact .inl h1
        · exact .inl h
        · exact .inr h1
    · simp only [List.mem_append, List.mem_cons, List.not_mem_nil, or_false]
      constructor
      · rintro ((h1 | h1) | h1)
        · exact .inl h1
        · exact .inr (.inl h1)
        · exact .inr (.inr h1)
      · rintro (h1 | h1 | h1)
        · exact .inl (.inl h1)
        · exact .inl (.inr h1)
        · exact .inr h1
theorem addK_once (ks vs : List Str) : addK ks vs = ks ++ (onceF vs).filter fun z => !decide (z ∈ ks) := by
  suffices h : ∀ rs : List Str, addK ks rs.reverse = ks ++ (onceF rs.reverse).filter fun z => !decide (z ∈ ks) by
    have := h vs.reverse
    rwa [List.reverse_reverse] at this
  intro rs
  induction rs with
  | nil => simp [addK, onceF]
  | cons v rs ih =>
    rw [List.reverse_cons, onceF_snoc]
    generalize rs.reverse = vs at ih
    have e : addK ks (vs ++ [v]) = if v ∈ addK ks vs then addK ks vs else addK ks vs ++ [v] := by unfold addK; rw [List.foldl_append]; rfl
    rw [e, List.filter_append, ← List.append_assoc, ← ih]
    by_cases h1 : v ∈ ks
    · rw [if_pos (mem_addK.mpr (.inl h1))]
      by_cases h2 : v ∈ vs
      · simp [h2]
      · simp [h1, h2]
    · by_cases h2 : v ∈ vs
      · rw [if_pos (mem_addK.mpr (.inr h2))]; simp [h2]
      · rw [if_neg fun z => (mem_addK.mp z).elim h1 h2]; simp [h1, h2]
theorem onceF_mem {vs : List Str} {z : Str} (h : z ∈ onceF vs) : z ∈ vs := by
  obtain ⟨k, _, e⟩ := List.mem_filterMap.mp h
  unfold onceG at e
  cases hv : vs[k]? with
  | none => rw [hv] at e; cases e
  | some v =>
    rw [hv] at e
    dsimp only at e
    split at e
    · cases e
    · cases e; exact List.mem_of_getElem? hv
theorem onceF_len (vs : List Str) : (onceF vs).length ≤ vs.length := by
  have := List.length_filterMap_le (onceG vs) (List.range vs.length)
  rwa [List.length_range] at this
/-- the widths as the laws collect them -/
def widthsF (rel : List (Str × Int)) (rul : List (Str × Rul)) : List (Str × Int) := mergeG (rul.foldl (fun W u => putG W u.2.rel (u.2.hd.length : Int)) []) rel
end Ab
namespace Ab
open PySem PyProof.Rows L2
theorem kvW_none {W : List (Str × Int)} {z : Str} (h : valG W z = none) : valG (kvW W) (.inr z) = none := by
  have := valG_inr (fun i : Int => Sl.int i) z W
  rw [h] at this
  exact this
theorem w2_ixTn {K : PySem.W.Frag} {M : MH} {Q : Sl → MH → Prop} {ks : List Str} {i : Nat} (h : i < ks.length) (q : Q (.str ks[i]) M) : W2 K (rIxL K) (.dat (bnd ks)) (.int (i : Int)) M Q :=
  w2_ixL (x := .str ks[i]) lsv_dat (by rw [atI_map, atI_ok (by omega) (show (ks.map PyData.str)[((i : Int)).toNat]? = some (.str ks[i]) by rw [List.getElem?_map, Int.toNat_natCast, List.getElem?_eq_getElem h]; rfl)]; rfl) q
theorem wsl_take {K : PySem.W.Frag} {M : MH} {Q : Sl → MH → Prop} {ks : List Str} {i : Nat} (q : Q (.dat (bnd (ks.take i))) M) : WSl K (rSlL K) (.dat (bnd ks)) none (some (i : Int)) M Q :=
  wsl_lst lsv_dat (by rw [cutG_hi _ (by omega), Int.toNat_natCast, ← List.map_take]; exact q)
theorem kvW_put (W : List (Str × Int)) (z : Str) (n : Int) : putG (kvW W) (.inr z) (.int n) = kvW (putG W z n) := putG_inr (fun i : Int => Sl.int i) z n W
theorem kvW_merge : ∀ (W V : List (Str × Int)), mergeG (kvW W) (kvW V) = kvW (mergeG W V)
  | _, [] => rfl
  | W, p :: V => by
    show mergeG (putG (kvW W) (.inr p.1) (.int p.2)) (kvW V) = kvW (mergeG (putG W p.1 p.2) V)
    rw [kvW_put, kvW_merge]
theorem foldW_len (f : Str × Rul → Str × Int) : ∀ (rul : List (Str × Rul)) (W : List (Str × Int)), (rul.foldl (fun W u => putG W (f u).1 (f u).2) W).length ≤ W.length + rul.length
  | [], W => Nat.le_refl _
  | u :: rul, W => by
    have h1 := foldW_len f rul (putG W (f u).1 (f u).2)
    have h2 := putG_len W (f u).1 (f u).2
    rw [List.foldl_cons, List.length_cons]
    omega
/-- what the rules put, one after another -/
def putW (W : List (Str × Int)) (rul : List (Str × Rul)) : List (Str × Int) := rul.foldl (fun W u => putG W u.2.rel (u.2.hd.length : Int)) W
theorem putW_len (rul : List (Str × Rul)) : (putW [] rul).length ≤ rul.length := by
  have := foldW_len (fun u => (u.2.rel, (u.2.hd.length : Int))) rul []
  rwa [List.length_nil, Nat.zero_add] at this
theorem putW_snoc (W : List (Str × Int)) (rul : List (Str × Rul)) (u : Str × Rul) : putW W (rul ++ [u]) = putG (putW W rul) u.2.rel (u.2.hd.length : Int) := by unfold putW; rw [List.foldl_append]; rfl
end Ab
set_option Elab.async false
set_option linter.all false
set_option maxRecDepth 1000000
set_option  maxHeartbeats 4000000
namespace Ab
open PySem PyProof.Rows L2
theorem slks_at2 {F : PySem.W.Frag} {B : Hp} : ∀ {vs : List (Key × V)} {kvs : List (Key × Sl)} {i : Nat} {k : Key} {v : V}, SlKs F B vs kvs → vs[i]? = some (k, v) → ∃ s, kvs[i]? = some (k, s) ∧ SlOk F B v s
  | (k, v) :: _, (k', s) :: _, 0, _, _, .cons h t, e => by
    cases e
    have h1 : k = k' := h.1
    exact ⟨s, by rw [List.getElem?_cons_zero, h1], h.2⟩
  | _, _, i + 1, k, v, .cons _ t, e => by
    obtain ⟨s, h, o⟩ := slks_at2 (i := i) t (by simpa using e)
    exact ⟨s, by simpa using h, o⟩
section
variable {K : KX} {ρ : Rho} {M : MH} {td : TE}
theorem wi_vals {R : Nat → (Nat → Sl) → (MH → Prop) → MH → Prop} (h : W K td ρ M fun s M1 => ∃ a od v kvs, s = .raw (.ref a) ∧ M1 a = some (.frz od v (.dK kvs)) ∧ R kvs.length (fun i => (kvs.map fun q => q.2).getD i .non) (fun M2 => M2 a = some (.frz od v (.dK kvs))) M1) : WI K (iVals td) ρ M R := fun σ B H hR hS R0 k =>
  h σ B H hR hS _ fun s v0 M1 B1 H1 ⟨a, od, v, kvs, es, hM, q⟩ e1 S1 o1 => by
    subst es
    obtain rfl : v0 = .ref a := o1
    obtain ⟨_, u, hu, rfl, vs, rfl, hv⟩ := S1.has a _ hM
    have hl : vs.length = kvs.length := Paired.length hv
    refine ⟨a, od, vs, rfl, hu, k kvs.length _ _ M1 B1 H1 _ q e1 S1 ⟨fun i B2 M2 H2 hi e2 S2 st => ?_, fun i B2 M2 H2 x H3 hi e2 S2 st y => ?_, fun i B2 M2 H2 hi e2 S2 st => ?_⟩⟩
    · obtain ⟨_, u2, hu2, rfl, _⟩ := S2.has a _ st
      exact ⟨hu2, by omega⟩
    · obtain ⟨rfl, kk, hk⟩ := y
      obtain ⟨s, hs, o⟩ := slks_at2 hv hk
      refine ⟨B2, Same.refl _, S2, ?_⟩
      rw [List.getD_eq_getElem?_getD, List.getElem?_map, hs]
      exact o.mono e2
    · obtain ⟨_, u2, hu2, rfl, _⟩ := S2.has a _ st
      exact ⟨hu2, by omega⟩
end
end Ab
namespace Ab
open PySem PyProof.Rows L2
theorem SlAll.unsnoc {K : PySem.W.Frag} {B : Hp} {s : Sl} : ∀ {xs : List Sl} {ws : List V}, SlAll K B ws (xs ++ [s]) → ∃ us y, ws = us ++ [y] ∧ SlAll K B us xs ∧ SlOk K B y s
  | [], _, .cons o .nil => ⟨[], _, rfl, .nil, o⟩
  | _ :: _, _, .cons o t => by
    obtain ⟨us, y, rfl, h1, h2⟩ := SlAll.unsnoc t
    exact ⟨_ :: us, y, rfl, .cons o h1, h2⟩
/-- xs.pop() -/
theorem wm_pop {K : PySem.W.Frag} {M : MH} {Q : Sl → MH → Prop} {a : Addr} {xs : List Sl} {s : Sl} (h : M a = some (.lst (xs ++ [s]))) (q : Q s (um M a (.lst xs))) : WM K rPop (.raw (.ref a)) [] M Q := fun B H v vs hS o1 o2 Q0 k => by
  cases o2
  obtain ⟨_, u, hu, ws, rfl, ha⟩ := hS.has a _ h
  obtain ⟨us, y, rfl, h1, h2⟩ := SlAll.unsnoc ha
  obtain rfl : v = .ref a := o1
  exact ⟨a, us ++ [y], y, rfl, rfl, hu, by simp, k _ _ _ B _ q (Same.refl B) (by rw [List.dropLast_concat]; exact hS.put h ⟨_, rfl, h1⟩) h2⟩
end Ab
namespace Ab
open PySem PyProof.Rows L2
theorem wt_truL {K : KX} {ρ : Rho} {M : MH} {ta : TE} {Q : Bool → MH → Prop} (h : W K ta ρ M fun s M1 => ∃ a xs, s = .raw (.ref a) ∧ M1 a = some (.lst xs) ∧ Q (!xs.isEmpty) M1) : WT K (fun σ H Q => ta σ H fun x H' => ∃ k, TruV K.K x H' k ∧ Q k H') ρ M Q := fun σ B H hR hS Q0 k =>
  h σ B H hR hS _ fun s v M1 B1 H1 ⟨a, xs, es, hM, q⟩ e1 S1 o1 => by
    subst es
    obtain ⟨a', vs, rfl, hq, ha⟩ := (lsv_ref (K := K.K) hM).get S1 o1
    refine ⟨!vs.isEmpty, .inl ⟨vs, hq, rfl⟩, k _ M1 B1 H1 ?_ e1 S1⟩
    have e : vs.isEmpty = xs.isEmpty := by
      have := SlAll.len ha
      cases vs <;> cases xs <;> simp_all
    rw [e]
    exact q
end Ab
set_option Elab.async false
set_option linter.all false
set_option maxRecDepth 1000000
set_option  maxHeartbeats 4000000
namespace Ab
open PySem PyProof.Rows L2
def relF : Lit → Option (Str × Bool)
  | .fact r _ => some (r, false)
  | .neg r _ => some (r, true)
  | .count _ r _ => some (r, true)
  | _ => none
def relsOf (b : List Lit) : List (Str × Bool) := b.filterMap relF
abbrev encE (p : Str × Bool) : PyData := .tuple [.str p.1, .bool p.2]
theorem relsOf_len (b : List Lit) : (relsOf b).length ≤ b.length := List.length_filterMap_le ..
theorem relsOf_snoc (b : List Lit) (l : Lit) : relsOf (b ++ [l]) = relsOf b ++ (match relF l with | some p => [p] | none => []) := by
  unfold relsOf
  rw [List.filterMap_append, List.filterMap_cons, List.filterMap_nil]
  cases relF l <;> rfl
theorem relsOf_good {b : List Lit} (h : ∀ l ∈ b, l.ok) : ∀ p ∈ relsOf b, goodS p.1 = true := fun p hp => by
  obtain ⟨l, hl, e⟩ := List.mem_filterMap.mp hp
  cases l with
  | fact r ts => cases e; exact (h _ hl).1
  | neg r ts => cases e; exact (h _ hl).1
  | compare op s t => cases e
  | is x op s t => cases e
  | count x r ts => cases e; exact (h _ hl).2.1
/-- is a variable made by arithmetic? -/
def makesE : List Str → List Lit → Bool
  | _, [] => false
  | k, .is x _ _ _ :: b => if x ∈ k then makesE k b else true
  | k, l :: b => makesE (k ++ bindsF l) b
theorem makesE_mem : ∀ {b : List Lit} {k k' : List Str}, (∀ z, z ∈ k ↔ z ∈ k') → makesE k b = makesE k' b
  | [], _, _, _ => rfl
  | l :: b, k, k', h => by
    have step : ∀ vs : List Str, makesE (k ++ vs) b = makesE (k' ++ vs) b := fun vs => makesE_mem fun z => by rw [List.mem_append, List.mem_append, h z]
    cases l with
    | is x op s t =>
      show (if x ∈ k then makesE k b else true) = if x ∈ k' then makesE k' b else true
      by_cases hx : x ∈ k
      · rw [if_pos hx, if_pos ((h x).mp hx)]; exact makesE_mem h
      · rw [if_neg hx, if_neg fun z => hx ((h x).mpr z)]
    | fact r ts => exact step _
    | neg r ts => exact step _
    | compare op s t => exact step _
    | count x r ts => exact step _
/-- the law's way: names may stand twice -/
theorem makesE_is {x op : Str} {s t : Term} {k : List Str} {b : List Lit} (h : x ∈ k) : makesE k (.is x op s t :: b) = makesE (k ++ [x]) b := by
  show (if x ∈ k then makesE k b else true) = _
  rw [if_pos h]
  exact makesE_mem fun z => by
    rw [List.mem_append, List.mem_singleton]
    exact ⟨.inl, fun e => e.elim id fun e => e ▸ h⟩
/-- z in a tuple of texts -/
theorem w2_inTT {K : PySem.W.Frag} {M : MH} {Q : Sl → MH → Prop} {z : Str} {ks : List Str} (h1 : goodS z = true) (h2 : ∀ y ∈ ks, goodS y = true) (h3 : ks.length ≤ 1000000) (q : Q (.bl (decide (z ∈ ks))) M) : W2 K (rInTp K) (.str z) (.dat (.tuple (ks.map .str))) M Q := by
  refine w2_inTp (d := .str z) (ds := ks.map .str) (shaped_str (goodS_ok h1)) (okD_shaped (n := 1) (okD_mkT (by rw [List.length_map]; exact h3) (okAll_of fun d hd => ?_)) (by decide)) ?_
  · obtain ⟨y, hy, rfl⟩ := List.mem_map.mp hd
    exact okD_str (goodS_ok (h2 y hy))
  · rw [any_strs]
    exact q
end Ab
set_option Elab.async false
set_option linter.all false
set_option maxRecDepth 1000000
set_option  maxHeartbeats 4000000
namespace Ab
open PySem PyProof.Rows L2
theorem putG_new {κ β : Type} [DecidableEq κ] {l : List (κ × β)} {k : κ} (h : k ∉ l.map (·.1)) (v : β) : putG l k v = l ++ [(k, v)] := by
  unfold putG
  rw [if_neg]
  intro z
  obtain ⟨p, hp, e⟩ := List.any_eq_true.mp z
  exact h (List.mem_map.mpr ⟨p, hp, of_decide_eq_true e⟩)
end Ab
set_option Elab.async false
set_option linter.all false
set_option maxRecDepth 1000000
set_option  maxHeartbeats 4000000
namespace Ab
open PySem PyProof.Rows L2
abbrev Gr := List (Str × List (Str × Bool))
def addE (G : Gr) (u : Rul) : Gr := putG G u.rel ((valG G u.rel).getD [] ++ relsOf u.b)
def edgesF (us : List Rul) : Gr := us.foldl addE []
theorem edgesF_snoc (us : List Rul) (u : Rul) : edgesF (us ++ [u]) = addE (edgesF us) u := by unfold edgesF; rw [List.foldl_append]; rfl
abbrev kvA (fa : List (Str × Addr)) : List (Key × Sl) := fa.map fun p => (.inr p.1, .raw (.ref p.2))
abbrev lsE (es : List (Str × Bool)) : MO := .lst (es.map fun e => .dat (encE e))
structure GrAt (M : MH) (g : Addr) (fa : List (Str × Addr)) (G : Gr) : Prop where
  at_ : M g = some (.dK (kvA fa))
  keys : fa.map (·.1) = G.map (·.1)
  rows : ∀ n a, valG fa n = some a → ∃ es, valG G n = some es ∧ M a = some (lsE es)
  inj : ∀ n n' a, valG fa n = some a → valG fa n' = some a → n = n'
structure GrFr (M N : MH) (g : Addr) (fa : List (Str × Addr)) : Prop where
  e : ∀ b u, M b = some u → N b = some u ∧ b ≠ g ∧ ∀ n, valG fa n ≠ some b
theorem GrAt.miss {M : MH} {g : Addr} {fa : List (Str × Addr)} {G : Gr} (h : GrAt M g fa G) {n : Str} (e : valG fa n = none) : valG G n = none := by
  have h1 := valG_isSome n fa
  have h2 := valG_isSome n G
  rw [e, h.keys, ← h2] at h1
  cases hv : valG G n with
  | none => rfl
  | some x => rw [hv] at h1; cases h1
theorem GrAt.off {M : MH} {g : Addr} {fa : List (Str × Addr)} {G : Gr} (h : GrAt M g fa G) {n : Str} {a : Addr} (e : valG fa n = some a) : a ≠ g := fun z => by
  obtain ⟨es, _, h2⟩ := h.rows n a e
  rw [z, h.at_] at h2
  cases h2
theorem GrAt.old {M : MH} {g : Addr} {fa : List (Str × Addr)} {G : Gr} (h : GrAt M g fa G) {n : Str} {a : Addr} (e : valG fa n = some a) (es : List (Str × Bool)) : GrAt (um M a (lsE es)) g fa (putG G n es) := by
  have ag := h.off e
  obtain ⟨es0, e0, _⟩ := h.rows n a e
  have hin : n ∈ G.map (·.1) := by rw [← h.keys]; exact List.mem_map.mpr ⟨_, valG_mem e, rfl⟩
  refine ⟨by rw [um_ne ag.symm]; exact h.at_, by rw [putG_keys, if_pos hin]; exact h.keys, fun n' a' e' => ?_, h.inj⟩
  rw [valG_put]
  by_cases en : n = n'
  · subst en
    rw [e] at e'
    cases e'
    exact ⟨es, by rw [if_pos rfl], um_same⟩
  · rw [if_neg en]
    have : a' ≠ a := fun z => en (h.inj _ _ _ e (by rw [← z]; exact e'))
    obtain ⟨es', h1, h2⟩ := h.rows n' a' e'
    exact ⟨es', h1, by rw [um_ne this]; exact h2⟩
theorem GrAt.new {M : MH} {g : Addr} {fa : List (Str × Addr)} {G : Gr} (h : GrAt M g fa G) {n : Str} {p : Addr} (e : valG fa n = none) (hp : M p = none) (es : List (Str × Bool)) : GrAt (um (um M p (lsE es)) g (.dK (kvA (putG fa n p)))) g (putG fa n p) (putG G n es) := by
  have pg : p ≠ g := fun z => by rw [z, h.at_] at hp; cases hp
  have hn : ∀ n', valG fa n' ≠ some p := fun n' z => by
    obtain ⟨es', _, h2⟩ := h.rows n' p z
    rw [hp] at h2; cases h2
  refine ⟨um_same, by rw [putG_keys, putG_keys, h.keys], fun n' a' e' => ?_, fun n1 n2 a' e1 e2 => ?_⟩
  · rw [valG_put] at e' ⊢
    by_cases en : n = n'
    · rw [if_pos en] at e' ⊢
      cases e'
      exact ⟨es, rfl, by rw [um_ne pg, um_same]⟩
    · rw [if_neg en] at e' ⊢
      obtain ⟨es', h1, h2⟩ := h.rows n' a' e'
      have a1 : a' ≠ p := fun z => hn n' (by rw [← z]; exact e')
      exact ⟨es', h1, by rw [um_ne (h.off e'), um_ne a1]; exact h2⟩
  · rw [valG_put] at e1 e2
    by_cases c1 : n = n1 <;> by_cases c2 : n = n2
    · rw [← c1, ← c2]
    · rw [if_pos c1] at e1; rw [if_neg c2] at e2; cases e1; exact absurd e2 (hn n2)
    · rw [if_neg c1] at e1; rw [if_pos c2] at e2; cases e2; exact absurd e1 (hn n1)
    · rw [if_neg c1] at e1; rw [if_neg c2] at e2; exact h.inj _ _ _ e1 e2
theorem GrAt.umP {M : MH} {g : Addr} {fa : List (Str × Addr)} {G : Gr} (h : GrAt M g fa G) {p : Addr} {x : MO} (h1 : p ≠ g) (h2 : ∀ n, valG fa n ≠ some p) : GrAt (um M p x) g fa G := by
  refine ⟨by rw [um_ne h1.symm]; exact h.at_, h.keys, fun n a e => ?_, h.inj⟩
  obtain ⟨es, e1, e2⟩ := h.rows n a e
  exact ⟨es, e1, by rw [um_ne fun z => h2 n (by rw [← z]; exact e)]; exact e2⟩
theorem GrAt.fresh {M : MH} {g : Addr} {fa : List (Str × Addr)} {G : Gr} (h : GrAt M g fa G) {p : Addr} (hp : M p = none) : p ≠ g ∧ ∀ n, valG fa n ≠ some p := by
  refine ⟨fun z => (by rw [z, h.at_] at hp; cases hp), fun n z => ?_⟩
  obtain ⟨es, _, h2⟩ := h.rows n p z
  rw [hp] at h2
  cases h2
/-- how long they are -/
theorem edgesF_len : ∀ us : List Rul, (∀ u ∈ us, okB u.b) → (∀ n es, valG (edgesF us) n = some es → es.length ≤ 1000 * us.length) ∧ (edgesF us).length ≤ us.length := fun us => by
  suffices h : ∀ rs : List Rul, (∀ u ∈ rs.reverse, okB u.b) → (∀ n es, valG (edgesF rs.reverse) n = some es → es.length ≤ 1000 * rs.reverse.length) ∧ (edgesF rs.reverse).length ≤ rs.reverse.length by
    have := h us.reverse
    rwa [List.reverse_reverse] at this
  intro rs
  induction rs with
  | nil => exact fun _ => ⟨fun n es h => (by cases h), Nat.le_refl _⟩
  | cons u rs ih =>
    intro hu
    rw [List.reverse_cons] at hu ⊢
    generalize rs.reverse = us at ih hu
    obtain ⟨i1, i2⟩ := ih fun v hv => hu v (List.mem_append_left _ hv)
    have ub := hu u (by simp)
    have rl := relsOf_len u.b
    have bl := ub.1
    rw [edgesF_snoc]
    unfold addE
    refine ⟨fun n es h => ?_, ?_⟩
    · rw [valG_put] at h
      rw [List.length_append, List.length_cons, List.length_nil]
      by_cases c : u.rel = n
      · rw [if_pos c] at h
        cases h
        rw [List.length_append]
        cases e : valG (edgesF us) u.rel with
        | none => simp only [Option.getD_none, List.length_nil]; omega
        | some x => have := i1 _ x e; simp only [Option.getD_some]; omega
      · rw [if_neg c] at h
        have := i1 n es h
        omega
    · have := putG_len (edgesF us) u.rel ((valG (edgesF us) u.rel).getD [] ++ relsOf u.b)
      rw [List.length_append, List.length_cons, List.length_nil]
      omega
end Ab
namespace Ab
theorem putG_two {κ β : Type} [DecidableEq κ] {l : List (κ × β)} {k : κ} (h : k ∉ l.map (·.1)) (v w : β) : putG (putG l k v) k w = putG l k w := by
  rw [putG_new h, putG_new h]
  unfold putG
  rw [if_pos (by simp), List.map_append]
  congr 1
  · conv => rhs; rw [← List.map_id l]
    refine List.map_congr_left fun p hp => ?_
    rw [if_neg fun e => h (by rw [← e]; exact List.mem_map.mpr ⟨p, hp, rfl⟩)]
    rfl
  · simp
end Ab
namespace Ab
open PySem PyProof.Rows L2
/-- what was there stays, but the dict held fast at ul -/
structure FzE (M N : MH) (ul g : Addr) (z : MO) (fa : List (Str × Addr)) : Prop where
  z : N ul = some z
  n : ∀ n, valG fa n ≠ some ul
  e : ∀ b u, M b = some u → (b ≠ ul → N b = some u) ∧ b ≠ g ∧ ∀ n, valG fa n ≠ some b
theorem FzE.fresh {M N : MH} {ul g : Addr} {z : MO} {fa : List (Str × Addr)} (h : FzE M N ul g z fa) {p : Addr} {x : MO} (hp : N p = none) : FzE M (um N p x) ul g z fa :=
  ⟨by rw [um_ne fun e => by rw [← e, h.z] at hp; cases hp]; exact h.z, h.n, fun b u hb => ⟨fun bu => by
    have h1 := (h.e b u hb).1 bu
    rw [um_ne fun e => by rw [← e, h1] at hp; cases hp]
    exact h1, (h.e b u hb).2⟩⟩
theorem FzE.row {M N : MH} {ul g : Addr} {z : MO} {fa : List (Str × Addr)} (h : FzE M N ul g z fa) {k : Str} {a : Addr} {x : MO} (ha : valG fa k = some a) : FzE M (um N a x) ul g z fa :=
  ⟨by rw [um_ne fun e => h.n k (by rw [e]; exact ha)]; exact h.z, h.n, fun b u hb => ⟨fun bu => by
    rw [um_ne fun e => (h.e b u hb).2.2 k (by rw [e]; exact ha)]
    exact (h.e b u hb).1 bu, (h.e b u hb).2⟩⟩
theorem FzE.new {M N : MH} {ul g : Addr} {z : MO} {fa : List (Str × Addr)} (h : FzE M N ul g z fa) (hug : ul ≠ g) {k : Str} {p : Addr} {x y : MO} (hp : N p = none) : FzE M (um (um N p x) g y) ul g z (putG fa k p) := by
  have h1 := h.fresh (x := x) hp
  have np : ∀ b, N b ≠ none → b ≠ p := fun b hb e => hb (by rw [e]; exact hp)
  refine ⟨by rw [um_ne hug]; exact h1.z, fun n e => ?_, fun b u hb => ⟨fun bu => ?_, (h.e b u hb).2.1, fun n e => ?_⟩⟩
  · rw [valG_put] at e
    split at e
    · cases e
      rw [h.z] at hp
      cases hp
    · exact h.n n e
  · rw [um_ne (h.e b u hb).2.1]
    exact (h1.e b u hb).1 bu
  · rw [valG_put] at e
    split at e
    · cases e
      by_cases bu : p = ul
      · rw [bu, h.z] at hp; cases hp
      · rw [(h.e p u hb).1 bu] at hp; cases hp
    · exact (h.e b u hb).2.2 n e
end Ab
namespace Ab
open PySem PyProof.Rows L2
def Edge (G : Gr) (x y : Str) : Prop := ∃ es b, valG G x = some es ∧ (y, b) ∈ es
/-- one step or more -/
inductive Rch (G : Gr) : Str → Str → Prop
  | one {x y} : Edge G x y → Rch G x y
  | more {x y z} : Rch G x y → Edge G y z → Rch G x z
/-- all that edges lead to -/
def tgts (G : Gr) : List Str := G.flatMap fun p => p.2.map (·.1)
structure GrOk (G : Gr) : Prop where
  g : ∀ z ∈ tgts G, goodS z = true
  l : (tgts G).length ≤ 100000
  r : ∀ n es, valG G n = some es → es.length ≤ 100000
theorem Edge.tgt {G : Gr} {x y : Str} (h : Edge G x y) : y ∈ tgts G := by
  obtain ⟨es, b, e, hm⟩ := h
  exact List.mem_flatMap.mpr ⟨_, valG_mem e, List.mem_map.mpr ⟨_, hm, rfl⟩⟩
/-- where the search stands: what is found was reached; what is found (or begun from) and not to be done is done -/
structure Srch (G : Gr) (r : Str) (fs td : List Str) : Prop where
  nd : fs.Nodup
  rc : ∀ x ∈ fs, Rch G r x
  sb : ∀ x ∈ td, x = r ∨ x ∈ fs
  dn : ∀ x, x = r ∨ x ∈ fs → x ∉ td → ∀ y, Edge G x y → y ∈ fs
theorem Rch.tgt {G : Gr} {x y : Str} (h : Rch G x y) : y ∈ tgts G := by
  cases h with
  | one h => exact h.tgt
  | more _ h => exact h.tgt
theorem nodup_le {α : Type} [DecidableEq α] : ∀ {xs ys : List α}, xs.Nodup → (∀ x ∈ xs, x ∈ ys) → xs.length ≤ ys.length
  | [], _, _, _ => Nat.zero_le _
  | x :: xs, ys, h, hs => by
    rw [List.nodup_cons] at h
    have h1 := nodup_le (ys := ys.erase x) h.2 fun z hz => (List.mem_erase_of_ne fun e => h.1 (by rw [← e]; exact hz)).mpr (hs z (List.mem_cons_of_mem _ hz))
    have hx := hs x List.mem_cons_self
    have := List.length_erase_of_mem hx
    have hp := List.length_pos_of_mem hx
    rw [List.length_cons]
    omega
theorem Srch.le {G : Gr} {r : Str} {fs td : List Str} (h : Srch G r fs td) : fs.length ≤ (tgts G).length := nodup_le h.nd fun x hx => (h.rc x hx).tgt
theorem Srch.fin {G : Gr} {r : Str} {fs : List Str} (h : Srch G r fs []) (x : Str) : x ∈ fs ↔ Rch G r x := by
  refine ⟨h.rc x, fun hr => ?_⟩
  induction hr with
  | one e => exact h.dn _ (.inl rfl) (fun z => nomatch z) _ e
  | more _ e ih => exact h.dn _ (.inr ih) (fun z => nomatch z) _ e
end Ab
namespace Ab
open PySem PyProof.Rows L2
/-- within the work at x -/
structure SrchI (G : Gr) (r x : Str) (pre : List (Str × Bool)) (fs td : List Str) : Prop where
  nd : fs.Nodup
  rc : ∀ z ∈ fs, Rch G r z
  sb : ∀ z ∈ td, z = r ∨ z ∈ fs
  dn : ∀ z, z = r ∨ z ∈ fs → z ∉ td → z ≠ x → ∀ y, Edge G z y → y ∈ fs
  pr : ∀ p ∈ pre, p.1 ∈ fs
  xr : x = r ∨ x ∈ fs
theorem Srch.pop {G : Gr} {r x : Str} {fs td : List Str} (h : Srch G r fs (td ++ [x])) : SrchI G r x [] fs td :=
  ⟨h.nd, h.rc, fun z hz => h.sb z (List.mem_append_left _ hz), fun z hz h1 h2 y e => h.dn z hz (fun m => (List.mem_append.mp m).elim h1 fun m => h2 (List.mem_singleton.mp m)) y e, fun _ hp => (nomatch hp), h.sb x (by simp)⟩
theorem SrchI.skip {G : Gr} {r x : Str} {pre : List (Str × Bool)} {fs td : List Str} (h : SrchI G r x pre fs td) {p : Str × Bool} (hp : p.1 ∈ fs) : SrchI G r x (pre ++ [p]) fs td :=
  ⟨h.nd, h.rc, h.sb, h.dn, fun e he => (List.mem_append.mp he).elim (h.pr e) fun he => by rw [List.mem_singleton.mp he]; exact hp, h.xr⟩
theorem SrchI.add {G : Gr} {r x : Str} {pre : List (Str × Bool)} {fs td : List Str} (h : SrchI G r x pre fs td) {p : Str × Bool} (he : Edge G x p.1) (hp : p.1 ∉ fs) : SrchI G r x (pre ++ [p]) (fs ++ [p.1]) (td ++ [p.1]) := by
  refine ⟨?_, fun z hz => ?_, fun z hz => ?_, fun z hz h1 h2 y e => ?_, fun e he => ?_, h.xr.imp id (List.mem_append_left _)⟩
  · rw [List.nodup_append]
    refine ⟨h.nd, by simp, fun a ha b hb e => ?_⟩
    rw [List.mem_singleton.mp hb] at e
    exact hp (by rw [← e]; exact ha)
  · rcases List.mem_append.mp hz with hz | hz
    · exact h.rc z hz
    · rw [List.mem_singleton.mp hz]
      rcases h.xr with e | e
      · exact .one (by rw [← e]; exact he)
      · exact .more (h.rc x e) he
  · rcases List.mem_append.mp hz with hz | hz
    · exact (h.sb z hz).imp id (List.mem_append_left _)
    · exact .inr (List.mem_append_right _ hz)
  · have h1' : z ∉ td := fun m => h1 (List.mem_append_left _ m)
    have hz' : z = r ∨ z ∈ fs := by
      rcases hz with hz | hz
      · exact .inl hz
      · rcases List.mem_append.mp hz with hz | hz
        · exact .inr hz
        · exact absurd (List.mem_append_right _ hz) h1
    exact List.mem_append_left _ (h.dn z hz' h1' h2 y e)
  · rcases List.mem_append.mp he with he | he
    · exact List.mem_append_left _ (h.pr e he)
    · rw [List.mem_singleton.mp he]
      exact List.mem_append_right _ (List.mem_singleton.mpr rfl)
theorem SrchI.done {G : Gr} {r x : Str} {fs td : List Str} (h : SrchI G r x ((valG G x).getD []) fs td) : Srch G r fs td := by
  refine ⟨h.nd, h.rc, h.sb, fun z hz h1 y e => ?_⟩
  by_cases c : z = x
  · subst c
    obtain ⟨es, b, e1, hm⟩ := e
    refine h.pr (y, b) ?_
    rw [e1]
    exact hm
  · exact h.dn z hz h1 c y e
theorem Srch.start (G : Gr) (r : Str) : Srch G r [] [r] := ⟨List.nodup_nil, fun _ h => (nomatch h), fun x hx => .inl (List.mem_singleton.mp hx), fun x hx hn => absurd (hx.elim (fun e => by rw [e]; exact List.mem_singleton.mpr rfl) fun h => (nomatch h)) hn⟩
end Ab
namespace Ab
open PySem PyProof.Rows L2
/-- a graph that is only read (it may be held fast) -/
structure GrRd (M : MH) (g : Addr) (fa : List (Str × Addr)) (G : Gr) : Prop where
  at_ : M g = some (.dK (kvA fa)) ∨ ∃ od v, M g = some (.frz od v (.dK (kvA fa)))
  keys : fa.map (·.1) = G.map (·.1)
  rows : ∀ n a, valG fa n = some a → ∃ es, valG G n = some es ∧ M a = some (lsE es)
theorem GrRd.has {M : MH} {g : Addr} {fa : List (Str × Addr)} {G : Gr} (h : GrRd M g fa G) : M g ≠ none := fun z => by
  rcases h.at_ with h | ⟨od, v, h⟩ <;> rw [z] at h <;> cases h
theorem GrRd.dcv {K : PySem.W.Frag} {M : MH} {g : Addr} {fa : List (Str × Addr)} {G : Gr} (h : GrRd M g fa G) : DcV K (.raw (.ref g)) M (kvA fa) := by
  rcases h.at_ with h | ⟨od, v, h⟩
  · exact dcv_ref h
  · exact dcv_frz h
theorem GrAt.rd {M : MH} {g : Addr} {fa : List (Str × Addr)} {G : Gr} (h : GrAt M g fa G) : GrRd M g fa G := ⟨.inl h.at_, h.keys, h.rows⟩
theorem GrAt.held {M : MH} {g : Addr} {fa : List (Str × Addr)} {G : Gr} (h : GrAt M g fa G) (od : Obj) (v : HO) : GrRd (um M g (.frz od v (.dK (kvA fa)))) g fa G := by
  refine ⟨.inr ⟨od, v, um_same⟩, h.keys, fun n a e => ?_⟩
  obtain ⟨es, h1, h2⟩ := h.rows n a e
  exact ⟨es, h1, by rw [um_ne (h.off e)]; exact h2⟩
theorem GrRd.miss {M : MH} {g : Addr} {fa : List (Str × Addr)} {G : Gr} (h : GrRd M g fa G) {n : Str} (e : valG fa n = none) : valG G n = none := by
  have h1 := valG_isSome n fa
  have h2 := valG_isSome n G
  rw [e, h.keys, ← h2] at h1
  cases hv : valG G n with
  | none => rfl
  | some x => rw [hv] at h1; cases h1
theorem GrRd.fresh {M : MH} {g : Addr} {fa : List (Str × Addr)} {G : Gr} (h : GrRd M g fa G) {p : Addr} (hp : M p = none) : p ≠ g ∧ ∀ n, valG fa n ≠ some p := by
  refine ⟨fun z => h.has (by rw [← z]; exact hp), fun n z => ?_⟩
  obtain ⟨es, _, h2⟩ := h.rows n p z
  rw [hp] at h2
  cases h2
theorem GrRd.ext {M N : MH} {g : Addr} {fa : List (Str × Addr)} {G : Gr} (h : GrRd M g fa G) (e : ∀ b u, M b = Option.some u → N b = Option.some u) : GrRd N g fa G := by
  refine ⟨h.at_.imp (e _ _) fun ⟨od, v, h⟩ => ⟨od, v, e _ _ h⟩, h.keys, fun n a ha => ?_⟩
  obtain ⟨es, h1, h2⟩ := h.rows n a ha
  exact ⟨es, h1, e _ _ h2⟩
theorem GrRd.umP {M : MH} {g : Addr} {fa : List (Str × Addr)} {G : Gr} (h : GrRd M g fa G) {p : Addr} {x : MO} (h1 : p ≠ g) (h2 : ∀ n, valG fa n ≠ Option.some p) : GrRd (um M p x) g fa G := by
  refine ⟨by rw [um_ne h1.symm]; exact h.at_, h.keys, fun n a e => ?_⟩
  obtain ⟨es, e1, e2⟩ := h.rows n a e
  exact ⟨es, e1, by rw [um_ne fun z => h2 n (by rw [← z]; exact e)]; exact e2⟩
end Ab
namespace Ab
open PySem PyProof.Rows L2
theorem putG_old {κ β : Type} [DecidableEq κ] {k : κ} {v : β} : ∀ {l : List (κ × β)}, (l.map (·.1)).Nodup → k ∈ l.map (·.1) → ∃ a b x, l = a ++ (k, x) :: b ∧ putG l k v = a ++ (k, v) :: b ∧ valG l k = some x
  | [], _, h => nomatch h
  | (j, x) :: l, nd, h => by
    rw [List.map_cons, List.nodup_cons] at nd
    by_cases c : j = k
    · subst c
      refine ⟨[], l, x, rfl, ?_, by rw [valG_cons, if_pos rfl]⟩
      unfold putG
      rw [if_pos (by simp), List.map_cons, if_pos rfl]
      congr 1
      conv => rhs; rw [← List.map_id l]
      refine List.map_congr_left fun p hp => ?_
      rw [if_neg fun e => nd.1 (List.mem_map.mpr ⟨p, hp, e⟩)]
      rfl
    · have h' : k ∈ l.map (·.1) := by
        rw [List.map_cons, List.mem_cons] at h
        exact h.resolve_left fun e => c e.symm
      obtain ⟨a, b, y, e1, e2, e3⟩ := putG_old (v := v) nd.2 h'
      refine ⟨(j, x) :: a, b, y, by rw [e1]; rfl, ?_, by rw [valG_cons, if_neg c]; exact e3⟩
      have hany : (l.any fun kv => decide (kv.1 = k)) = true := by
        obtain ⟨p, hp, e⟩ := List.mem_map.mp h'
        exact List.any_eq_true.mpr ⟨p, hp, decide_eq_true e⟩
      unfold putG at e2 ⊢
      rw [if_pos hany] at e2
      rw [if_pos (by rw [List.any_cons, hany, Bool.or_true]), List.map_cons, if_neg c, e2]
      rfl
end Ab
namespace Ab
open PySem PyProof.Rows L2
theorem addE_tgts {G : Gr} {u : Rul} (nd : (G.map (·.1)).Nodup) : (tgts (addE G u)).length = (tgts G).length + (relsOf u.b).length ∧ ∀ z, z ∈ tgts (addE G u) ↔ z ∈ tgts G ∨ z ∈ (relsOf u.b).map (·.1) := by
  unfold addE
  by_cases h : u.rel ∈ G.map (·.1)
  · obtain ⟨a, b, x, e1, e2, e3⟩ := putG_old (v := (valG G u.rel).getD [] ++ relsOf u.b) nd h
    rw [e2, e3]
    unfold tgts
    rw [e1]
    constructor
    · simp [List.flatMap_append, List.flatMap_cons]
      omega
    · intro z
      simp only [List.flatMap_append, List.flatMap_cons, List.mem_append, Option.getD_some, List.map_append]
      constructor
      · rintro (h | (h | h) | h)
        · exact .inl (.inl h)
        · exact .inl (.inr (.inl h))
        · exact .inr h
        · exact .inl (.inr (.inr h))
      · rintro ((h | h | h) | h)
        · exact .inl h
        · exact .inr (.inl (.inl h))
        · exact .inr (.inr h)
        · exact .inr (.inl (.inr h))
  · have e : valG G u.rel = none := by
      have h2 := valG_isSome u.rel G
      rw [decide_eq_false h] at h2
      cases hv : valG G u.rel with
      | none => rfl
      | some x => rw [hv] at h2; cases h2
    rw [putG_new h, e]
    unfold tgts
    constructor
    · simp [List.flatMap_append, List.flatMap_cons]
    · intro z
      simp [List.flatMap_append, List.flatMap_cons]
theorem edgesF_nd (us : List Rul) : ((edgesF us).map (·.1)).Nodup := by
  suffices h : ∀ rs : List Rul, ((edgesF rs.reverse).map (·.1)).Nodup by
    have := h us.reverse
    rwa [List.reverse_reverse] at this
  intro rs
  induction rs with
  | nil => exact List.nodup_nil
  | cons u rs ih =>
    rw [List.reverse_cons, edgesF_snoc]
    exact putG_nodup ih _ _
theorem edgesF_tgts (us : List Rul) (hu : ∀ u ∈ us, okB u.b) : (tgts (edgesF us)).length ≤ 1000 * us.length ∧ ∀ z ∈ tgts (edgesF us), goodS z = true := by
  suffices h : ∀ rs : List Rul, (∀ u ∈ rs.reverse, okB u.b) → (tgts (edgesF rs.reverse)).length ≤ 1000 * rs.reverse.length ∧ ∀ z ∈ tgts (edgesF rs.reverse), goodS z = true by
    have := h us.reverse
    rw [List.reverse_reverse] at this
    exact this hu
  intro rs
  induction rs with
  | nil => exact fun _ => ⟨Nat.le_refl _, fun _ h => nomatch h⟩
  | cons u rs ih =>
    intro hu
    rw [List.reverse_cons] at hu ⊢
    have nd := edgesF_nd rs.reverse
    generalize rs.reverse = us at ih hu nd
    obtain ⟨i1, i2⟩ := ih fun v hv => hu v (List.mem_append_left _ hv)
    have ub := hu u (by simp)
    have rl := relsOf_len u.b
    have bl := ub.1
    rw [edgesF_snoc]
    obtain ⟨a1, a2⟩ := addE_tgts (u := u) nd
    refine ⟨by rw [a1, List.length_append, List.length_cons, List.length_nil]; omega, fun z hz => ?_⟩
    rcases (a2 z).mp hz with h | h
    · exact i2 z h
    · obtain ⟨p, hp, rfl⟩ := List.mem_map.mp h
      exact relsOf_good ub.2 p hp
theorem edgesF_ok {us : List Rul} (hu : ∀ u ∈ us, okB u.b) (hl : us.length ≤ 100) : GrOk (edgesF us) := by
  obtain ⟨t1, t2⟩ := edgesF_tgts us hu
  obtain ⟨l1, _⟩ := edgesF_len us hu
  exact ⟨t2, by omega, fun n es e => by have := l1 n es e; omega⟩
end Ab
namespace Ab
theorem edgesF_keys (us : List Rul) : ∀ n ∈ (edgesF us).map (·.1), ∃ u ∈ us, u.rel = n := by
  suffices h : ∀ rs : List Rul, ∀ n ∈ (edgesF rs.reverse).map (·.1), ∃ u ∈ rs.reverse, u.rel = n by
    have := h us.reverse
    rwa [List.reverse_reverse] at this
  intro rs
  induction rs with
  | nil => exact fun n h => nomatch h
  | cons u rs ih =>
    rw [List.reverse_cons, edgesF_snoc]
    generalize rs.reverse = us at ih
    intro n hn
    unfold addE at hn
    rw [putG_keys] at hn
    have old : n ∈ (edgesF us).map (·.1) → ∃ v ∈ us ++ [u], v.rel = n := fun h => by
      obtain ⟨v, hv, e⟩ := ih n h
      exact ⟨v, List.mem_append_left _ hv, e⟩
    split at hn
    · exact old hn
    · rcases List.mem_append.mp hn with h | h
      · exact old h
      · exact ⟨u, by simp, (List.mem_singleton.mp h).symm⟩
end Ab
set_option Elab.async false
set_option linter.all false
set_option maxRecDepth 1000000
set_option  maxHeartbeats 4000000
namespace Ab
open PySem PyProof.Rows L2
theorem atomP_txt {cols : Str → Option Int} {r : Str} {ts : List Term} {p : List Str} (hr : goodS r = true) (h : atomP cols r ts = some p) : p.length ≤ 3 ∧ ∀ z ∈ p, PyData.strOk z = true := by
  unfold atomP at h
  cases e : cols r with
  | none =>
    rw [e] at h
    cases h
    exact ⟨by simp, fun z hz => by simp only [List.mem_cons, List.not_mem_nil, or_false] at hz; rcases hz with rfl | rfl; decide +kernel; exact goodS_ok hr⟩
  | some n =>
    rw [e] at h
    dsimp only at h
    split at h
    · cases h
    · cases h
      exact ⟨by simp, fun z hz => by simp only [List.mem_cons, List.not_mem_nil, or_false] at hz; rcases hz with rfl | rfl; decide +kernel; exact goodS_ok hr⟩
theorem termsP_txt {ks : List Str} {any : Bool} {ts : List Term} {p : List Str} (ht : ∀ t ∈ ts, t.ok) (h : termsP ks any ts = some p) : p.length ≤ 3 ∧ ∀ z ∈ p, PyData.strOk z = true := by
  unfold termsP at h
  obtain ⟨t, hm, e⟩ := List.exists_of_findSome?_eq_some h
  cases t with
  | any =>
    have e' : (if any = true then none else some [("any" : Str)]) = some p := e
    by_cases h : any = true
    · rw [if_pos h] at e'; cases e'
    · rw [if_neg h] at e'
      cases e'
      exact ⟨by simp, fun z hz => by rw [List.mem_singleton.mp hz]; decide +kernel⟩
  | value v => cases e
  | «variable» y =>
    have e' : (if y ∈ ks then none else some [("unbound" : Str), y]) = some p := e
    by_cases h : y ∈ ks
    · rw [if_pos h] at e'; cases e'
    · rw [if_neg h] at e'
      cases e'
      exact ⟨by simp, fun z hz => by simp only [List.mem_cons, List.not_mem_nil, or_false] at hz; rcases hz with rfl | rfl; decide +kernel; exact goodS_ok (ht _ hm)⟩
theorem litP_txt {cols : Str → Option Int} {ks : List Str} {l : Lit} {p : List Str} (hl : l.ok) (h : litP cols ks l = some p) : p.length ≤ 3 ∧ ∀ z ∈ p, PyData.strOk z = true := by
  cases l with
  | fact r ts => exact atomP_txt hl.1 h
  | neg r ts =>
    have h' : (atomP cols r ts).or (termsP ks true ts) = some p := h
    cases e : atomP cols r ts with
    | some p' => rw [e] at h'; cases h'; exact atomP_txt hl.1 e
    | none => rw [e] at h'; exact termsP_txt hl.2.2 h'
  | compare op s t =>
    have two : ∀ z ∈ [s, t], Term.ok z := fun z hz => by
      simp only [List.mem_cons, List.not_mem_nil, or_false] at hz
      rcases hz with rfl | rfl
      · exact hl.2.1
      · exact hl.2.2
    exact termsP_txt two h
  | is x op s t =>
    have two : ∀ z ∈ [s, t], Term.ok z := fun z hz => by
      simp only [List.mem_cons, List.not_mem_nil, or_false] at hz
      rcases hz with rfl | rfl
      · exact hl.2.2.1
      · exact hl.2.2.2
    exact termsP_txt two h
  | count x r ts =>
    have h' : (atomP cols r ts).or (if x ∈ varsF ts then some [("own total" : Str), x] else none) = some p := h
    cases e : atomP cols r ts with
    | some p' => rw [e] at h'; cases h'; exact atomP_txt hl.2.1 e
    | none =>
      rw [e] at h'
      by_cases hx : x ∈ varsF ts
      · rw [if_pos hx] at h'
        cases h'
        exact ⟨by simp, fun z hz => by simp only [List.mem_cons, List.not_mem_nil, or_false] at hz; rcases hz with rfl | rfl; decide +kernel; exact goodS_ok hl.1⟩
      · rw [if_neg hx] at h'; cases h'
theorem bodyE_txt {cols : Str → Option Int} : ∀ {b : List Lit} {ks : List Str}, (∀ l ∈ b, l.ok) → (∀ z ∈ ks, goodS z = true) →
    (∀ p, bodyE cols ks b = .inl p → p.length ≤ 3 ∧ ∀ z ∈ p, PyData.strOk z = true) ∧ (∀ vs, bodyE cols ks b = .inr vs → vs.length ≤ ks.length + 1000 * b.length ∧ ∀ z ∈ vs, goodS z = true)
  | [], ks, _, hk => ⟨fun p h => (nomatch h), fun vs h => by cases h; exact ⟨by simp, hk⟩⟩
  | l :: b, ks, hb, hk => by
    have hl := hb l List.mem_cons_self
    unfold bodyE
    cases e : litP cols ks l with
    | some p' => exact ⟨fun p h => by cases h; exact litP_txt hl e, fun vs h => nomatch h⟩
    | none =>
      have al := addK_len (bindsF l) ks
      have bl := bindsF_len hl
      obtain ⟨i1, i2⟩ := bodyE_txt (cols := cols) (b := b) (ks := addK ks (bindsF l)) (fun z hz => hb z (List.mem_cons_of_mem _ hz)) (addK_good hk (bindsF_good hl))
      refine ⟨i1, fun vs h => ?_⟩
      obtain ⟨j1, j2⟩ := i2 vs h
      exact ⟨by rw [List.length_cons]; omega, j2⟩
theorem okD_strs {n : Nat} {ks : List Str} (hl : ks.length ≤ 1000000) (h : ∀ z ∈ ks, PyData.strOk z = true) : okD (n + 1) (encP ks) = true := okD_mkT (by rw [List.length_map]; exact hl) (okAll_of fun d hd => by
  obtain ⟨z, hz, rfl⟩ := List.mem_map.mp hd
  exact okD_str (h z hz))
end Ab
set_option Elab.async false
set_option linter.all false
set_option maxRecDepth 1000000
set_option  maxHeartbeats 4000000
namespace Ab
open PySem PyProof.Rows L2
theorem edgesF_mem (us : List Rul) : ∀ (x : Str) (p : Str × Bool), (∃ es, valG (edgesF us) x = some es ∧ p ∈ es) ↔ ∃ u ∈ us, u.rel = x ∧ p ∈ relsOf u.b := by
  suffices h : ∀ (rs : List Rul) (x : Str) (p : Str × Bool), (∃ es, valG (edgesF rs.reverse) x = some es ∧ p ∈ es) ↔ ∃ u ∈ rs.reverse, u.rel = x ∧ p ∈ relsOf u.b by
    have := h us.reverse
    rwa [List.reverse_reverse] at this
  intro rs
  induction rs with
  | nil => exact fun x p => ⟨fun ⟨_, h, _⟩ => (nomatch h), fun ⟨_, h, _⟩ => (nomatch h)⟩
  | cons u rs ih =>
    rw [List.reverse_cons, edgesF_snoc]
    generalize rs.reverse = us at ih
    intro x p
    unfold addE
    rw [valG_put]
    by_cases e : u.rel = x
    · subst e
      rw [if_pos rfl]
      constructor
      · rintro ⟨es, h1, h2⟩
        cases h1
        rcases List.mem_append.mp h2 with h | h
        · cases ev : valG (edgesF us) u.rel with
          | none => rw [ev] at h; cases h
          | some es0 =>
            rw [ev] at h
            obtain ⟨v, hv, h3⟩ := (ih _ p).mp ⟨es0, ev, h⟩
            exact ⟨v, List.mem_append_left _ hv, h3⟩
        · exact ⟨u, by simp, rfl, h⟩
      · rintro ⟨v, hv, h1, h2⟩
        refine ⟨_, rfl, List.mem_append.mpr ?_⟩
        rcases List.mem_append.mp hv with h | h
        · obtain ⟨es, e1, e2⟩ := (ih u.rel p).mpr ⟨v, h, h1, h2⟩
          rw [e1]
          exact .inl e2
        · rw [List.mem_singleton.mp h] at h2
          exact .inr h2
    · rw [if_neg e, ih]
      constructor
      · rintro ⟨v, hv, h⟩
        exact ⟨v, List.mem_append_left _ hv, h⟩
      · rintro ⟨v, hv, h1, h2⟩
        rcases List.mem_append.mp hv with h | h
        · exact ⟨v, h, h1, h2⟩
        · rw [List.mem_singleton.mp h] at h1
          exact absurd h1 e
theorem edge_iff {us : List Rul} {x y : Str} : Edge (edgesF us) x y ↔ ∃ u ∈ us, u.rel = x ∧ ∃ b, (y, b) ∈ relsOf u.b := by
  constructor
  · rintro ⟨es, b, h1, h2⟩
    obtain ⟨u, h3, h4, h5⟩ := (edgesF_mem us x (y, b)).mp ⟨es, h1, h2⟩
    exact ⟨u, h3, h4, b, h5⟩
  · rintro ⟨u, h3, h4, b, h5⟩
    obtain ⟨es, h1, h2⟩ := (edgesF_mem us x (y, b)).mpr ⟨u, h3, h4, h5⟩
    exact ⟨es, b, h1, h2⟩
theorem edge_congr {us vs : List Rul} (h : ∀ u, u ∈ us ↔ u ∈ vs) {x y : Str} : Edge (edgesF us) x y ↔ Edge (edgesF vs) x y := by
  rw [edge_iff, edge_iff]
  exact ⟨fun ⟨u, h1, h2⟩ => ⟨u, (h u).mp h1, h2⟩, fun ⟨u, h1, h2⟩ => ⟨u, (h u).mpr h1, h2⟩⟩
theorem Rch.mono {G H : Gr} (h : ∀ x y, Edge G x y → Edge H x y) {x y : Str} (r : Rch G x y) : Rch H x y := by
  induction r with
  | one e => exact .one (h _ _ e)
  | more _ e ih => exact .more ih (h _ _ e)
theorem rch_congr {us vs : List Rul} (h : ∀ u, u ∈ us ↔ u ∈ vs) {x y : Str} : Rch (edgesF us) x y ↔ Rch (edgesF vs) x y := ⟨.mono fun _ _ => (edge_congr h).mp, .mono fun _ _ => (edge_congr h).mpr⟩
theorem Rch.cons {G : Gr} {x y z : Str} (e : Edge G x y) (r : Rch G y z) : Rch G x z := by
  induction r with
  | one e2 => exact .more (.one e) e2
  | more _ e2 ih => exact .more ih e2
theorem Rch.src {G : Gr} {x y : Str} (r : Rch G x y) : ∃ z, Edge G x z := by
  induction r with
  | one e => exact ⟨_, e⟩
  | more _ _ ih => exact ih
/-- at most so many steps, one or more -/
def stepN (G : Gr) : Nat → Str → Str → Prop
  | 0, _, _ => False
  | k + 1, x, y => Edge G x y ∨ ∃ z, Edge G x z ∧ stepN G k z y
theorem stepN_mono {G : Gr} : ∀ {k : Nat} {x y : Str}, stepN G k x y → stepN G (k + 1) x y
  | k + 1, x, y, .inl e => .inl e
  | k + 1, x, y, .inr ⟨z, e, h⟩ => .inr ⟨z, e, stepN_mono h⟩
theorem stepN_le {G : Gr} {k m : Nat} {x y : Str} (h : k ≤ m) (s : stepN G k x y) : stepN G m x y := by
  induction h with
  | refl => exact s
  | step _ ih => exact stepN_mono ih
theorem stepN_rch {G : Gr} : ∀ {k : Nat} {x y : Str}, stepN G k x y → Rch G x y
  | k + 1, x, y, .inl e => .one e
  | k + 1, x, y, .inr ⟨z, e, h⟩ => .cons e (stepN_rch h)
theorem stepN_snoc {G : Gr} : ∀ {k : Nat} {x y z : Str}, stepN G k x y → Edge G y z → stepN G (k + 1) x z
  | k + 1, x, y, z, .inl e, e2 => .inr ⟨y, e, .inl e2⟩
  | k + 1, x, y, z, .inr ⟨v, e, h⟩, e2 => .inr ⟨v, e, stepN_snoc h e2⟩
theorem rch_stepN {G : Gr} {x y : Str} (r : Rch G x y) : ∃ k, stepN G k x y := by
  induction r with
  | one e => exact ⟨1, .inl e⟩
  | more _ e ih => obtain ⟨k, h⟩ := ih; exact ⟨k + 1, stepN_snoc h e⟩
theorem Edge.src {G : Gr} {x y : Str} (h : Edge G x y) : x ∈ G.map (·.1) := by
  obtain ⟨es, b, e, _⟩ := h
  exact List.mem_map.mpr ⟨_, valG_mem e, rfl⟩
theorem stepN_src {G : Gr} {k : Nat} {x y : Str} (h : stepN G k x y) : x ∈ G.map (·.1) := by
  obtain ⟨z, e⟩ := (stepN_rch h).src
  exact e.src
theorem filter_lt {α : Type} {p q : α → Bool} : ∀ {l : List α}, (∀ x, p x = true → q x = true) → (∃ x ∈ l, q x = true ∧ p x = false) → (l.filter p).length < (l.filter q).length
  | [], _, ⟨_, h, _⟩ => nomatch h
  | a :: l, h, ⟨x, hx, h1, h2⟩ => by
    have le : ∀ l : List α, (l.filter p).length ≤ (l.filter q).length := fun l => by
      induction l with
      | nil => exact Nat.le_refl _
      | cons b l ih =>
        rw [List.filter_cons, List.filter_cons]
        by_cases hb : p b = true
        · rw [if_pos hb, if_pos (h b hb)]; simpa using ih
        · rw [if_neg hb]
          split
          · rw [List.length_cons]; omega
          · exact ih
    rw [List.filter_cons, List.filter_cons]
    rcases List.mem_cons.mp hx with e | e
    · subst e
      rw [if_pos h1, if_neg (by rw [h2]; exact Bool.false_ne_true), List.length_cons]
      have := le l
      omega
    · have ih := filter_lt h ⟨x, e, h1, h2⟩
      by_cases hb : p a = true
      · rw [if_pos hb, if_pos (h a hb)]; simpa using ih
      · rw [if_neg hb]
        split
        · rw [List.length_cons]; omega
        · exact ih
open Classical in
theorem step_grow (G : Gr) (y : Str) : ∀ k : Nat, (∀ x, stepN G (k + 1) x y → stepN G k x y) ∨ k ≤ ((G.map (·.1)).filter fun x => decide (stepN G k x y)).length
  | 0 => .inr (Nat.zero_le _)
  | k + 1 => by
    have st : (∀ x, stepN G (k + 1) x y → stepN G k x y) → ∀ x, stepN G (k + 2) x y → stepN G (k + 1) x y := fun h x hx => by
      rcases hx with e | ⟨z, e, h2⟩
      · exact .inl e
      · exact .inr ⟨z, e, h z h2⟩
    rcases step_grow G y k with h | h
    · exact .inl (st h)
    · by_cases c : ∀ x, stepN G (k + 1) x y → stepN G k x y
      · exact .inl (st c)
      · refine .inr (Nat.lt_of_le_of_lt h (filter_lt (fun x hx => decide_eq_true (stepN_mono (of_decide_eq_true hx))) ?_))
        apply Classical.byContradiction
        intro no
        refine c fun x hx => Classical.byContradiction fun hn => no ⟨x, stepN_src hx, decide_eq_true hx, decide_eq_false hn⟩
theorem step_stop (G : Gr) (x y : Str) (h : stepN G (G.length + 1) x y) : stepN G G.length x y := by
  classical
  rcases step_grow G y G.length with c | c
  · exact c x h
  · have e : ((G.map (·.1)).filter fun x => decide (stepN G G.length x y)).length = (G.map (·.1)).length := by
      have := List.length_filter_le (fun x => decide (stepN G G.length x y)) (G.map (·.1))
      rw [List.length_map] at this ⊢
      omega
    exact of_decide_eq_true (List.length_filter_eq_length_iff.mp e x (stepN_src h))
theorem rch_steps {G : Gr} {x y : Str} (r : Rch G x y) : stepN G G.length x y := by
  obtain ⟨k, h⟩ := rch_stepN r
  have down : ∀ m x, stepN G (G.length + m) x y → stepN G G.length x y := fun m => by
    induction m with
    | zero => exact fun _ h => h
    | succ m ih =>
      intro x h
      have h' : stepN G (G.length + m + 1) x y := h
      rcases h' with e | ⟨z, e, h2⟩
      · exact step_stop G x y (.inl e)
      · exact step_stop G x y (.inr ⟨z, e, ih z h2⟩)
  exact down k x (stepN_le (by omega) h)
end Ab
namespace Ab
open PySem PyProof.Rows L2
abbrev Tb := List (Str × List Str)
abbrev lsN (ys : List Str) : MO := .lst ((ys.map PyData.str).map .dat)
/-- a dict of lists of names, that change -/
structure TbAt (M : MH) (g : Addr) (fa : List (Str × Addr)) (R : Tb) : Prop where
  at_ : M g = some (.dK (kvA fa))
  keys : fa.map (·.1) = R.map (·.1)
  rows : ∀ n a, valG fa n = some a → ∃ ys, valG R n = some ys ∧ M a = some (lsN ys)
  inj : ∀ n n' a, valG fa n = some a → valG fa n' = some a → n = n'
theorem TbAt.miss {M : MH} {g : Addr} {fa : List (Str × Addr)} {R : Tb} (h : TbAt M g fa R) {n : Str} (e : valG fa n = none) : valG R n = none := by
  have h1 := valG_isSome n fa
  have h2 := valG_isSome n R
  rw [e, h.keys, ← h2] at h1
  cases hv : valG R n with
  | none => rfl
  | some x => rw [hv] at h1; cases h1
theorem TbAt.off {M : MH} {g : Addr} {fa : List (Str × Addr)} {R : Tb} (h : TbAt M g fa R) {n : Str} {a : Addr} (e : valG fa n = some a) : a ≠ g := fun z => by
  obtain ⟨ys, _, h2⟩ := h.rows n a e
  rw [z, h.at_] at h2
  cases h2
theorem TbAt.old {M : MH} {g : Addr} {fa : List (Str × Addr)} {R : Tb} (h : TbAt M g fa R) {n : Str} {a : Addr} (e : valG fa n = some a) (ys : List Str) : TbAt (um M a (lsN ys)) g fa (putG R n ys) := by
  have ag := h.off e
  obtain ⟨ys0, e0, _⟩ := h.rows n a e
  have hin : n ∈ R.map (·.1) := by rw [← h.keys]; exact List.mem_map.mpr ⟨_, valG_mem e, rfl⟩
  refine ⟨by rw [um_ne ag.symm]; exact h.at_, by rw [putG_keys, if_pos hin]; exact h.keys, fun n' a' e' => ?_, h.inj⟩
  rw [valG_put]
  by_cases en : n = n'
  · subst en
    rw [e] at e'
    cases e'
    exact ⟨ys, by rw [if_pos rfl], um_same⟩
  · rw [if_neg en]
    have : a' ≠ a := fun z => en (h.inj _ _ _ e (by rw [← z]; exact e'))
    obtain ⟨ys', h1, h2⟩ := h.rows n' a' e'
    exact ⟨ys', h1, by rw [um_ne this]; exact h2⟩
/-- another list under n -/
theorem TbAt.new {M : MH} {g : Addr} {fa : List (Str × Addr)} {R : Tb} (h : TbAt M g fa R) {n : Str} {p : Addr} (hp : M p = none) (ys : List Str) : TbAt (um (um M p (lsN ys)) g (.dK (kvA (putG fa n p)))) g (putG fa n p) (putG R n ys) := by
  have pg : p ≠ g := fun z => by rw [z, h.at_] at hp; cases hp
  have hn : ∀ n', valG fa n' ≠ some p := fun n' z => by
    obtain ⟨ys', _, h2⟩ := h.rows n' p z
    rw [hp] at h2; cases h2
  refine ⟨um_same, by rw [putG_keys, putG_keys, h.keys], fun n' a' e' => ?_, fun n1 n2 a' e1 e2 => ?_⟩
  · rw [valG_put] at e' ⊢
    by_cases en : n = n'
    · rw [if_pos en] at e' ⊢
      cases e'
      exact ⟨ys, rfl, by rw [um_ne pg, um_same]⟩
    · rw [if_neg en] at e' ⊢
      obtain ⟨ys', h1, h2⟩ := h.rows n' a' e'
      have a1 : a' ≠ p := fun z => hn n' (by rw [← z]; exact e')
      exact ⟨ys', h1, by rw [um_ne (h.off e'), um_ne a1]; exact h2⟩
  · rw [valG_put] at e1 e2
    by_cases c1 : n = n1 <;> by_cases c2 : n = n2
    · rw [← c1, ← c2]
    · rw [if_pos c1] at e1; rw [if_neg c2] at e2; cases e1; exact absurd e2 (hn n2)
    · rw [if_neg c1] at e1; rw [if_pos c2] at e2; cases e2; exact absurd e1 (hn n1)
    · rw [if_neg c1] at e1; rw [if_neg c2] at e2; exact h.inj _ _ _ e1 e2
theorem TbAt.umP {M : MH} {g : Addr} {fa : List (Str × Addr)} {R : Tb} (h : TbAt M g fa R) {p : Addr} {x : MO} (h1 : p ≠ g) (h2 : ∀ n, valG fa n ≠ some p) : TbAt (um M p x) g fa R := by
  refine ⟨by rw [um_ne h1.symm]; exact h.at_, h.keys, fun n a e => ?_, h.inj⟩
  obtain ⟨ys, e1, e2⟩ := h.rows n a e
  exact ⟨ys, e1, by rw [um_ne fun z => h2 n (by rw [← z]; exact e)]; exact e2⟩
theorem TbAt.ext {M N : MH} {g : Addr} {fa : List (Str × Addr)} {R : Tb} (h : TbAt M g fa R) (e : ∀ b u, M b = Option.some u → N b = Option.some u) : TbAt N g fa R := by
  refine ⟨e _ _ h.at_, h.keys, fun n a ha => ?_, h.inj⟩
  obtain ⟨ys, h1, h2⟩ := h.rows n a ha
  exact ⟨ys, h1, e _ _ h2⟩
theorem TbAt.fresh {M : MH} {g : Addr} {fa : List (Str × Addr)} {R : Tb} (h : TbAt M g fa R) {p : Addr} (hp : M p = none) : p ≠ g ∧ ∀ n, valG fa n ≠ some p := by
  refine ⟨fun z => (by rw [z, h.at_] at hp; cases hp), fun n z => ?_⟩
  obtain ⟨ys, _, h2⟩ := h.rows n p z
  rw [hp] at h2
  cases h2
def InT (R : Tb) (x y : Str) : Prop := ∃ ys, valG R x = some ys ∧ y ∈ ys
def LeT (R S : Tb) : Prop := ∀ x y, InT R x y → InT S x y
theorem LeT.refl {R : Tb} : LeT R R := fun _ _ h => h
theorem LeT.trans {R S T : Tb} (h : LeT R S) (k : LeT S T) : LeT R T := fun x y z => k x y (h x y z)
theorem LeT.add {R : Tb} {n y : Str} {ys : List Str} (e : valG R n = some ys) : LeT R (putG R n (ys ++ [y])) := fun x z ⟨zs, h1, h2⟩ => by
  unfold InT
  rw [valG_put]
  by_cases c : n = x
  · subst c
    rw [if_pos rfl]
    rw [e] at h1
    cases h1
    exact ⟨_, rfl, List.mem_append_left _ h2⟩
  · rw [if_neg c]
    exact ⟨zs, h1, h2⟩
theorem InT.add {R : Tb} {n y : Str} {ys : List Str} : InT (putG R n (ys ++ [y])) n y := ⟨_, by rw [valG_put, if_pos rfl], by simp⟩
theorem in_getD {R : Tb} {x y : Str} : y ∈ (valG R x).getD [] ↔ InT R x y := by
  unfold InT
  cases valG R x with
  | none => exact ⟨fun h => (nomatch h), fun ⟨_, h, _⟩ => (nomatch h)⟩
  | some ys => exact ⟨fun h => ⟨ys, rfl, h⟩, fun ⟨zs, h1, h2⟩ => by cases h1; exact h2⟩
/-- what is found so far of the reach: all of at most k steps, and nothing else -/
structure RtOk (G : Gr) (k : Nat) (R : Tb) : Prop where
  rc : ∀ n ys, valG R n = some ys → ∀ y ∈ ys, Rch G n y
  nd : ∀ n ys, valG R n = some ys → ys.Nodup
  all : ∀ x y, stepN G k x y → InT R x y
theorem RtOk.len {G : Gr} {k : Nat} {R : Tb} (h : RtOk G k R) {n : Str} {ys : List Str} (e : valG R n = some ys) : ys.length ≤ (tgts G).length := nodup_le (h.nd n ys e) fun z hz => (h.rc n ys e z hz).tgt
theorem RtOk.add {G : Gr} {k : Nat} {R : Tb} (h : RtOk G k R) {n y : Str} {ys : List Str} (e : valG R n = some ys) (hy : y ∉ ys) (hr : Rch G n y) : RtOk G k (putG R n (ys ++ [y])) := by
  refine ⟨fun m zs e2 z hz => ?_, fun m zs e2 => ?_, fun x z hz => ?_⟩
  · rw [valG_put] at e2
    split at e2
    · rename_i c
      cases e2
      subst c
      rcases List.mem_append.mp hz with h1 | h1
      · exact h.rc _ _ e z h1
      · rw [List.mem_singleton.mp h1]; exact hr
    · exact h.rc _ _ e2 z hz
  · rw [valG_put] at e2
    split at e2
    · cases e2
      rw [List.nodup_append]
      refine ⟨h.nd _ _ e, by simp, fun a ha b hb c => ?_⟩
      rw [List.mem_singleton.mp hb] at c
      exact hy (by rw [← c]; exact ha)
    · exact h.nd _ _ e2
  · exact LeT.add e x z (h.all x z hz)
/-- a round more -/
theorem RtOk.next {us : List Rul} {k : Nat} {R : Tb} (h : RtOk (edgesF us) k R) (hn : ∀ u ∈ us, ∀ p ∈ relsOf u.b, ∀ y, (y = p.1 ∨ stepN (edgesF us) k p.1 y) → InT R u.rel y) : RtOk (edgesF us) (k + 1) R := by
  refine ⟨h.rc, h.nd, fun x y hs => ?_⟩
  rcases hs with e | ⟨z, e, h2⟩
  · obtain ⟨u, hu, rfl, b, hb⟩ := edge_iff.mp e
    exact hn u hu _ hb y (.inl rfl)
  · obtain ⟨u, hu, rfl, b, hb⟩ := edge_iff.mp e
    exact hn u hu _ hb y (.inr h2)
theorem RtOk.fin {us : List Rul} {k : Nat} {R : Tb} (h : RtOk (edgesF us) k R) (hu : ∀ u ∈ us, okB u.b) (hk : us.length ≤ k) (x y : Str) : InT R x y ↔ Rch (edgesF us) x y :=
  ⟨fun ⟨ys, h1, h2⟩ => h.rc x ys h1 y h2, fun r => h.all x y (stepN_le (Nat.le_trans (edgesF_len us hu).2 hk) (rch_steps r))⟩
end Ab
namespace Ab
open PySem PyProof.Rows L2
section
variable {K : KX} {ρ : Rho} {M : MH} {Q : Sl → MH → Prop} {te : TE} {tt : TT}
/-- [g(x, y) for x, y in a list of pairs of data if f(x, y)] -/
theorem w_lcF2 {α : Type} {ea eb : α → PyData} {xs : List α} {tl : TE} {i j : Nat} {vs : List Nat} {M1 : MH} (hi : i ∈ vs) (hj : j ∈ vs) (hl : W K tl ρ M fun s M2 => s = .dat (.list (xs.map fun x => .tuple [ea x, eb x])) ∧ M2 = M1) (hz : xs.length ≤ 1000000) (f : α → Option PyData)
    (ht : ∀ x D o, x ∈ xs → M1 D = none → WT K tt (((wipeR ρ vs).set i (some (.dat (ea x)))).set j (some (.dat (eb x)))) (um M1 D o) fun b M' => b = (f x).isSome ∧ M' = um M1 D o)
    (he : ∀ x D o d, x ∈ xs → f x = some d → M1 D = none → W K te (((wipeR ρ vs).set i (some (.dat (ea x)))).set j (some (.dat (eb x)))) (um M1 D o) fun s M' => s = .dat d ∧ M' = um M1 D o) (q : Q (.dat (.list (xs.filterMap f))) M1) : W K (tLc (iList K.K tl) (gTup K.K 2 (gCons (gName i) (gCons (gName j) gNil))) tt te vs) ρ M Q :=
  w_frz (w_lcX (wi_list (hl.imp fun s M2 ⟨e1, e2⟩ => by
    subst e1 e2
    refine ⟨_, lsv_dat, fun k acc M' => M' = M2 ∧ acc = (xs.take k).filterMap f, ⟨rfl, by simp⟩, fun _ _ _ _ _ _ _ _ => lsv_dat, fun k acc M' D hk ⟨eM, e2⟩ hD => ?_, fun acc M' D ⟨eM, e2⟩ hD => ?_⟩
    · subst eM e2
      have hk' : k < xs.length := by simpa using hk
      refine ⟨_, (by
        show LcT K.K _ vs (((xs.map fun x => PyData.tuple [ea x, eb x]).map Sl.dat).getD k .non) _
        rw [getD_map hk']
        exact lct_two hi hj), ?_⟩
      refine WT.imp (ht xs[k] D _ (List.getElem_mem hk') hD) fun b M3 ⟨e1, e2⟩ => ?_
      subst e1 e2
      have hn : xs.take (k + 1) = xs.take k ++ [xs[k]] := List.take_succ_eq_append_getElem hk'
      cases hf : f xs[k] with
      | some d =>
        refine (he xs[k] D _ d (List.getElem_mem hk') hf hD).imp fun s M4 ⟨e1, e2⟩ => ⟨d, _, e1, e2, hD, ?_, rfl, ?_⟩
        · have := List.length_filterMap_le f (xs.take k)
          rw [List.length_take] at this
          omega
        · rw [hn, List.filterMap_append, List.filterMap_cons, hf]
          rfl
      | none =>
        refine ⟨_, rfl, hD, rfl, ?_⟩
        rw [hn, List.filterMap_append, List.filterMap_cons, hf]
        simp
    · subst eM e2
      rw [List.length_map, List.length_map, List.take_length]
      exact ⟨D, _, rfl, um_same, by rw [del_um hD]; exact q⟩)))
end
theorem eqv_nil (ds : List PyData) : PyData.eqv (.list ds) (.list []) = ds.isEmpty := by
  rw [PyData.eqv]
  cases ds <;> rfl
end Ab
set_option Elab.async false
set_option linter.all false
set_option maxRecDepth 1000000
set_option  maxHeartbeats 4000000
namespace Ab
open PySem PyProof.Rows L2
structure StH (c : Ct) (os : List Item) (k : Nat) : Prop where
  h : ∃ m, m ≤ 400 ∧ Holds c os m
  it : c.items = os
  l : os.length ≤ k
  ok : CtOk c
  sm : Ct.small c
  its : ∀ it ∈ os, it.ok
theorem init_ofN {its : List Item} (h : ∀ it ∈ its, it.ok) (hl : its.length < 64) : InitOk its := ⟨h, fun i hi => by
  have hN := puts_N (its.take i) fun it hit => h it (List.mem_of_mem_take hit)
  have hl2 : (its.take i).length ≤ its.length := by rw [List.length_take]; omega
  exact ⟨hN.ok (by omega), hN.small (by omega)⟩⟩
theorem StH.init {c : Ct} {os : List Item} {k : Nat} (h : StH c os k) (hk : k < 64) : InitOk c.items := by
  rw [h.it]
  exact init_ofN h.its (Nat.lt_of_le_of_lt h.l hk)
theorem StH.make {its : List Item} {k : Nat} (h : ∀ it ∈ its, it.ok) (hl : its.length ≤ k) (hk : k < 32) : StH (puts its).tidy (orderd its) k := by
  have H0 := holds_puts h
  have ol := orderd_len its
  obtain ⟨f1, f2, f3⟩ := H0.fine (by omega) (by omega)
  exact ⟨⟨_, by omega, H0.tidy⟩, f3.items, by omega, f1, f2, orderd_ok h⟩
theorem StH.chg {c : Ct} {os : List Item} {k k' : Nat} {x : Chg} (h : StH c os k) (hk : k ≤ 30) (hx : x.ok) (hl : (chgI os x).length ≤ k') (hk' : k' < 32) :
    (∀ i, i ≤ 1 → CtOk (chgs (puts c.items).tidy ([x].take i)) ∧ Ct.small (chgs (puts c.items).tidy ([x].take i))) ∧ StH (chgs (puts c.items).tidy [x]).tidy (chgI os x) k' := by
  have ll := h.l
  obtain ⟨m, _, hH⟩ := h.h
  have H0 := holds_puts h.its
  rw [orderd_id hH.pw] at H0
  have H2 := H0.tidy.chg (x := x) hx
  obtain ⟨f1, f2, f3⟩ := H2.fine (by omega) (by omega)
  obtain ⟨g1, g2, _⟩ := H0.fine (by omega) (by omega)
  have e : (chgs (puts c.items).tidy [x]).tidy = ((puts os).tidy.chg x).tidy := by rw [h.it]; rfl
  rw [e, h.it]
  refine ⟨fun i hi2 => ?_, ⟨_, by omega, H2.tidy⟩, f3.items, hl, f1, f2, chgI_ok h.its hx⟩
  match i, hi2 with
  | 0, _ => exact ⟨g1, g2⟩
  | 1, _ => exact ⟨H2.N.ok (by omega), H2.N.small (by omega)⟩
theorem gone_len (os : List Item) (x : Item) : (goneI os x).length ≤ os.length := List.length_filter_le _ _
/-- what it holds -/
theorem StH.rul {c : Ct} {os : List Item} {k : Nat} (h : StH c os k) {n : Str} {u : Rul} : valG c.rul n = some u ↔ Item.rule n u.rel u.hd u.b ∈ os := by
  obtain ⟨m, _, hH⟩ := h.h
  exact (hH.mem (.rule n u.rel u.hd u.b)).symm
theorem StH.rel {c : Ct} {os : List Item} {k : Nat} (h : StH c os k) {n : Str} {v : Int} : valG c.rel n = some v ↔ Item.relation n v ∈ os := by
  obtain ⟨m, _, hH⟩ := h.h
  exact (hH.mem (.relation n v)).symm
theorem StH.den {c : Ct} {os : List Item} {k : Nat} (h : StH c os k) {n : Str} {b : List Lit} : valG c.den n = some b ↔ Item.denial n b ∈ os := by
  obtain ⟨m, _, hH⟩ := h.h
  exact (hH.mem (.denial n b)).symm
theorem StH.fac {c : Ct} {os : List Item} {k : Nat} (h : StH c os k) {n : Str} {row : List Val} : row ∈ rowsOf c n ↔ Item.fact n row ∈ os := by
  obtain ⟨m, _, hH⟩ := h.h
  exact (hH.mem (.fact n row)).symm
theorem StH.nu {c : Ct} {os : List Item} {k : Nat} (h : StH c os k) : (c.rul.map (·.1)).Nodup := by
  obtain ⟨m, _, hH⟩ := h.h
  exact hH.N.nu
end Ab
set_option Elab.async false
set_option linter.all false
set_option maxRecDepth 1000000
set_option  maxHeartbeats 4000000
namespace Ab
open PySem PyProof.Rows L2
section
variable {K : KX} {ρ : Rho} {M : MH} {Q : Sl → MH → Prop} {td ty : TE}
theorem w_dpop1 (h : W K td ρ M fun s M1 => ∃ a, s = .raw (.ref a) ∧ (∃ kvs, M1 a = some (.dK kvs)) ∧ W K ty ρ M1 fun y M2 => ∃ kvs k x, M2 a = some (.dK kvs) ∧ y = kS k ∧ valG kvs k = some x ∧ Q x (um M2 a (.dK (dropG kvs k)))) : W K (tDPop1 td ty) ρ M Q := fun σ B H hR hS Q0 q0 =>
  h σ B H hR hS _ fun s v M1 B1 H1 ⟨a, es, ⟨kvs0, hM0⟩, h1⟩ e1 S1 o1 => by
    subst es
    have ev : v = .ref a := o1
    subst ev
    obtain ⟨_, t0, ht0, vs0, rfl, _⟩ := S1.has a _ hM0
    refine ⟨a, rfl, isD_of (.inl ht0), h1 σ B1 H1 (hR.mono e1) S1 _ fun y w M2 B2 H2 ⟨kvs, k, x, hM, ey, hx, q⟩ e2 S2 o2 => ?_⟩
    subst ey
    obtain ⟨_, t, ht, vs, rfl, hv⟩ := S2.has a _ hM
    obtain ⟨i1, i2⟩ := slks_val (k := k) hv
    obtain ⟨x', hx', ox⟩ := i1 x hx
    exact ⟨vs, k, x', ht, of_kS o2, hx', q0 x x' _ B2 _ q (e1.trans e2) (S2.put hM ⟨_, rfl, slks_drop hv⟩) ox⟩
end
end Ab
namespace Ab
open PySem PyProof.Rows L2
theorem pi_listK {X : Cx} {K : PySem.W.Frag} {tg l : Expr} {tl : TE} (hK : X.K = K) (hl : PE X l tl) : PI X tg l (iList K tl) := by
  subst hK
  exact pi_list hl
end Ab
namespace Ab
open PySem PyProof.Rows L2
theorem wl_strI {K : PySem.W.Frag} {M : MH} {Q : Sl → MH → Prop} {i : Int} (hi : i.natAbs.log2 < 1920) (q : Q (.dat (.str (toString i))) M) : WL K (fun xs H Q => ∃ i, xs = [.int i] ∧ i.natAbs.log2 < 1920 ∧ Q (.str (toString i)) H) [.dat (.int i)] M Q := fun B H vs hS o Q0 k => by
  cases o with
  | cons o1 o2 =>
    cases o2
    exact ⟨i, by rw [of_int o1], hi, k _ _ M B H q (Same.refl B) hS slok_str⟩
section
variable {K : KX} {ρ : Rho} {M : MH} {Q : Sl → MH → Prop} {te : TE} {tt : TT}
/-- [g(x, y) for x, y in a list of pairs that changes, but not now] -/
theorem w_lcR2 {α : Type} {ea eb : α → PyData} {xs : List α} {tl : TE} {i j : Nat} {vs : List Nat} {M1 : MH} {a : Addr} (hi : i ∈ vs) (hj : j ∈ vs) (hl : W K tl ρ M fun s M2 => s = .raw (.ref a) ∧ M2 = M1) (ha : M1 a = some (.lst (xs.map fun x => .dat (.tuple [ea x, eb x])))) (hz : xs.length ≤ 1000000) (f : α → PyData)
    (he : ∀ x D o, x ∈ xs → M1 D = none → W K te (((wipeR ρ vs).set i (some (.dat (ea x)))).set j (some (.dat (eb x)))) (um M1 D o) fun s M' => s = .dat (f x) ∧ M' = um M1 D o) (q : Q (.dat (.list (xs.map f))) M1) : W K (tLc (iList K.K tl) (gTup K.K 2 (gCons (gName i) (gCons (gName j) gNil))) tYes te vs) ρ M Q :=
  w_frz (w_lcX (wi_list (hl.imp fun s M2 ⟨e1, e2⟩ => by
    subst e1 e2
    have ne : ∀ D, M2 D = none → a ≠ D := fun D hD z => by rw [z, hD] at ha; cases ha
    refine ⟨_, lsv_ref ha, fun k acc M' => M' = M2 ∧ acc = (xs.take k).map f, ⟨rfl, by simp⟩, fun k acc M' _ hJ D o hD => ?_, fun k acc M' D hk ⟨eM, e2⟩ hD => ?_, fun acc M' D ⟨eM, e2⟩ hD => ?_⟩
    · obtain ⟨rfl, _⟩ := hJ
      exact lsv_ref (by rw [um_ne (ne D hD)]; exact ha)
    · subst eM e2
      have hk' : k < xs.length := by rw [List.length_map] at hk; exact hk
      have hn : xs.take (k + 1) = xs.take k ++ [xs[k]] := List.take_succ_eq_append_getElem hk'
      have gk : (xs.map fun x => Sl.dat (.tuple [ea x, eb x])).getD k .non = .dat (.tuple [ea xs[k], eb xs[k]]) := by
        rw [List.getD_eq_getElem?_getD, List.getElem?_map, List.getElem?_eq_getElem hk']
        rfl
      refine ⟨_, (by
        show LcT K.K _ vs ((xs.map fun x => Sl.dat (.tuple [ea x, eb x])).getD k .non) _
        rw [gk]
        exact lct_two hi hj), ?_⟩
      refine wt_yes ?_
      rw [if_pos rfl]
      refine (he xs[k] D _ (List.getElem_mem hk') hD).imp fun s M4 ⟨e1, e2⟩ => ⟨f xs[k], _, e1, e2, hD, ?_, rfl, ?_⟩
      · rw [List.length_map, List.length_take]
        omega
      · rw [hn, List.map_append]
        rfl
    · subst eM e2
      rw [List.length_map, List.take_length]
      exact ⟨D, _, rfl, um_same, by rw [del_um hD]; exact q⟩)))
end
end Ab
set_option Elab.async false
set_option linter.all false
set_option maxRecDepth 1000000
set_option  maxHeartbeats 4000000
namespace Ab
open PySem PyProof.Rows L2
/-- only the draws went on -/
structure OSt (M N : MH) (p : Addr) (ys : List Sl) : Prop where
  at_ : N p = some (.lst ys)
  d : DrawL ys
  e : ∀ x u, M x = some u → x ≠ p → N x = some u
theorem OSt.draw {M N : MH} {p : Addr} {ys zs : List Sl} (h : OSt M N p ys) (hz : DrawL zs) : OSt M (Ab.um N p (.lst zs)) p zs := ⟨um_same, hz, fun x u hx xp => by rw [um_ne xp]; exact h.e x u hx xp⟩
theorem OSt.fresh {M N : MH} {p q : Addr} {ys : List Sl} {y : MO} (h : OSt M N p ys) (hq : N q = none) : OSt M (Ab.um N q y) p ys := by
  have ne : ∀ x u, N x = some u → x ≠ q := fun x u hx z => by rw [z, hq] at hx; cases hx
  exact ⟨by rw [um_ne (ne _ _ h.at_)]; exact h.at_, h.d, fun x u hx xp => by
    have := h.e x u hx xp
    rw [um_ne (ne _ _ this)]
    exact this⟩
theorem OSt.at2 {M N : MH} {p q : Addr} {ys : List Sl} {y : MO} (h : OSt M N p ys) (hq : M q = none) (hp : p ≠ q) : OSt M (Ab.um N q y) p ys :=
  ⟨by rw [um_ne hp]; exact h.at_, h.d, fun x u hx xp => by
    rw [um_ne fun z => by rw [z, hq] at hx; cases hx]
    exact h.e x u hx xp⟩
theorem okW_put {Ws : List (Str × Int)} {n : Str} {v : Int} (h : okW Ws) (hn : goodS n = true) (h0 : 0 ≤ v) (h1 : v ≤ 100) (hl : Ws.length < 59) : okW (putG Ws n v) :=
  ⟨fun p hp => (putG_mem hp).elim (fun e => by rw [e]; exact ⟨hn, h0, h1⟩) (h.g p), Nat.lt_of_le_of_lt (putG_len Ws n v) (by omega), fun e => by
    have := putG_keys Ws n v
    rw [e] at this
    split at this
    · rename_i hin
      exact h.n (List.map_eq_nil_iff.mp this.symm)
    · exact absurd this.symm (by simp)⟩
end Ab
set_option Elab.async false
set_option linter.all false
set_option maxRecDepth 1000000
set_option  maxHeartbeats 4000000
namespace K23
open PySem PyProof.Rows L2 Ab
def topS (i : Nat) : Stmt := PySem.Challenge.pw_rulestead_k23_sound_states.main.body.getD i (.Pass ⟨0, 0, 0, 0⟩)
abbrev s_value_key : Stmt := topS 1
theorem sc_value_key : FnScope ["value"] ["value"] (defScope s_value_key) := ⟨rfl, rfl, rfl, by decide +kernel, rfl, by decide +kernel, by decide +kernel⟩
abbrev s_row_key : Stmt := topS 2
theorem sc_row_key : FnScope ["row", "value"] ["row"] (defScope s_row_key) := ⟨rfl, rfl, rfl, by decide +kernel, rfl, by decide +kernel, by decide +kernel⟩
abbrev s_columns : Stmt := topS 10
theorem sc_columns : FnScope ["state", "relation", "name"] ["state", "relation"] (defScope s_columns) := ⟨rfl, rfl, rfl, by decide +kernel, rfl, by decide +kernel, by decide +kernel⟩
abbrev s_check_atom : Stmt := topS 11
theorem sc_check_atom : FnScope ["state", "relation", "terms", "width"] ["state", "relation", "terms"] (defScope s_check_atom) := ⟨rfl, rfl, rfl, by decide +kernel, rfl, by decide +kernel, by decide +kernel⟩
abbrev s_check_terms : Stmt := topS 12
theorem sc_check_terms : FnScope ["terms", "known", "lets_any", "term"] ["terms", "known", "lets_any"] (defScope s_check_terms) := ⟨rfl, rfl, rfl, by decide +kernel, rfl, by decide +kernel, by decide +kernel⟩
abbrev s_variables_of : Stmt := topS 13
theorem sc_variables_of : FnScope ["terms", "term"] ["terms"] (defScope s_variables_of) := ⟨rfl, rfl, rfl, by decide +kernel, rfl, by decide +kernel, by decide +kernel⟩
abbrev s_check_literal : Stmt := topS 14
theorem sc_check_literal : FnScope ["state", "literal", "known"] ["state", "literal", "known"] (defScope s_check_literal) := ⟨rfl, rfl, rfl, by decide +kernel, rfl, by decide +kernel, by decide +kernel⟩
abbrev s_check_body : Stmt := topS 15
theorem sc_check_body : FnScope ["state", "body", "known", "literal", "variable"] ["state", "body"] (defScope s_check_body) := ⟨rfl, rfl, rfl, by decide +kernel, rfl, by decide +kernel, by decide +kernel⟩
abbrev s_State___init__ : Stmt := inClass (topS 24) 0
theorem sc_State___init__ : FnScope ["self", "items", "item"] ["self", "items"] (defScope s_State___init__) := ⟨rfl, rfl, rfl, by decide +kernel, rfl, by decide +kernel, by decide +kernel⟩
abbrev s_State_put : Stmt := inClass (topS 24) 1
theorem sc_State_put : FnScope ["self", "item", "word", "name"] ["self", "item"] (defScope s_State_put) := ⟨rfl, rfl, rfl, by decide +kernel, rfl, by decide +kernel, by decide +kernel⟩
abbrev s_State_tidy : Stmt := inClass (topS 24) 3
theorem sc_State_tidy : FnScope ["self", "names", "name"] ["self"] (defScope s_State_tidy) := ⟨rfl, rfl, rfl, by decide +kernel, rfl, by decide +kernel, by decide +kernel⟩
abbrev s_State_all_items : Stmt := inClass (topS 24) 4
theorem sc_State_all_items : FnScope ["self", "items", "name", "row"] ["self"] (defScope s_State_all_items) := ⟨rfl, rfl, rfl, by decide +kernel, rfl, by decide +kernel, by decide +kernel⟩
abbrev s_State_has : Stmt := inClass (topS 24) 5
theorem sc_State_has : FnScope ["self", "relation", "row"] ["self", "relation", "row"] (defScope s_State_has) := ⟨rfl, rfl, rfl, by decide +kernel, rfl, by decide +kernel, by decide +kernel⟩
abbrev s_law_next : Stmt := topS 28
theorem sc_law_next : FnScope ["_law_state", "_law_limit", "_law_cell", "_law_value"] ["_law_state", "_law_limit"] (defScope s_law_next) := ⟨rfl, rfl, rfl, by decide +kernel, rfl, by decide +kernel, by decide +kernel⟩
abbrev s_law_same : Stmt := topS 29
theorem sc_law_same : FnScope ["_law_actual", "_law_expected", "_law_k"] ["_law_actual", "_law_expected"] (defScope s_law_same) := ⟨rfl, rfl, rfl, by decide +kernel, rfl, by decide +kernel, by decide +kernel⟩
abbrev s_law_worth : Stmt := topS 30
theorem sc_law_worth : FnScope ["_law_state"] ["_law_state"] (defScope s_law_worth) := ⟨rfl, rfl, rfl, by decide +kernel, rfl, by decide +kernel, by decide +kernel⟩
abbrev s_law_variable : Stmt := topS 31
theorem sc_law_variable : FnScope ["_law_state"] ["_law_state"] (defScope s_law_variable) := ⟨rfl, rfl, rfl, by decide +kernel, rfl, by decide +kernel, by decide +kernel⟩
abbrev s_law_term : Stmt := topS 32
theorem sc_law_term : FnScope ["_law_state", "_law_bound", "_law_pick"] ["_law_state", "_law_bound"] (defScope s_law_term) := ⟨rfl, rfl, rfl, by decide +kernel, rfl, by decide +kernel, by decide +kernel⟩
abbrev s_law_settled : Stmt := topS 33
theorem sc_law_settled : FnScope ["_law_term_here", "_law_bound"] ["_law_term_here", "_law_bound"] (defScope s_law_settled) := ⟨rfl, rfl, rfl, by decide +kernel, rfl, by decide +kernel, by decide +kernel⟩
abbrev s_law_literal : Stmt := topS 34
theorem sc_law_literal : FnScope ["_law_state", "_law_widths_here", "_law_bound", "_law_careful", "_law_names", "_law_relation", "_law_width", "_law_terms", "_law_k", "_law_form", "_law_term_here", "_law_pair", "_law_variable_here"] ["_law_state", "_law_widths_here", "_law_bound", "_law_careful"] (defScope s_law_literal) := ⟨rfl, rfl, rfl, by decide +kernel, rfl, by decide +kernel, by decide +kernel⟩
abbrev s_law_binds : Stmt := topS 35
theorem sc_law_binds : FnScope ["_law_literal_here", "_law_term_here"] ["_law_literal_here"] (defScope s_law_binds) := ⟨rfl, rfl, rfl, by decide +kernel, rfl, by decide +kernel, by decide +kernel⟩
abbrev s_law_body : Stmt := topS 36
theorem sc_law_body : FnScope ["_law_state", "_law_widths_here", "_law_careful", "_law_most", "_law_body_here", "_law_bound", "_law_facts", "_law_k", "_law_literal_here", "_law_name"] ["_law_state", "_law_widths_here", "_law_careful", "_law_most"] (defScope s_law_body) := ⟨rfl, rfl, rfl, by decide +kernel, rfl, by decide +kernel, by decide +kernel⟩
abbrev s_law_loose : Stmt := topS 37
theorem sc_law_loose : FnScope ["_law_terms", "_law_bound", "_law_lets_any", "_law_term_here"] ["_law_terms", "_law_bound", "_law_lets_any"] (defScope s_law_loose) := ⟨rfl, rfl, rfl, by decide +kernel, rfl, by decide +kernel, by decide +kernel⟩
abbrev s_law_literal_problem : Stmt := topS 38
theorem sc_law_literal_problem : FnScope ["_law_widths_here", "_law_literal_here", "_law_bound", "_law_relation", "_law_terms"] ["_law_widths_here", "_law_literal_here", "_law_bound"] (defScope s_law_literal_problem) := ⟨rfl, rfl, rfl, by decide +kernel, rfl, by decide +kernel, by decide +kernel⟩
abbrev s_law_body_problem : Stmt := topS 39
theorem sc_law_body_problem : FnScope ["_law_widths_here", "_law_body_here", "_law_bound", "_law_literal_here", "_law_problem", "_law_name"] ["_law_widths_here", "_law_body_here"] (defScope s_law_body_problem) := ⟨rfl, rfl, rfl, by decide +kernel, rfl, by decide +kernel, by decide +kernel⟩
abbrev s_law_each_once : Stmt := topS 40
theorem sc_law_each_once : FnScope ["_law_names", "_law_k"] ["_law_names"] (defScope s_law_each_once) := ⟨rfl, rfl, rfl, by decide +kernel, rfl, by decide +kernel, by decide +kernel⟩
abbrev s_law_widths : Stmt := topS 41
theorem sc_law_widths : FnScope ["_law_world", "_law_widths_here", "_law_name"] ["_law_world"] (defScope s_law_widths) := ⟨rfl, rfl, rfl, by decide +kernel, rfl, by decide +kernel, by decide +kernel⟩
abbrev s_State_take : Stmt := inClass (topS 24) 2
theorem sc_State_take : FnScope ["self", "key", "sort", "name", "row"] ["self", "key"] (defScope s_State_take) := ⟨rfl, rfl, rfl, by decide +kernel, rfl, by decide +kernel, by decide +kernel⟩
abbrev s_State_copy : Stmt := inClass (topS 24) 6
theorem sc_State_copy : FnScope ["self"] ["self"] (defScope s_State_copy) := ⟨rfl, rfl, rfl, by decide +kernel, rfl, by decide +kernel, by decide +kernel⟩
abbrev s_State_change : Stmt := inClass (topS 24) 7
theorem sc_State_change : FnScope ["self", "changes", "result", "word", "what"] ["self", "changes"] (defScope s_State_change) := ⟨rfl, rfl, rfl, by decide +kernel, rfl, by decide +kernel, by decide +kernel⟩
abbrev s_relations_of : Stmt := topS 4
theorem sc_relations_of : FnScope ["body", "found", "literal"] ["body"] (defScope s_relations_of) := ⟨rfl, rfl, rfl, by decide +kernel, rfl, by decide +kernel, by decide +kernel⟩
abbrev s_makes : Stmt := topS 16
theorem sc_makes : FnScope ["body", "known", "literal"] ["body"] (defScope s_makes) := ⟨rfl, rfl, rfl, by decide +kernel, rfl, by decide +kernel, by decide +kernel⟩
abbrev s_edges : Stmt := topS 17
theorem sc_edges : FnScope ["state", "found", "relation", "_", "body"] ["state"] (defScope s_edges) := ⟨rfl, rfl, rfl, by decide +kernel, rfl, by decide +kernel, by decide +kernel⟩
abbrev s_reached : Stmt := topS 18
theorem sc_reached : FnScope ["graph", "relation", "found", "todo", "other", "_"] ["graph", "relation"] (defScope s_reached) := ⟨rfl, rfl, rfl, by decide +kernel, rfl, by decide +kernel, by decide +kernel⟩
abbrev s_has_ring : Stmt := topS 19
theorem sc_has_ring : FnScope ["state", "graph", "relation", "other", "below"] ["state"] (defScope s_has_ring) := ⟨rfl, rfl, rfl, by decide +kernel, rfl, by decide +kernel, by decide +kernel⟩
abbrev s_growing : Stmt := topS 20
theorem sc_growing : FnScope ["state", "graph", "name", "relation", "_", "body", "other"] ["state"] (defScope s_growing) := ⟨rfl, rfl, rfl, by decide +kernel, rfl, by decide +kernel, by decide +kernel⟩
abbrev s_check_rule : Stmt := topS 21
theorem sc_check_rule : FnScope ["state", "name", "relation", "terms", "body", "width", "after", "first"] ["state", "name", "relation", "terms", "body"] (defScope s_check_rule) := ⟨rfl, rfl, rfl, by decide +kernel, rfl, by decide +kernel, by decide +kernel⟩
abbrev s_law_relations_of : Stmt := topS 42
theorem sc_law_relations_of : FnScope ["_law_body_here", "_law_pairs", "_law_literal_here"] ["_law_body_here"] (defScope s_law_relations_of) := ⟨rfl, rfl, rfl, by decide +kernel, rfl, by decide +kernel, by decide +kernel⟩
abbrev s_law_reach : Stmt := topS 43
theorem sc_law_reach : FnScope ["_law_rules", "_law_reach_here", "_law_name", "_law_turn", "_law_relation", "_law_other", "_law_below", "_law_each"] ["_law_rules"] (defScope s_law_reach) := ⟨rfl, rfl, rfl, by decide +kernel, rfl, by decide +kernel, by decide +kernel⟩
abbrev s_law_makes : Stmt := topS 44
theorem sc_law_makes : FnScope ["_law_body_here", "_law_bound", "_law_literal_here"] ["_law_body_here"] (defScope s_law_makes) := ⟨rfl, rfl, rfl, by decide +kernel, rfl, by decide +kernel, by decide +kernel⟩
abbrev s_law_ring : Stmt := topS 45
theorem sc_law_ring : FnScope ["_law_rules", "_law_reach_here", "_law_name", "_law_other", "_law_below"] ["_law_rules"] (defScope s_law_ring) := ⟨rfl, rfl, rfl, by decide +kernel, rfl, by decide +kernel, by decide +kernel⟩
abbrev s_law_growing : Stmt := topS 46
theorem sc_law_growing : FnScope ["_law_rules", "_law_reach_here", "_law_name", "_law_relation", "_law_terms", "_law_body_here", "_law_back", "_law_other", "_law_below"] ["_law_rules"] (defScope s_law_growing) := ⟨rfl, rfl, rfl, by decide +kernel, rfl, by decide +kernel, by decide +kernel⟩
abbrev s_law_rule_problem : Stmt := topS 47
theorem sc_law_rule_problem : FnScope ["_law_world", "_law_name", "_law_relation", "_law_terms", "_law_body_here", "_law_widths_here", "_law_problem", "_law_bound", "_law_rules"] ["_law_world", "_law_name", "_law_relation", "_law_terms", "_law_body_here"] (defScope s_law_rule_problem) := ⟨rfl, rfl, rfl, by decide +kernel, rfl, by decide +kernel, by decide +kernel⟩
abbrev s_check_denial : Stmt := topS 22
theorem sc_check_denial : FnScope ["state", "name", "body"] ["state", "name", "body"] (defScope s_check_denial) := ⟨rfl, rfl, rfl, by decide +kernel, rfl, by decide +kernel, by decide +kernel⟩
abbrev s_is_sound : Stmt := topS 26
theorem sc_is_sound : FnScope ["state", "name", "row", "relation", "terms", "body"] ["state"] (defScope s_is_sound) := ⟨rfl, rfl, rfl, by decide +kernel, rfl, by decide +kernel, by decide +kernel⟩
abbrev s_law_is_due : Stmt := topS 48
theorem sc_law_is_due : FnScope ["_law_world", "_law_facts", "_law_denials", "_law_name", "_law_row", "_law_rules", "_law_relation", "_law_terms", "_law_body_here"] ["_law_world", "_law_facts", "_law_denials"] (defScope s_law_is_due) := ⟨rfl, rfl, rfl, by decide +kernel, rfl, by decide +kernel, by decide +kernel⟩
abbrev s_law_drawn_rule : Stmt := topS 49
theorem sc_law_drawn_rule : FnScope ["_law_state", "_law_widths_here", "_law_relation", "_law_more", "_law_body_here", "_law_bound", "_law_literal_here", "_law_count", "_law_terms", "_law_k", "_law_term_here"] ["_law_state", "_law_widths_here"] (defScope s_law_drawn_rule) := ⟨rfl, rfl, rfl, by decide +kernel, rfl, by decide +kernel, by decide +kernel⟩
abbrev s_law : Stmt := topS 50
theorem sc_law : FnScope ["_law_script", "_law_state", "_law_k", "_law_widths_here", "_law_world", "_law_facts", "_law_j", "_law_name", "_law_row", "_law_i", "_law_denials", "_law_items", "_law_actual", "_law_before"] ["_law_script"] (defScope s_law) := ⟨rfl, rfl, rfl, by decide +kernel, rfl, by decide +kernel, by decide +kernel⟩
def P : Program := PySem.Challenge.pw_rulestead_k23_sound_states
structure AD where
  Refused___init__ : Addr
  value_key : Addr
  row_key : Addr
  columns : Addr
  check_atom : Addr
  check_terms : Addr
  variables_of : Addr
  check_literal : Addr
  check_body : Addr
  State___init__ : Addr
  State_put : Addr
  State_tidy : Addr
  State_all_items : Addr
  State_has : Addr
  law_next : Addr
  law_same : Addr
  law_worth : Addr
  law_variable : Addr
  law_term : Addr
  law_settled : Addr
  law_literal : Addr
  law_binds : Addr
  law_body : Addr
  law_loose : Addr
  law_literal_problem : Addr
  law_body_problem : Addr
  law_each_once : Addr
  law_widths : Addr
  State_take : Addr
  State_copy : Addr
  State_change : Addr
  relations_of : Addr
  makes : Addr
  edges : Addr
  reached : Addr
  has_ring : Addr
  growing : Addr
  check_rule : Addr
  law_relations_of : Addr
  law_reach : Addr
  law_makes : Addr
  law_ring : Addr
  law_growing : Addr
  law_rule_problem : Addr
  check_denial : Addr
  is_sound : Addr
  law_is_due : Addr
  law_drawn_rule : Addr
  law : Addr
  e0_State___init__ : Addr
  State : Addr
  Refused : Addr
  t_MOST_COLUMNS : Tok
structure FD where
  Refused___init__ : FuncData
  value_key : FuncData
  row_key : FuncData
  columns : FuncData
  check_atom : FuncData
  check_terms : FuncData
  variables_of : FuncData
  check_literal : FuncData
  check_body : FuncData
  State___init__ : FuncData
  State_put : FuncData
  State_tidy : FuncData
  State_all_items : FuncData
  State_has : FuncData
  law_next : FuncData
  law_same : FuncData
  law_worth : FuncData
  law_variable : FuncData
  law_term : FuncData
  law_settled : FuncData
  law_literal : FuncData
  law_binds : FuncData
  law_body : FuncData
  law_loose : FuncData
  law_literal_problem : FuncData
  law_body_problem : FuncData
  law_each_once : FuncData
  law_widths : FuncData
  State_take : FuncData
  State_copy : FuncData
  State_change : FuncData
  relations_of : FuncData
  makes : FuncData
  edges : FuncData
  reached : FuncData
  has_ring : FuncData
  growing : FuncData
  check_rule : FuncData
  law_relations_of : FuncData
  law_reach : FuncData
  law_makes : FuncData
  law_ring : FuncData
  law_growing : FuncData
  law_rule_problem : FuncData
  check_denial : FuncData
  is_sound : FuncData
  law_is_due : FuncData
  law_drawn_rule : FuncData
  law : FuncData
structure Txt (K : PySem.W.Frag) (mg : Str → Option Value) (a : AD) (d : FD) : Prop where
  F_value_key : Fun K "value_key" "value_key" s_value_key a.value_key d.value_key
  g_value_key : mg "value_key" = some (.ref a.value_key)
  b_value_key : Binds K d.value_key ["value"] []
  F_row_key : Fun K "row_key" "row_key" s_row_key a.row_key d.row_key
  g_row_key : mg "row_key" = some (.ref a.row_key)
  b_row_key : Binds K d.row_key ["row"] []
  F_columns : Fun K "columns" "columns" s_columns a.columns d.columns
  g_columns : mg "columns" = some (.ref a.columns)
  b_columns : Binds K d.columns ["state", "relation"] []
  F_check_atom : Fun K "check_atom" "check_atom" s_check_atom a.check_atom d.check_atom
  g_check_atom : mg "check_atom" = some (.ref a.check_atom)
  b_check_atom : Binds K d.check_atom ["state", "relation", "terms"] []
  F_check_terms : Fun K "check_terms" "check_terms" s_check_terms a.check_terms d.check_terms
  g_check_terms : mg "check_terms" = some (.ref a.check_terms)
  b_check_terms : Binds K d.check_terms ["terms", "known", "lets_any"] []
  F_variables_of : Fun K "variables_of" "variables_of" s_variables_of a.variables_of d.variables_of
  g_variables_of : mg "variables_of" = some (.ref a.variables_of)
  b_variables_of : Binds K d.variables_of ["terms"] []
  F_check_literal : Fun K "check_literal" "check_literal" s_check_literal a.check_literal d.check_literal
  g_check_literal : mg "check_literal" = some (.ref a.check_literal)
  b_check_literal : Binds K d.check_literal ["state", "literal", "known"] []
  F_check_body : Fun K "check_body" "check_body" s_check_body a.check_body d.check_body
  g_check_body : mg "check_body" = some (.ref a.check_body)
  b_check_body : Binds K d.check_body ["state", "body"] []
  F_State___init__ : FunD K "__init__" "State.__init__" (defArgs s_State___init__) (defBody s_State___init__) (defScope s_State___init__) [.ref a.e0_State___init__] [] a.State___init__ d.State___init__
  bd_State___init__ : Binds K d.State___init__ ["self", "items"] [.ref a.e0_State___init__]
  e0_State___init__ : Tup0 K a.e0_State___init__
  m_State___init__ : Meth K a.State "__init__" a.State___init__
  b_State___init__ : Binds K d.State___init__ ["self", "items"] []
  F_State_put : Fun K "put" "State.put" s_State_put a.State_put d.State_put
  m_State_put : Meth K a.State "put" a.State_put
  b_State_put : Binds K d.State_put ["self", "item"] []
  F_State_tidy : Fun K "tidy" "State.tidy" s_State_tidy a.State_tidy d.State_tidy
  m_State_tidy : Meth K a.State "tidy" a.State_tidy
  b_State_tidy : Binds K d.State_tidy ["self"] []
  F_State_all_items : Fun K "all_items" "State.all_items" s_State_all_items a.State_all_items d.State_all_items
  m_State_all_items : Meth K a.State "all_items" a.State_all_items
  b_State_all_items : Binds K d.State_all_items ["self"] []
  F_State_has : Fun K "has" "State.has" s_State_has a.State_has d.State_has
  m_State_has : Meth K a.State "has" a.State_has
  b_State_has : Binds K d.State_has ["self", "relation", "row"] []
  F_law_next : Fun K "_law_next" "_law_next" s_law_next a.law_next d.law_next
  g_law_next : mg "_law_next" = some (.ref a.law_next)
  b_law_next : Binds K d.law_next ["_law_state", "_law_limit"] []
  F_law_same : Fun K "_law_same" "_law_same" s_law_same a.law_same d.law_same
  g_law_same : mg "_law_same" = some (.ref a.law_same)
  b_law_same : Binds K d.law_same ["_law_actual", "_law_expected"] []
  F_law_worth : Fun K "_law_worth" "_law_worth" s_law_worth a.law_worth d.law_worth
  g_law_worth : mg "_law_worth" = some (.ref a.law_worth)
  b_law_worth : Binds K d.law_worth ["_law_state"] []
  F_law_variable : Fun K "_law_variable" "_law_variable" s_law_variable a.law_variable d.law_variable
  g_law_variable : mg "_law_variable" = some (.ref a.law_variable)
  b_law_variable : Binds K d.law_variable ["_law_state"] []
  F_law_term : Fun K "_law_term" "_law_term" s_law_term a.law_term d.law_term
  g_law_term : mg "_law_term" = some (.ref a.law_term)
  b_law_term : Binds K d.law_term ["_law_state", "_law_bound"] []
  F_law_settled : Fun K "_law_settled" "_law_settled" s_law_settled a.law_settled d.law_settled
  g_law_settled : mg "_law_settled" = some (.ref a.law_settled)
  b_law_settled : Binds K d.law_settled ["_law_term_here", "_law_bound"] []
  F_law_literal : Fun K "_law_literal" "_law_literal" s_law_literal a.law_literal d.law_literal
  g_law_literal : mg "_law_literal" = some (.ref a.law_literal)
  b_law_literal : Binds K d.law_literal ["_law_state", "_law_widths_here", "_law_bound", "_law_careful"] []
  F_law_binds : Fun K "_law_binds" "_law_binds" s_law_binds a.law_binds d.law_binds
  g_law_binds : mg "_law_binds" = some (.ref a.law_binds)
  b_law_binds : Binds K d.law_binds ["_law_literal_here"] []
  F_law_body : Fun K "_law_body" "_law_body" s_law_body a.law_body d.law_body
  g_law_body : mg "_law_body" = some (.ref a.law_body)
  b_law_body : Binds K d.law_body ["_law_state", "_law_widths_here", "_law_careful", "_law_most"] []
  F_law_loose : Fun K "_law_loose" "_law_loose" s_law_loose a.law_loose d.law_loose
  g_law_loose : mg "_law_loose" = some (.ref a.law_loose)
  b_law_loose : Binds K d.law_loose ["_law_terms", "_law_bound", "_law_lets_any"] []
  F_law_literal_problem : Fun K "_law_literal_problem" "_law_literal_problem" s_law_literal_problem a.law_literal_problem d.law_literal_problem
  g_law_literal_problem : mg "_law_literal_problem" = some (.ref a.law_literal_problem)
  b_law_literal_problem : Binds K d.law_literal_problem ["_law_widths_here", "_law_literal_here", "_law_bound"] []
  F_law_body_problem : Fun K "_law_body_problem" "_law_body_problem" s_law_body_problem a.law_body_problem d.law_body_problem
  g_law_body_problem : mg "_law_body_problem" = some (.ref a.law_body_problem)
  b_law_body_problem : Binds K d.law_body_problem ["_law_widths_here", "_law_body_here"] []
  F_law_each_once : Fun K "_law_each_once" "_law_each_once" s_law_each_once a.law_each_once d.law_each_once
  g_law_each_once : mg "_law_each_once" = some (.ref a.law_each_once)
  b_law_each_once : Binds K d.law_each_once ["_law_names"] []
  F_law_widths : Fun K "_law_widths" "_law_widths" s_law_widths a.law_widths d.law_widths
  g_law_widths : mg "_law_widths" = some (.ref a.law_widths)
  b_law_widths : Binds K d.law_widths ["_law_world"] []
  F_State_take : Fun K "take" "State.take" s_State_take a.State_take d.State_take
  m_State_take : Meth K a.State "take" a.State_take
  b_State_take : Binds K d.State_take ["self", "key"] []
  F_State_copy : Fun K "copy" "State.copy" s_State_copy a.State_copy d.State_copy
  m_State_copy : Meth K a.State "copy" a.State_copy
  b_State_copy : Binds K d.State_copy ["self"] []
  F_State_change : Fun K "change" "State.change" s_State_change a.State_change d.State_change
  m_State_change : Meth K a.State "change" a.State_change
  b_State_change : Binds K d.State_change ["self", "changes"] []
  F_relations_of : Fun K "relations_of" "relations_of" s_relations_of a.relations_of d.relations_of
  g_relations_of : mg "relations_of" = some (.ref a.relations_of)
  b_relations_of : Binds K d.relations_of ["body"] []
  F_makes : Fun K "makes" "makes" s_makes a.makes d.makes
  g_makes : mg "makes" = some (.ref a.makes)
  b_makes : Binds K d.makes ["body"] []
  F_edges : Fun K "edges" "edges" s_edges a.edges d.edges
  g_edges : mg "edges" = some (.ref a.edges)
  b_edges : Binds K d.edges ["state"] []
  F_reached : Fun K "reached" "reached" s_reached a.reached d.reached
  g_reached : mg "reached" = some (.ref a.reached)
  b_reached : Binds K d.reached ["graph", "relation"] []
  F_has_ring : Fun K "has_ring" "has_ring" s_has_ring a.has_ring d.has_ring
  g_has_ring : mg "has_ring" = some (.ref a.has_ring)
  b_has_ring : Binds K d.has_ring ["state"] []
  F_growing : Fun K "growing" "growing" s_growing a.growing d.growing
  g_growing : mg "growing" = some (.ref a.growing)
  b_growing : Binds K d.growing ["state"] []
  F_check_rule : Fun K "check_rule" "check_rule" s_check_rule a.check_rule d.check_rule
  g_check_rule : mg "check_rule" = some (.ref a.check_rule)
  b_check_rule : Binds K d.check_rule ["state", "name", "relation", "terms", "body"] []
  F_law_relations_of : Fun K "_law_relations_of" "_law_relations_of" s_law_relations_of a.law_relations_of d.law_relations_of
  g_law_relations_of : mg "_law_relations_of" = some (.ref a.law_relations_of)
  b_law_relations_of : Binds K d.law_relations_of ["_law_body_here"] []
  F_law_reach : Fun K "_law_reach" "_law_reach" s_law_reach a.law_reach d.law_reach
  g_law_reach : mg "_law_reach" = some (.ref a.law_reach)
  b_law_reach : Binds K d.law_reach ["_law_rules"] []
  F_law_makes : Fun K "_law_makes" "_law_makes" s_law_makes a.law_makes d.law_makes
  g_law_makes : mg "_law_makes" = some (.ref a.law_makes)
  b_law_makes : Binds K d.law_makes ["_law_body_here"] []
  F_law_ring : Fun K "_law_ring" "_law_ring" s_law_ring a.law_ring d.law_ring
  g_law_ring : mg "_law_ring" = some (.ref a.law_ring)
  b_law_ring : Binds K d.law_ring ["_law_rules"] []
  F_law_growing : Fun K "_law_growing" "_law_growing" s_law_growing a.law_growing d.law_growing
  g_law_growing : mg "_law_growing" = some (.ref a.law_growing)
  b_law_growing : Binds K d.law_growing ["_law_rules"] []
  F_law_rule_problem : Fun K "_law_rule_problem" "_law_rule_problem" s_law_rule_problem a.law_rule_problem d.law_rule_problem
  g_law_rule_problem : mg "_law_rule_problem" = some (.ref a.law_rule_problem)
  b_law_rule_problem : Binds K d.law_rule_problem ["_law_world", "_law_name", "_law_relation", "_law_terms", "_law_body_here"] []
  F_check_denial : Fun K "check_denial" "check_denial" s_check_denial a.check_denial d.check_denial
  g_check_denial : mg "check_denial" = some (.ref a.check_denial)
  b_check_denial : Binds K d.check_denial ["state", "name", "body"] []
  F_is_sound : Fun K "is_sound" "is_sound" s_is_sound a.is_sound d.is_sound
  g_is_sound : mg "is_sound" = some (.ref a.is_sound)
  b_is_sound : Binds K d.is_sound ["state"] []
  F_law_is_due : Fun K "_law_is_due" "_law_is_due" s_law_is_due a.law_is_due d.law_is_due
  g_law_is_due : mg "_law_is_due" = some (.ref a.law_is_due)
  b_law_is_due : Binds K d.law_is_due ["_law_world", "_law_facts", "_law_denials"] []
  F_law_drawn_rule : Fun K "_law_drawn_rule" "_law_drawn_rule" s_law_drawn_rule a.law_drawn_rule d.law_drawn_rule
  g_law_drawn_rule : mg "_law_drawn_rule" = some (.ref a.law_drawn_rule)
  b_law_drawn_rule : Binds K d.law_drawn_rule ["_law_state", "_law_widths_here"] []
  F_law : Fun K "law" "law" s_law a.law d.law
  g_law : mg "law" = some (.ref a.law)
  b_law : Binds K d.law ["_law_script"] []
  g_State : mg "State" = some (.ref a.State)
  cl_State : Cls K a.State
  mk_State : Mk K a.State a.State___init__
  na_State_relations : NoAttr K a.State "relations"
  na_State_facts : NoAttr K a.State "facts"
  na_State_rules : NoAttr K a.State "rules"
  na_State_denials : NoAttr K a.State "denials"
  g_Refused : mg "Refused" = some (.ref a.Refused)
  X_Refused : SupX.ExF P K mg a.Refused a.Refused___init__ d.Refused___init__ "problem" "problem"
  kp_Refused : PySem.W.keepIn K (.ref a.Refused) = true
  bs_Refused : PySem.W.subIn K (.ref a.Refused) (.type "BaseException") = some true
  ty_Refused : PySem.W.typeIn K (.ref a.Refused) = some (.type "type")
  hd_Refused : PySem.W.hasDictIn K a.Refused = true
  s_Refused_Refused : PySem.W.subIn K (.ref a.Refused) (.ref a.Refused) = some true
  n_bool : mg "bool" = none
  n_dict : mg "dict" = none
  n_int : mg "int" = none
  n_isinstance : mg "isinstance" = none
  n_len : mg "len" = none
  n_list : mg "list" = none
  n_range : mg "range" = none
  n_sorted : mg "sorted" = none
  n_str : mg "str" = none
  n_tuple : mg "tuple" = none
  c_MOST_COLUMNS : mg "MOST_COLUMNS" = some (.int 4 a.t_MOST_COLUMNS)
local macro_rules | `(tactic| walk_at "len") => `(tactic| first | decide | omega | (simp only [List.length_append, List.length_map, List.length_replicate, List.length_cons, List.length_nil, List.length_take, List.length_drop, List.length_reverse, List.length_range]; omega))
local macro_rules | `(tactic| walk_at "str") => `(tactic| first | decide +kernel | exact goodS_ok (by assumption) | assumption)
local macro_rules | `(tactic| walk_at "1") => `(tactic| ((with_reducible show ∃ ds : List PyData, datsOf _ = some ds ∧ _); (refine ⟨_, rfl, ?_⟩)))
local macro_rules | `(tactic| walk_at "1") => `(tactic| ((with_reducible show List.length _ ≤ 1000000 ∧ _); (refine ⟨(by simp), ?_⟩)))
local macro_rules | `(tactic| walk_at "1") => `(tactic| ((with_reducible show ∃ i : Int, _ = Sl.int i ∧ _); (with_reducible refine ⟨_, rfl, ?_⟩)))
local macro_rules | `(tactic| walk_at "1") => `(tactic| ((with_reducible show ∃ b : Bool, _ = Sl.bl b ∧ _); (with_reducible refine ⟨_, rfl, ?_⟩)))
local macro_rules | `(tactic| walk_at "1") => `(tactic| ((with_reducible refine' ite_f ?hb ?_); (case hb => decide +kernel); skip))
local macro_rules | `(tactic| walk_at "1") => `(tactic| ((with_reducible refine' ite_t ?hb ?_); (case hb => decide +kernel); skip))
local macro_rules | `(tactic| walk_at "1") => `(tactic| (with_reducible refine ite_f rfl ?_))
local macro_rules | `(tactic| walk_at "1") => `(tactic| (with_reducible refine ite_t rfl ?_))
local macro_rules | `(tactic| walk_at "1") => `(tactic| ((with_reducible show WS _ Ends.nx _ _ _); (refine ws_next ?_)))
local macro_rules | `(tactic| walk_at "1") => `(tactic| (with_reducible refine ws_next ?_))
local macro_rules | `(tactic| walk_at "1") => `(tactic| ((with_reducible refine' ws_fldI ?hv ?c ?n ?_); (case hv => exact rfl); (case c => assumption); (case n => assumption); skip))
local macro_rules | `(tactic| walk_at "1") => `(tactic| ((with_reducible refine' w_dgetI ?hv ?hM ?hx ?_); (case hv => exact rfl); (case hM => first | assumption | exact um_same); (case hx => walk_at "wg"); skip))
local macro_rules | `(tactic| walk_at "1") => `(tactic| ((with_reducible refine' w_fldI ?hv ?hM ?c ?n ?l ?_); (case hv => exact rfl); (case hM => first | assumption | exact um_same); (case c => assumption); (case n => assumption); (case l => walk_at "fl"); skip))
local macro_rules | `(tactic| walk_at "1") => `(tactic| ((with_reducible show WL _ _ [_] _ _); (refine' wl_lenT ?hl ?_); (case hl => exact tpv_dat); skip))
local macro_rules | `(tactic| walk_at "1") => `(tactic| ((with_reducible show W2 _ (rCatA _) _ _ _ _); (refine' w2_catT ?hl ?_); (try (case hl => walk_at "len")); skip))
local macro_rules | `(tactic| walk_at "1") => `(tactic| ((with_reducible show WL _ (rTupS _) [Sl.dat (PyData.list _)] _ _); (refine wl_tuple lsv_dat ?_)))
local macro_rules | `(tactic| walk_at "1") => `(tactic| ((with_reducible show WSl _ (rSlA _) _ _ _ _ _); (refine wsl_tup ?_)))
local macro_rules | `(tactic| walk_at "1") => `(tactic| ((with_reducible show W _ (tC (V.ref _)) _ _ _); (refine w_raw ?_)))
local macro_rules | `(tactic| walk_at "1") => `(tactic| ((with_reducible show W _ (tC (V.ty _)) _ _ _); (refine w_raw ?_)))
local macro_rules | `(tactic| walk_at "1") => `(tactic| ((with_reducible show WL _ (rIsi _) [_, _] _ _); (refine' wl_isi ?hb ?_); (case hb => first | exact isi_bool _ | exact isi_int _ | exact isi_str _ | exact isi_tuple _ | exact isi_list _); skip))
local macro_rules | `(tactic| walk_at "1") => `(tactic| ((with_reducible show W2 _ (rIxT _) _ _ _ _); (refine' w2_ixT ?hx ?_); (case hx => exact rfl); skip))
local macro_rules | `(tactic| walk_at "1") => `(tactic| ((with_reducible show W2 _ (rIxL _) _ _ _ _); (refine' w2_ixL ?hs ?hx ?_); (case hs => first | exact lsv_dat | exact lsv_ref um_same | exact lsv_ref (by assumption)); (try (case hx => exact rfl)); skip))
local macro_rules | `(tactic| walk_at "1") => `(tactic| ((with_reducible first | show W2 _ (rIxL _) (Sl.dat (PyData.list (List.cons _ _))) (Sl.dat (PyData.int _)) _ _ | show W2 _ (rIxL _) (Sl.dat (PyData.list (List.map PyData.int (List.cons _ _)))) (Sl.dat (PyData.int _)) _ _); (refine' w2_ixAny ?h0 ?h1 ?_); (case h0 => omega); (case h1 => first | omega | (simp only [List.length_cons, List.length_nil, List.length_map]; omega)); skip))
local macro_rules | `(tactic| walk_at "1") => `(tactic| ((with_reducible show WL _ _ [_, _] _ _); (refine wl_min ?_)))
local macro_rules | `(tactic| walk_at "1") => `(tactic| ((with_reducible show WL _ _ [_] _ _); (refine wl_intb ?_)))
local macro_rules | `(tactic| walk_at "1") => `(tactic| ((with_reducible show WL _ _ [_] _ _); (refine wl_int ?_)))
local macro_rules | `(tactic| walk_at "1") => `(tactic| ((with_reducible show WSl _ (rSlL _) _ _ _ _ _); (refine' wsl_lst ?hl ?_); (case hl => first | exact lsv_dat | exact lsv_ref um_same | exact lsv_ref (by assumption)); skip))
local macro_rules | `(tactic| walk_at "1") => `(tactic| ((with_reducible show WL _ _ [_] _ _); (refine' wl_list ?hl ?_); (case hl => first | exact .inl lsv_dat | exact .inl (lsv_ref (by assumption))); skip))
local macro_rules | `(tactic| walk_at "1") => `(tactic| ((with_reducible show WL _ _ [_] _ _); (refine' wl_len ?hl ?_); (case hl => first | exact lsv_dat | exact lsv_ref um_same | exact lsv_ref (by assumption)); skip))
local macro_rules | `(tactic| walk_at "1") => `(tactic| ((with_reducible refine' w2_rep1 ?h1 ?h2 ?_); (try (case h1 => first | decide | omega)); (try (case h2 => first | decide | omega)); skip))
local macro_rules | `(tactic| walk_at "1") => `(tactic| ((with_reducible refine' w2_catE ?hl ?_); (try (case hl => walk_at "len")); skip))
local macro_rules | `(tactic| walk_at "1") => `(tactic| (with_reducible refine wsl_E ?_))
local macro_rules | `(tactic| walk_at "1") => `(tactic| (with_reducible refine wl_listE ?_))
local macro_rules | `(tactic| walk_at "1") => `(tactic| (with_reducible refine wl_lenTD ?_))
local macro_rules | `(tactic| walk_at "1") => `(tactic| (with_reducible refine wl_lenD ?_))
local macro_rules | `(tactic| walk_at "1") => `(tactic| (with_reducible refine wl_lenE ?_))
local macro_rules | `(tactic| walk_at "1") => `(tactic| ((with_reducible show W2 _ _ _ _ _ _); (refine w2_notN ?_)))
local macro_rules | `(tactic| walk_at "1") => `(tactic| ((with_reducible show W2 _ rNotB _ _ _ _); (refine w2_notB ?_)))
local macro_rules | `(tactic| walk_at "1") => `(tactic| ((with_reducible show W2 _ rIsB _ _ _ _); (refine w2_isB ?_)))
local macro_rules | `(tactic| walk_at "1") => `(tactic| ((with_reducible show W2 _ _ _ _ _ _); (refine w2_isN ?_)))
local macro_rules | `(tactic| walk_at "1") => `(tactic| ((with_reducible show W2 _ (rNeD _) _ _ _ _); (refine w2_ne ?ha ?hb ?_); (case ha => first | exact shaped_int _ | exact shaped_bool _ | exact shaped_none); (case hb => first | exact shaped_int _ | exact shaped_bool _ | exact shaped_none); skip))
local macro_rules | `(tactic| walk_at "1") => `(tactic| ((with_reducible show W2 _ (rEqD _) _ _ _ _); (refine w2_eq ?ha ?hb ?_); (case ha => first | exact shaped_int _ | exact shaped_bool _ | exact shaped_none); (case hb => first | exact shaped_int _ | exact shaped_bool _ | exact shaped_none); skip))
local macro_rules | `(tactic| walk_at "1") => `(tactic| ((with_reducible show W2 _ (rNeD _) (Sl.dat (PyData.str _)) (Sl.dat (PyData.str _)) _ _); (refine' w2_neS ?h1 ?h2 ?_); (case h1 => walk_at "str"); (case h2 => walk_at "str"); skip))
local macro_rules | `(tactic| walk_at "1") => `(tactic| ((with_reducible show W2 _ (rEqD _) (Sl.dat (PyData.str _)) (Sl.dat (PyData.str _)) _ _); (refine' w2_eqS ?h1 ?h2 ?_); (case h1 => walk_at "str"); (case h2 => walk_at "str"); skip))
local macro_rules | `(tactic| walk_at "1") => `(tactic| ((with_reducible show W2 _ (rNeD _) (Sl.dat (PyData.int _)) (Sl.dat (PyData.int _)) _ _); (refine w2_neI ?_)))
local macro_rules | `(tactic| walk_at "1") => `(tactic| ((with_reducible show W2 _ (rEqD _) (Sl.dat (PyData.int _)) (Sl.dat (PyData.int _)) _ _); (refine w2_eqI ?_)))
local macro_rules | `(tactic| walk_at "1") => `(tactic| ((with_reducible refine' w_var ?hv ?_); (case hv => exact rfl); skip))
local macro_rules | `(tactic| walk_at "1") => `(tactic| ((with_reducible refine w2_i ?hc ?_); (case hc => first | decide | exact ⟨by decide, by decide⟩ | exact Or.inl ⟨by decide, by decide⟩ | exact Or.inr ⟨by decide, by decide⟩ | exact ⟨by decide, by decide, by decide⟩ | omega); skip))
local macro_rules | `(tactic| walk_at "1") => `(tactic| (with_reducible refine w1_neg ?_))
local macro_rules | `(tactic| walk_at "1") => `(tactic| (with_reducible refine w2_b0 ?_))
local macro_rules | `(tactic| walk_at "1") => `(tactic| (with_reducible refine w2_i0 ?_))
local macro_rules | `(tactic| walk_at "1") => `(tactic| (with_reducible refine wt_yes ?_))
local macro_rules | `(tactic| walk_at "1") => `(tactic| (with_reducible refine wt_not ?_))
local macro_rules | `(tactic| walk_at "1") => `(tactic| (with_reducible refine wt_or ?_))
local macro_rules | `(tactic| walk_at "1") => `(tactic| (with_reducible refine wt_and ?_))
local macro_rules | `(tactic| walk_at "1") => `(tactic| (with_reducible refine wt_B ?_))
local macro_rules | `(tactic| walk_at "1") => `(tactic| (with_reducible refine wt_test ?_))
local macro_rules | `(tactic| walk_at "1") => `(tactic| (with_reducible refine wa_nil ?_))
local macro_rules | `(tactic| walk_at "1") => `(tactic| (with_reducible refine wa_cons ?_))
local macro_rules | `(tactic| walk_at "1") => `(tactic| (with_reducible refine wo_some ?_))
local macro_rules | `(tactic| walk_at "1") => `(tactic| (with_reducible refine wo_none ?_))
local macro_rules | `(tactic| walk_at "1") => `(tactic| (with_reducible refine w_notV ?_))
local macro_rules | `(tactic| walk_at "1") => `(tactic| (with_reducible refine w_orV ?_))
local macro_rules | `(tactic| walk_at "1") => `(tactic| (with_reducible refine w_andV ?_))
local macro_rules | `(tactic| walk_at "1") => `(tactic| (with_reducible refine w_chain ?_))
local macro_rules | `(tactic| walk_at "1") => `(tactic| (with_reducible refine w_tupD ?_))
local macro_rules | `(tactic| walk_at "1") => `(tactic| (with_reducible refine w_sl ?_))
local macro_rules | `(tactic| walk_at "1") => `(tactic| (with_reducible refine w_call ?_))
local macro_rules | `(tactic| walk_at "1") => `(tactic| (with_reducible refine w_cb ?_))
local macro_rules | `(tactic| walk_at "1") => `(tactic| (with_reducible refine w_str ?_))
local macro_rules | `(tactic| walk_at "1") => `(tactic| (with_reducible refine w_non ?_))
local macro_rules | `(tactic| walk_at "1") => `(tactic| (with_reducible refine w_bl ?_))
local macro_rules | `(tactic| walk_at "1") => `(tactic| (with_reducible refine w_int ?_))
local macro_rules | `(tactic| walk_at "1") => `(tactic| (with_reducible refine w_un ?_))
local macro_rules | `(tactic| walk_at "1") => `(tactic| (with_reducible refine w_op ?_))
local macro_rules | `(tactic| walk_at "1") => `(tactic| (with_reducible refine ws_drop ?_))
local macro_rules | `(tactic| walk_at "1") => `(tactic| (with_reducible refine ws_if ?_))
local macro_rules | `(tactic| walk_at "1") => `(tactic| (with_reducible refine ws_ret ?_))
local macro_rules | `(tactic| walk_at "1") => `(tactic| (with_reducible refine ws_set ?_))
local macro_rules | `(tactic| walk_at "1e") => `(tactic| walk_at "1")
local macro_rules | `(tactic| walk_at "1e") => `(tactic| (with_reducible refine ws_seq ?_))
local macro_rules | `(tactic| walk_at "1g") => `(tactic| (with_reducible refine w_lstD ?_))
local macro_rules | `(tactic| walk_at "1g") => `(tactic| ((with_reducible refine w_lstI (wa_cons ?_)); (repeat (walk_at "1")); (with_reducible show ∃ ns : List Int, itemsI _ = some ns ∧ _); (refine ⟨_, rfl, ?_⟩)))
local macro_rules | `(tactic| walk_at "1g") => `(tactic| walk_at "1")
local macro_rules | `(tactic| walk_at "1f") => `(tactic| walk_at "1g")
local macro_rules | `(tactic| walk_at "1f") => `(tactic| (with_reducible refine ws_seq ?_))
local macro_rules | `(tactic| walk_at "e") => `(tactic| repeat (walk_at "1e"))
local macro_rules | `(tactic| walk_at "g") => `(tactic| repeat (walk_at "1g"))
local macro_rules | `(tactic| walk_at "f") => `(tactic| repeat (walk_at "1f"))
local macro_rules | `(tactic| walk_at "k") => `(tactic| first | dsimp only [cxOf, Cx.nox, Cx.wish] | skip)
section
variable {w : World} {K : PySem.W.Frag} {mg : Str → Option Value} {base : Heap} {a : AD} {d : FD}
def A_value_key : ASp := fun ss M Q => ∃ v : Val, ss = [.dat v.enc] ∧ Q (.dat (vkey v)) M
theorem ok_value_key (T : Txt K mg a d) : FnOk P w K mg base CX0 1 a.value_key d.value_key ["value"] (conc K A_value_key) := by
  refine ab_ok T.F_value_key sc_value_key (fun ss M Q ⟨v, e, _⟩ => by subst e; rfl) fun cdv Ar outer s H E hr => ⟨_, (pss_cons (ps_if (pt_val (pe_callB (r := rIsi K) call_isi (by rfl) T.n_isinstance (by decide +kernel) (pa_cons (pv 0) (pa_cons (pe_bltn (v := .ty "str") (u := .type "str") (by rfl) T.n_str (by decide +kernel) rfl) pa_nil)))) (pss_one (ps_ret (pe_tup (pa_cons pe_int (pa_cons (pv 0) pa_nil))))) pss_nil)
  (pss_one (ps_ret (pe_tup (pa_cons pe_int (pa_cons (pv 0) pa_nil)))))), ?_⟩
  rintro ss M Q ⟨v, rfl, q⟩
  walk_at "k"
  show WS K _ [some (.dat v.enc)] M _
  cases v with
  | int n =>
    walk_at "e"
    exact q
  | str z =>
    walk_at "e"
    exact q
def A_row_key : ASp := fun ss M Q => ∃ row : List Val, ss = [.dat (encR row)] ∧ row.length ≤ 1000000 ∧ Q (.dat (rkey row)) M
theorem ok_row_key (T : Txt K mg a d) : FnOk P w K mg base CX0 2 a.row_key d.row_key ["row"] (conc K A_row_key) := by
  have G_value_key : FnOk P w K mg base CX0 1 a.value_key d.value_key ["value"] (conc K A_value_key) := ok_value_key T
  refine ab_ok T.F_row_key sc_row_key (fun ss M Q ⟨v, e, _⟩ => by subst e; rfl) fun cdv Ar outer s H E hr => ⟨_, (pss_one (ps_ret (pe_callTy (r := rTupS K) call_tuple_of (by rfl) T.n_tuple (by decide +kernel) (pa_cons (pe_lc (own := [("value", 1)]) rfl sc_row_key.nd (pi_tup (pv 0)) (blkOk_by (own := [("value", 1)]) (N := ["row", "value"]) (sc := (defScope s_row_key)) (by decide +kernel)) (fun _ _ _ _ _ => (pg_name (i := 1) sc_row_key.nd rfl (Or.inl rfl))) (fun _ _ _ _ _ => pts_nil) (fun _ _ _ _ _ => (pe_call G_value_key (hr.mono (by omega)) (by rfl) T.g_value_key T.F_value_key.kp T.b_value_key .nil pass0 (pa_cons (pv 1) pa_nil)))) pa_nil)))), ?_⟩
  rintro ss M Q ⟨row, rfl, hl, q⟩
  walk_at "k"
  show WS K _ [some (.dat (encR row)), none] M _
  walk_at "e"
  refine w_lcT (xs := row) (enc := Val.enc) (M1 := M) (by decide) (by walk_at "e"; exact ⟨rfl, rfl⟩) hl vkey ?_ ?_
  · intro v D o hv hD
    walk_at "e"
    exact ⟨v, rfl, rfl, rfl⟩
  · walk_at "e"
    exact q
end
section
section
variable {w : World} {K : PySem.W.Frag} {mg : Str → Option Value} {base : Heap} {a : AD} {d : FD}
def MidN (M : MH) (p : Addr) (n : Int) (ρ' : Rho) (M' : MH) : Prop := ∃ (xs : List Sl) (y z : Option Sl), ρ' = [some (.ref p), some (.int n), y, z] ∧ M' = um M p (.lst xs) ∧ DrawL xs
theorem ok_next (T : Txt K mg a d) : FnOk P w K mg base CX0 1 a.law_next d.law_next ["_law_state", "_law_limit"] (conc K A_next) := by
  refine ab_ok T.F_law_next sc_law_next (fun ss M Q ⟨p, n, xs, e, _⟩ => by subst e; rfl) fun cdv Ar outer s H E hr => ?_
  have hu64 := hr.units
  refine ⟨_, (pss_cons (ps_if (PW.pt (pw_and (pt_cmpR (r := rEqD K) (op_eqD hu64) (pe_ix (r := rIxL K) ix_list (pv 0) pe_int (fun _ _ => rfl)) pe_int (nomark _)) (pw_and1 (pt_cmpR op_lt (pe_ix (r := rIxL K) ix_list (pv 0) pe_int (fun _ _ => rfl)) (pe_callB (r := rLenS K) call_len_seq (by rfl) T.n_len PySem.boot_len (pa_cons (pe_ix (r := rIxL K) ix_list (pv 0) pe_int (fun _ _ => rfl)) pa_nil)) (nomark _))))) (pss_cons (ps_set (i := 2) sc_law_next.nd rfl (Or.inl rfl) (pe_ix (r := rIxL K) ix_list (pe_ix (r := rIxL K) ix_list (pv 0) pe_int (fun _ _ => rfl)) (pe_ix (r := rIxL K) ix_list (pv 0) pe_int (fun _ _ => rfl)) (fun _ _ => rfl)))
  (pss_cons (ps_augS (pv 0) pe_int pget_list pe_int ip_add set_list)
  (pss_one (ps_if (pt_cmpR op_ge (pv 2) (pe_op op_pow pe_int pe_int) (nomark _)) (pss_one (ps_asg (pv 2) (pg_sub (pv 0) pe_int set_list))) (pss_one (ps_asg (pe_op op_mod (pe_callTy (r := rInt1) call_int1 (by rfl) T.n_int (by decide +kernel) (pa_cons (pe_op op_add (pe_op op_add (pe_op op_mul (pe_ix (r := rIxL K) ix_list (pv 0) pe_int (fun _ _ => rfl)) pe_int) (pe_op op_mod (pe_callTy (r := rInt1) call_int1 (by rfl) T.n_int (by decide +kernel) (pa_cons (pv 2) pa_nil)) pe_int)) pe_int) pa_nil)) pe_int) (pg_sub (pv 0) pe_int set_list))))))) pss_nil)
  (pss_cons (ps_if (pt_cmpR op_gt (pe_ix (r := rIxL K) ix_list (pv 0) pe_int (fun _ _ => rfl)) pe_int (nomark _)) (pss_cons (ps_set (i := 3) sc_law_next.nd rfl (Or.inl rfl) (pe_op op_mod (pe_callTy (r := rInt1) call_int1 (by rfl) T.n_int (by decide +kernel) (pa_cons (pe_ix (r := rIxL K) ix_list (pv 0) pe_int (fun _ _ => rfl)) pa_nil)) (pv 1)))
  (pss_cons (ps_asg (pe_op op_fdivW (pe_ix (r := rIxL K) ix_list (pv 0) pe_int (fun _ _ => rfl)) (pv 1)) (pg_sub (pv 0) pe_int set_list))
  (pss_one (ps_ret (pv 3))))) pss_nil)
  (pss_cons (ps_asg (pe_op op_mod (pe_callTy (r := rInt1) call_int1 (by rfl) T.n_int (by decide +kernel) (pa_cons (pe_op op_add (pe_op op_mul (pe_ix (r := rIxL K) ix_list (pv 0) pe_int (fun _ _ => rfl)) pe_int) pe_int) pa_nil)) pe_int) (pg_sub (pv 0) pe_int set_list))
  (pss_one (ps_ret (pe_op op_mod (pe_callTy (r := rInt1) call_int1 (by rfl) T.n_int (by decide +kernel) (pa_cons (pe_op op_fdiv (pe_ix (r := rIxL K) ix_list (pv 0) pe_int (fun _ _ => rfl)) pe_int) pa_nil)) (pv 1))))))), ?_⟩
  rintro ss M Q ⟨p, n, xs, rfl, hp, ⟨sc, pos, cur, seed, rfl, hpos⟩, hn0, hn1, q⟩
  walk_at "k"
  show WS K _ [some (.ref p), some (.int n), none, none] M _
  refine ws_mid (MidN M p n) ?_ ?_
  · have same : MidN M p n [some (.ref p), some (.int n), none, none] M := ⟨_, none, none, rfl, (um_id hp).symm, sc, pos, cur, seed, rfl, hpos⟩
    walk_at "e"
    refine ite_b (fun _ => ?_) (fun _ => ite_f rfl (ws_next same))
    walk_at "e"
    refine ite_b (fun hlt => ?_) (fun _ => ws_next same)
    have hlt' := of_decide_eq_true hlt
    have hk : pos.toNat < sc.length := by omega
    walk_at "e"
    case hx => exact atI_ok hpos (get_two (List.getElem?_eq_getElem hk))
    refine ws_seq (ws_augL (w_var rfl (w_int ⟨p, _, 1, pos, rfl, rfl, hp, rfl, w_int ⟨1, rfl, hp, ?_⟩⟩)))
    have hp3 : um M p (.lst [.dat (.list (sc.map .int)), .int (pos + 1), .int cur, .int seed]) p = some (.lst [.dat (.list (sc.map .int)), .int (pos + 1), .int cur, .int seed]) := um_same
    show WS K _ [some (.ref p), some (.int n), some (.int sc[pos.toNat]), none] (um M p (.lst [.dat (.list (sc.map .int)), .int (pos + 1), .int cur, .int seed])) _
    walk_at "e"
    refine ite_b (fun _ => ?_) (fun _ => ?_)
    · refine ws_setL (w_var rfl (w_var rfl (w_int ⟨p, _, 2, 2, rfl, rfl, um_same, rfl, ?_⟩)))
      rw [um_um]
      exact ⟨_, some (.int sc[pos.toNat]), none, rfl, rfl, sc, pos + 1, _, seed, rfl, by omega⟩
    · refine ws_setL ?_
      walk_at "e"
      refine ⟨p, _, 3, 3, rfl, rfl, um_same, rfl, ?_⟩
      rw [um_um]
      exact ⟨_, some (.int sc[pos.toNat]), none, rfl, rfl, sc, pos + 1, cur, _, rfl, by omega⟩
  · rintro ρ' M' ⟨xs, y, z, rfl, rfl, sc, pos, cur, seed, rfl, hpos⟩
    have hp2 : um M p (.lst [.dat (.list (sc.map .int)), .int pos, .int cur, .int seed]) p = some (.lst [.dat (.list (sc.map .int)), .int pos, .int cur, .int seed]) := um_same
    have hdiv : CDivW cur n := wide_div (b := 140) hn0 (by omega) (by decide) (by decide)
    walk_at "e"
    refine ite_b (fun hc => ?_) (fun _ => ?_)
    · have hc' := of_decide_eq_true hc
      walk_at "e"
      refine ws_setL ?_
      walk_at "e"
      refine ⟨p, _, 2, 2, rfl, rfl, um_same, rfl, ?_⟩
      rw [um_um]
      walk_at "e"
      exact q _ _ (Int.emod_nonneg _ (by omega)) (Int.emod_lt_of_pos _ hn0) ⟨sc, pos, _, seed, rfl, hpos⟩
    · refine ws_next ?_
      refine ws_seq (ws_setL ?_)
      walk_at "e"
      refine ⟨p, _, 3, 3, rfl, rfl, um_same, rfl, ?_⟩
      rw [um_um]
      have hp4 : um M p (.lst [.dat (.list (sc.map .int)), .int pos, .int cur, .int ((seed * 69621 + 12345) % 2147483647)]) p = some (.lst [.dat (.list (sc.map .int)), .int pos, .int cur, .int ((seed * 69621 + 12345) % 2147483647)]) := um_same
      show WS K _ [some (.ref p), some (.int n), y, z] (um M p (.lst [.dat (.list (sc.map .int)), .int pos, .int cur, .int ((seed * 69621 + 12345) % 2147483647)])) _
      walk_at "e"
      exact q _ _ (Int.emod_nonneg _ (by omega)) (Int.emod_lt_of_pos _ hn0) ⟨sc, pos, cur, _, rfl, hpos⟩
def A_same (n : Nat) : ASp := fun ss M Q => ∃ x : PyData, ss = [.dat x, .dat x] ∧ okD n x = true ∧ Q (.bl true) M
def A_sameN : Nat → ASp
  | 0 => fun _ _ _ => False
  | n + 1 => A_same n
theorem ok_sameN (T : Txt K mg a d) : ∀ n : Nat, FnOk P w K mg base CX0 n a.law_same d.law_same ["_law_actual", "_law_expected"] (conc K (A_sameN n)) := by
  intro n
  induction n with
  | zero => exact ⟨fun vs H Q E h => by obtain ⟨_, _, _, _, _, _, z, _⟩ := h; exact z.elim, fun A outer s H args us vs Q E _ _ _ _ h => by obtain ⟨_, _, _, _, _, _, z, _⟩ := h; exact z.elim⟩
  | succ n ih =>
    have G_law_same := ih
    refine ab_ok T.F_law_same sc_law_same (fun ss M Q ⟨x, e, _⟩ => by subst e; rfl) fun cdv Ar outer s H E hr => ?_
    have hu64 := hr.units
    refine ⟨_, (pss_cons (ps_if (pt_cmpR op_isN (pv 1) pe_non (nomark _)) (pss_one (ps_ret (pe_cmpR op_isN (pv 0) pe_non (nomark _)))) pss_nil)
  (pss_cons (ps_if (pt_val (pe_callB (r := rIsi K) call_isi (by rfl) T.n_isinstance (by decide +kernel) (pa_cons (pv 1) (pa_cons (pe_bltn (v := .ty "bool") (u := .type "bool") (by rfl) T.n_bool (by decide +kernel) rfl) pa_nil)))) (pss_one (ps_ret (pe_and (pe_callB (r := rIsi K) call_isi (by rfl) T.n_isinstance (by decide +kernel) (pa_cons (pv 0) (pa_cons (pe_bltn (v := .ty "bool") (u := .type "bool") (by rfl) T.n_bool (by decide +kernel) rfl) pa_nil))) (pe_one (pe_cmpR (r := rEqD K) (op_eqD hu64) (pv 0) (pv 1) (nomark _)))))) pss_nil)
  (pss_cons (ps_if (pt_val (pe_callB (r := rIsi K) call_isi (by rfl) T.n_isinstance (by decide +kernel) (pa_cons (pv 1) (pa_cons (pe_bltn (v := .ty "int") (u := .type "int") (by rfl) T.n_int (by decide +kernel) rfl) pa_nil)))) (pss_one (ps_ret (pe_and (pe_callB (r := rIsi K) call_isi (by rfl) T.n_isinstance (by decide +kernel) (pa_cons (pv 0) (pa_cons (pe_bltn (v := .ty "int") (u := .type "int") (by rfl) T.n_int (by decide +kernel) rfl) pa_nil))) (pe_and (pe_not (pe_callB (r := rIsi K) call_isi (by rfl) T.n_isinstance (by decide +kernel) (pa_cons (pv 0) (pa_cons (pe_bltn (v := .ty "bool") (u := .type "bool") (by rfl) T.n_bool (by decide +kernel) rfl) pa_nil)))) (pe_one (pe_cmpR (r := rEqD K) (op_eqD hu64) (pv 0) (pv 1) (nomark _))))))) pss_nil)
  (pss_cons (ps_if (pt_val (pe_callB (r := rIsi K) call_isi (by rfl) T.n_isinstance (by decide +kernel) (pa_cons (pv 1) (pa_cons (pe_bltn (v := .ty "str") (u := .type "str") (by rfl) T.n_str (by decide +kernel) rfl) pa_nil)))) (pss_one (ps_ret (pe_and (pe_callB (r := rIsi K) call_isi (by rfl) T.n_isinstance (by decide +kernel) (pa_cons (pv 0) (pa_cons (pe_bltn (v := .ty "str") (u := .type "str") (by rfl) T.n_str (by decide +kernel) rfl) pa_nil))) (pe_one (pe_cmpR (r := rEqD K) (op_eqD hu64) (pv 0) (pv 1) (nomark _)))))) pss_nil)
  (pss_cons (ps_if (PW.pt (pw_and (pt_val (pe_callB (r := rIsi K) call_isi (by rfl) T.n_isinstance (by decide +kernel) (pa_cons (pv 1) (pa_cons (pe_bltn (v := .ty "tuple") (u := .type "tuple") (by rfl) T.n_tuple (by decide +kernel) rfl) pa_nil)))) (pw_and1 (pt_not (pt_val (pe_callB (r := rIsi K) call_isi (by rfl) T.n_isinstance (by decide +kernel) (pa_cons (pv 0) (pa_cons (pe_bltn (v := .ty "tuple") (u := .type "tuple") (by rfl) T.n_tuple (by decide +kernel) rfl) pa_nil)))))))) (pss_one (ps_ret pe_bl)) pss_nil)
  (pss_cons (ps_if (PW.pt (pw_and (pt_val (pe_callB (r := rIsi K) call_isi (by rfl) T.n_isinstance (by decide +kernel) (pa_cons (pv 1) (pa_cons (pe_bltn (v := .ty "list") (u := .type "list") (by rfl) T.n_list (by decide +kernel) rfl) pa_nil)))) (pw_and1 (pt_not (pt_val (pe_callB (r := rIsi K) call_isi (by rfl) T.n_isinstance (by decide +kernel) (pa_cons (pv 0) (pa_cons (pe_bltn (v := .ty "list") (u := .type "list") (by rfl) T.n_list (by decide +kernel) rfl) pa_nil)))))))) (pss_one (ps_ret pe_bl)) pss_nil)
  (pss_cons (ps_if (pt_cmpR (r := rNeD K) (op_neD hu64) (pe_callB (r := rLenS K) call_len_seq (by rfl) T.n_len PySem.boot_len (pa_cons (pv 0) pa_nil)) (pe_callB (r := rLenS K) call_len_seq (by rfl) T.n_len PySem.boot_len (pa_cons (pv 1) pa_nil)) (nomark _)) (pss_one (ps_ret pe_bl)) pss_nil)
  (pss_cons (ps_for PassesOwn.never rfl (pi_range1 rfl T.n_range (pa_cons (pe_callB (r := rLenS K) call_len_seq (by rfl) T.n_len PySem.boot_len (pa_cons (pv 1) pa_nil)) pa_nil)) (pg_name (i := 2) sc_law_same.nd rfl (Or.inl rfl)) (pss_one (ps_if (pt_not (pt_val (pe_call G_law_same (hr.mono (by omega)) (by rfl) T.g_law_same T.F_law_same.kp T.b_law_same .nil pass0 (pa_cons (pe_ix (r := rIx K) ix_seq (pv 0) (pv 2) (fun _ _ => rfl)) (pa_cons (pe_ix (r := rIx K) ix_seq (pv 1) (pv 2) (fun _ _ => rfl)) pa_nil))))) (pss_one (ps_ret pe_bl)) pss_nil)))
  (pss_one (ps_ret pe_bl)))))))))), ?_⟩
    rintro ss M Q ⟨x, rfl, hx, q⟩
    walk_at "k"
    show WS K _ [some (.dat x), some (.dat x), none] M _
    walk_at "e"
    cases x with
    | none =>
      walk_at "e"
      exact q
    | bool b =>
      walk_at "e"
      rw [show PyData.eqv (.bool b) (.bool b) = true by cases b <;> rfl]
      exact q
    | int i =>
      walk_at "e"
      rw [decide_eq_true rfl]
      exact q
    | str x =>
      have hsh : PyData.strOk x = true := by cases n <;> simpa [okD] using hx
      walk_at "e"
      rw [decide_eq_true rfl]
      walk_at "e"
      exact q
    | dict _ => cases n <;> cases hx
    | tuple xs =>
      cases n with
      | zero => cases hx
      | succ m =>
        obtain ⟨hl, ho⟩ := okD_tuple hx
        walk_at "e"
        rw [decide_eq_true rfl]
        walk_at "e"
        refine ws_forR1 (n := (xs.length : Int)) (M1 := M) (by walk_at "e"; exact ⟨rfl, rfl⟩) (by omega)
          (fun i ρ' M' => ∃ y, ρ' = [some (.dat (.tuple xs)), some (.dat (.tuple xs)), y] ∧ M' = M) ⟨_, rfl, rfl⟩ ?_ ?_
        · rintro i ρ' M' hi ⟨y, rfl, rfl⟩
          have hi' : i < xs.length := by omega
          refine wg_name ?_
          have hat : atI xs (i : Int) = some xs[i] := atI_nat (List.getElem?_eq_getElem hi')
          walk_at "e"
          refine w2_ixDT hat ?_
          walk_at "e"
          refine w2_ixDT hat ?_
          walk_at "e"
          refine ⟨xs[i], rfl, okD_mem ho (List.getElem_mem hi'), ?_⟩
          walk_at "e"
          exact ⟨_, rfl, rfl⟩
        · rintro ρ' M' ⟨y, rfl, rfl⟩
          walk_at "e"
          exact q
    | list xs =>
      cases n with
      | zero => cases hx
      | succ m =>
        obtain ⟨hl, ho⟩ := okD_list hx
        walk_at "e"
        rw [decide_eq_true rfl]
        walk_at "e"
        refine ws_forR1 (n := (xs.length : Int)) (M1 := M) (by walk_at "e"; exact ⟨rfl, rfl⟩) (by omega)
          (fun i ρ' M' => ∃ y, ρ' = [some (.dat (.list xs)), some (.dat (.list xs)), y] ∧ M' = M) ⟨_, rfl, rfl⟩ ?_ ?_
        · rintro i ρ' M' hi ⟨y, rfl, rfl⟩
          have hi' : i < xs.length := by omega
          refine wg_name ?_
          have hat : atI xs (i : Int) = some xs[i] := atI_nat (List.getElem?_eq_getElem hi')
          walk_at "e"
          refine w2_ixDL hat ?_
          walk_at "e"
          refine w2_ixDL hat ?_
          walk_at "e"
          refine ⟨xs[i], rfl, okD_mem ho (List.getElem_mem hi'), ?_⟩
          walk_at "e"
          exact ⟨_, rfl, rfl⟩
        · rintro ρ' M' ⟨y, rfl, rfl⟩
          walk_at "e"
          exact q
end
end
section
structure SA where
  o : Addr
  dx : Addr
  r : Addr
  f : Addr
  u : Addr
  n : Addr
  fa : List (Str × Addr)
def SA.sFa (A : SA) (x : List (Str × Addr)) : SA := { A with fa := x }
def SA.sF (A : SA) (x : Addr) : SA := { A with f := x }
def sfld (A : SA) : List (Str × Sl) := [("relations", .raw (.ref A.r)), ("facts", .raw (.ref A.f)), ("rules", .raw (.ref A.u)), ("denials", .raw (.ref A.n))]
theorem sl_r (A : SA) : (sfld A).lookup ("relations" : Str) = some (.raw (.ref A.r) : Sl) := by kernel_rfl
theorem sl_f (A : SA) : (sfld A).lookup ("facts" : Str) = some (.raw (.ref A.f) : Sl) := by kernel_rfl
theorem sl_u (A : SA) : (sfld A).lookup ("rules" : Str) = some (.raw (.ref A.u) : Sl) := by kernel_rfl
theorem sl_n (A : SA) : (sfld A).lookup ("denials" : Str) = some (.raw (.ref A.n) : Sl) := by kernel_rfl
theorem sp_f (A : SA) (x : Addr) : putS "facts" (.raw (.ref x)) (sfld A) = sfld (A.sF x) := by kernel_rfl
def rowsM (rs : List (List Val)) : MO := .lst (rs.map fun r => .dat (encR r))
def kvR (c : Ct) : List (Key × Sl) := c.rel.map fun p => ((.inr p.1 : Key), .int p.2)
def kvF (A : SA) : List (Key × Sl) := A.fa.map fun p => ((.inr p.1 : Key), .raw (.ref p.2))
def kvU (c : Ct) : List (Key × Sl) := c.rul.map fun p => ((.inr p.1 : Key), .dat p.2.enc)
def kvN (c : Ct) : List (Key × Sl) := c.den.map fun p => ((.inr p.1 : Key), .dat (encB p.2))
structure SeAt (C : Addr) (M : MH) (A : SA) (c : Ct) : Prop where
  ho : M A.o = some (.ins C A.dx (sfld A))
  hr : M A.r = some (.dK (kvR c))
  hf : M A.f = some (.dK (kvF A))
  hu : M A.u = some (.dK (kvU c))
  hn : M A.n = some (.dK (kvN c))
  ne : A.r ≠ A.f ∧ A.r ≠ A.u ∧ A.r ≠ A.n ∧ A.f ≠ A.u ∧ A.f ≠ A.n ∧ A.u ≠ A.n
  keys : A.fa.map (·.1) = c.fac.map (·.1)
  rows : ∀ n a, valG A.fa n = some a → M a = some (rowsM (rowsOf c n))
  inj : ∀ n n' a, valG A.fa n = some a → valG A.fa n' = some a → n = n'
def SA.own (A : SA) (b : Addr) : Prop := b = A.o ∨ b = A.r ∨ b = A.f ∨ b = A.u ∨ b = A.n ∨ ∃ n, valG A.fa n = some b
/-- all but the state's own stands as it stood, and is none of the state's new own -/
def SFr (M M' : MH) (A A' : SA) : Prop := A'.o = A.o ∧ ∀ b u, M b = some u → ¬ A.own b → M' b = some u ∧ ¬ A'.own b
theorem SFr.refl {M : MH} {A : SA} : SFr M M A A := ⟨rfl, fun b u hb hn => ⟨hb, hn⟩⟩
theorem SFr.trans {M M' M2 : MH} {A A' A2 : SA} (h : SFr M M' A A') (h' : SFr M' M2 A' A2) : SFr M M2 A A2 := ⟨h'.1.trans h.1, fun b u hb hn => by
  obtain ⟨h1, h2⟩ := h.2 b u hb hn
  exact h'.2 b u h1 h2⟩
section
variable {C : Addr} {M M' : MH} {A A' : SA} {c : Ct}
theorem SeAt.emp (h : SeAt C M A c) {n : Str} (e : valG A.fa n = none) : rowsOf c n = [] := by
  have h1 := valG_isSome n A.fa
  have h2 := valG_isSome n c.fac
  rw [e, h.keys, ← h2] at h1
  unfold rowsOf
  cases hv : valG c.fac n with
  | none => rfl
  | some x => rw [hv] at h1; cases h1
/-- where the rows stand nothing else of the state does -/
theorem SeAt.off (h : SeAt C M A c) {n : Str} {a : Addr} (e : valG A.fa n = some a) : a ≠ A.o ∧ a ≠ A.r ∧ a ≠ A.f ∧ a ≠ A.u ∧ a ≠ A.n := by
  have hr := h.rows n a e
  refine ⟨fun z => ?_, fun z => ?_, fun z => ?_, fun z => ?_, fun z => ?_⟩
  · rw [z, h.ho] at hr; cases hr
  · rw [z, h.hr] at hr; cases hr
  · rw [z, h.hf] at hr; cases hr
  · rw [z, h.hu] at hr; cases hr
  · rw [z, h.hn] at hr; cases hr
theorem SeAt.oo (h : SeAt C M A c) : A.r ≠ A.o ∧ A.f ≠ A.o ∧ A.u ≠ A.o ∧ A.n ≠ A.o := by
  have ho := h.ho
  refine ⟨fun z => ?_, fun z => ?_, fun z => ?_, fun z => ?_⟩
  · rw [← z, h.hr] at ho; cases ho
  · rw [← z, h.hf] at ho; cases ho
  · rw [← z, h.hu] at ho; cases ho
  · rw [← z, h.hn] at ho; cases ho
theorem SeAt.new (h : SeAt C M A c) {b : Addr} (hb : M b = none) : ¬ A.own b := fun z => by
  rcases z with rfl | rfl | rfl | rfl | rfl | ⟨n, e⟩
  · rw [h.ho] at hb; cases hb
  · rw [h.hr] at hb; cases hb
  · rw [h.hf] at hb; cases hb
  · rw [h.hu] at hb; cases hb
  · rw [h.hn] at hb; cases hb
  · rw [h.rows n b e] at hb; cases hb
/-- what is none of its own may change -/
theorem SeAt.um (h : SeAt C M A c) {b : Addr} {x : MO} (hb : ¬ A.own b) : SeAt C (Ab.um M b x) A c := by
  have k : ∀ a, A.own a → a ≠ b := fun a ha e => hb (e ▸ ha)
  refine ⟨?_, ?_, ?_, ?_, ?_, h.ne, h.keys, fun n a e => ?_, h.inj⟩
  · rw [um_ne (k _ (.inl rfl))]; exact h.ho
  · rw [um_ne (k _ (.inr (.inl rfl)))]; exact h.hr
  · rw [um_ne (k _ (.inr (.inr (.inl rfl))))]; exact h.hf
  · rw [um_ne (k _ (.inr (.inr (.inr (.inl rfl)))))]; exact h.hu
  · rw [um_ne (k _ (.inr (.inr (.inr (.inr (.inl rfl))))))]; exact h.hn
  · rw [um_ne (k _ (.inr (.inr (.inr (.inr (.inr ⟨n, e⟩))))))]; exact h.rows n a e
theorem SFr.um {b : Addr} {x : MO} (hb : A.own b) : SFr M (Ab.um M b x) A A := ⟨rfl, fun a u ha hn => ⟨by rw [um_ne fun e => hn (by rw [e]; exact hb)]; exact ha, hn⟩⟩
theorem SFr.umN {b : Addr} {x : MO} (hb : M b = none) : SFr M (Ab.um M b x) A A := ⟨rfl, fun a u ha hn => ⟨by rw [um_ne fun e => by rw [e, hb] at ha; cases ha]; exact ha, hn⟩⟩
theorem SeAt.setR (h : SeAt C M A c) (x : List (Str × Int)) : SeAt C (Ab.um M A.r (.dK (kvR (c.sRel x)))) A (c.sRel x) := by
  obtain ⟨n1, n2, n3, n4, n5, n6⟩ := h.ne
  obtain ⟨o1, o2, o3, o4⟩ := h.oo
  exact ⟨by rw [um_ne o1.symm]; exact h.ho, um_same, by rw [um_ne n1.symm]; exact h.hf, by rw [um_ne n2.symm]; exact h.hu, by rw [um_ne n3.symm]; exact h.hn, h.ne, h.keys, fun n a e => by rw [um_ne (h.off e).2.1]; exact h.rows n a e, h.inj⟩
theorem SeAt.setU (h : SeAt C M A c) (x : List (Str × Rul)) : SeAt C (Ab.um M A.u (.dK (kvU (c.sRul x)))) A (c.sRul x) := by
  obtain ⟨n1, n2, n3, n4, n5, n6⟩ := h.ne
  obtain ⟨o1, o2, o3, o4⟩ := h.oo
  exact ⟨by rw [um_ne o3.symm]; exact h.ho, by rw [um_ne n2]; exact h.hr, by rw [um_ne n4]; exact h.hf, um_same, by rw [um_ne n6.symm]; exact h.hn, h.ne, h.keys, fun n a e => by rw [um_ne (h.off e).2.2.2.1]; exact h.rows n a e, h.inj⟩
theorem SeAt.setN (h : SeAt C M A c) (x : List (Str × List Lit)) : SeAt C (Ab.um M A.n (.dK (kvN (c.sDen x)))) A (c.sDen x) := by
  obtain ⟨n1, n2, n3, n4, n5, n6⟩ := h.ne
  obtain ⟨o1, o2, o3, o4⟩ := h.oo
  exact ⟨by rw [um_ne o4.symm]; exact h.ho, by rw [um_ne n3]; exact h.hr, by rw [um_ne n5]; exact h.hf, by rw [um_ne n6]; exact h.hu, um_same, h.ne, h.keys, fun n a e => by rw [um_ne (h.off e).2.2.2.2]; exact h.rows n a e, h.inj⟩
theorem keys_val {α β : Type} : ∀ {xs : List (Str × α)} {ys : List (Str × β)} {n : Str}, xs.map (·.1) = ys.map (·.1) → (valG xs n).isSome = (valG ys n).isSome := fun {xs ys n} e => by
  rw [valG_isSome, valG_isSome, e]
/-- rows at a name that stands -/
theorem SeAt.setRow (h : SeAt C M A c) {n : Str} {a : Addr} (e : valG A.fa n = some a) (rs : List (List Val)) : SeAt C (Ab.um M a (rowsM rs)) A (c.sFac (putG c.fac n rs)) := by
  obtain ⟨k1, k2, k3, k4, k5⟩ := h.off e
  have hk : n ∈ c.fac.map (·.1) := by
    have := valG_isSome n c.fac
    rw [← keys_val h.keys, e] at this
    exact of_decide_eq_true this.symm
  refine ⟨by rw [um_ne k1.symm]; exact h.ho, by rw [um_ne k2.symm]; exact h.hr, by rw [um_ne k3.symm]; exact h.hf, by rw [um_ne k4.symm]; exact h.hu, by rw [um_ne k5.symm]; exact h.hn, h.ne, ?_, fun n' a' e' => ?_, h.inj⟩
  · rw [h.keys]
    show _ = (putG c.fac n rs).map (·.1)
    rw [putG_keys, if_pos hk]
  · show Ab.um M a (rowsM rs) a' = some (rowsM ((valG (putG c.fac n rs) n').getD []))
    rw [valG_put]
    by_cases en : n = n'
    · subst en
      rw [e] at e'
      cases e'
      rw [if_pos rfl]
      exact um_same
    · have ea : a' ≠ a := fun z => en (h.inj n n' a e (z ▸ e'))
      rw [if_neg en, um_ne ea]
      exact h.rows n' a' e'
/-- rows at a name that is new -/
theorem SeAt.newRow (h : SeAt C M A c) {n : Str} {p : Addr} (e : valG A.fa n = none) (hp : M p = none) (rs : List (List Val)) : SeAt C (Ab.um (Ab.um M p (rowsM rs)) A.f (.dK (kvF (A.sFa (putG A.fa n p))))) (A.sFa (putG A.fa n p)) (c.sFac (putG c.fac n rs)) := by
  obtain ⟨n1, n2, n3, n4, n5, n6⟩ := h.ne
  obtain ⟨o1, o2, o3, o4⟩ := h.oo
  have hk := h.new hp
  have k : ∀ a, A.own a → a ≠ p := fun a ha e => hk (e ▸ ha)
  refine ⟨?_, ?_, um_same, ?_, ?_, h.ne, ?_, fun n' a' e' => ?_, fun n1 n2 a e1 e2 => ?_⟩
  · show Ab.um _ A.f _ A.o = _
    rw [um_ne o2.symm, um_ne (k _ (.inl rfl))]; exact h.ho
  · show Ab.um _ A.f _ A.r = _
    rw [um_ne n1, um_ne (k _ (.inr (.inl rfl)))]; exact h.hr
  · show Ab.um _ A.f _ A.u = _
    rw [um_ne n4.symm, um_ne (k _ (.inr (.inr (.inr (.inl rfl)))))]; exact h.hu
  · show Ab.um _ A.f _ A.n = _
    rw [um_ne n5.symm, um_ne (k _ (.inr (.inr (.inr (.inr (.inl rfl))))))]; exact h.hn
  · show (putG A.fa n p).map (·.1) = (putG c.fac n rs).map (·.1)
    rw [putG_keys, putG_keys, h.keys]
  · have e' : valG (putG A.fa n p) n' = some a' := e'
    show Ab.um _ A.f _ a' = some (rowsM ((valG (putG c.fac n rs) n').getD []))
    rw [valG_put] at e' ⊢
    by_cases en : n = n'
    · subst en
      rw [if_pos rfl] at e' ⊢
      cases e'
      rw [um_ne fun z => k _ (.inr (.inr (.inl rfl))) z.symm]
      exact um_same
    · rw [if_neg en] at e' ⊢
      rw [um_ne (h.off e').2.2.1, um_ne (k _ (.inr (.inr (.inr (.inr (.inr ⟨n', e'⟩))))))]
      exact h.rows n' a' e'
  · have e1 : valG (putG A.fa n p) n1 = some a := e1
    have e2 : valG (putG A.fa n p) n2 = some a := e2
    rw [valG_put] at e1 e2
    by_cases en1 : n = n1
    · by_cases en2 : n = n2
      · exact en1.symm.trans en2
      · rw [if_pos en1] at e1
        rw [if_neg en2] at e2
        cases e1
        exact absurd rfl (k _ (.inr (.inr (.inr (.inr (.inr ⟨n2, e2⟩))))))
    · by_cases en2 : n = n2
      · rw [if_neg en1] at e1
        rw [if_pos en2] at e2
        cases e2
        exact absurd rfl (k _ (.inr (.inr (.inr (.inr (.inr ⟨n1, e1⟩))))))
      · rw [if_neg en1] at e1
        rw [if_neg en2] at e2
        exact h.inj n1 n2 a e1 e2
end
end
section
local macro_rules | `(tactic| walk_at "fl") => `(tactic| with_reducible first | exact sl_r _ | exact sl_f _ | exact sl_u _ | exact sl_n _)
section
variable {w : World} {K : PySem.W.Frag} {mg : Str → Option Value} {base : Heap} {a : AD} {d : FD}
theorem any_rows (rs : List (List Val)) (row : List Val) : ((rs.map encR).any fun z => PyData.eqv z (encR row)) = decide (row ∈ rs) := by
  induction rs with
  | nil => simp
  | cons r rs ih =>
    rw [List.map_cons, List.any_cons, ih, eqv_row]
    by_cases e : r = row
    · subst e; simp
    · have : ¬ row = r := fun z => e z.symm
      simp [e, this]
theorem rows_shaped {rs : List (List Val)} (h : ∀ r ∈ rs, okR r ∧ r ≠ []) (hl : rs.length ≤ 1000) : SeqAt.shaped (.list (rs.map encR)) = true := okD_shaped (n := 2) (okD_mkL (by rw [List.length_map]; omega) (okAll_of fun d hd => by
  obtain ⟨r, hr, rfl⟩ := List.mem_map.mp hd
  exact okR_okD (n := 0) (h r hr).1)) (by decide)
def A_has (C : Addr) : ASp := fun ss M Q => ∃ A c n row, ss = [.raw (.ref (SA.o A)), .str n, .dat (encR row)] ∧ SeAt C M A c ∧ CtOk c ∧ okR row ∧ Q (.bl (decide (row ∈ rowsOf c n))) M
theorem ok_has (T : Txt K mg a d) : FnOk P w K mg base CX0 1 a.State_has d.State_has ["self", "relation", "row"] (conc K (A_has a.State)) := by
  have cl := T.cl_State
  have n1 := T.na_State_facts
  refine ab_ok T.F_State_has sc_State_has (fun ss M Q ⟨A, c, n, row, e, _⟩ => by subst e; rfl) fun cdv Ar outer s H E hr => ?_
  have hu64 := hr.units
  have hu65 := room65 hr
  refine ⟨_, (pss_one (ps_ret (pe_cmpR (r := rInD K) (op_inD hu65) (pv 2) (pe_dget2 (hu1 hu64) (pe_fld (pv 0) rfl) (pv 1) (pe_lst pa_nil) ⟨rfl, rfl, rfl, rfl⟩) (by rfl)))), ?_⟩
  rintro ss M Q ⟨A, c, n, row, rfl, h, hc, hrow, q⟩
  walk_at "k"
  show WS K _ [some (.raw (.ref A.o)), some (.str n), some (.dat (encR row))] M _
  have ho := h.ho
  have sr : SeqAt.shaped (encR row) = true := okD_shaped (okR_okD (n := 0) hrow) (by decide)
  refine ws_ret (w_op (w_var rfl (w_dget2 (w_fldI rfl ho cl n1 (sl_f _) ⟨⟨_, dcv_ref h.hf⟩, w_var rfl (w_lstD (wa_nil ⟨[], rfl, by simp, _, .inr n, dcv_ref h.hf, rfl, ?_⟩))⟩))))
  unfold kvF
  rw [valG_inr (fun p : Addr => Sl.raw (.ref p))]
  cases e : valG A.fa n with
  | none =>
    refine w2_inL (ds := []) lsv_dat sr (by decide +kernel) ?_
    rw [h.emp e] at q
    simpa using q
  | some p =>
    obtain ⟨h1, h2⟩ := hc.row (n := n)
    have hp := h.rows n p e
    refine w2_inL (ds := (rowsOf c n).map encR) (lsv_ref (by rw [List.map_map]; exact hp)) sr (rows_shaped h1 h2) ?_
    rw [any_rows]
    exact q
def A_put (C : Addr) : ASp := fun ss M Q => ∃ A c it, ss = [.raw (.ref (SA.o A)), .dat (Item.enc it)] ∧ SeAt C M A c ∧ CtOk c ∧ it.ok ∧ ∀ M' A', SeAt C M' A' (c.put it) → SFr M M' A A' → Q .non M'
theorem ok_put (T : Txt K mg a d) : FnOk P w K mg base CX0 2 a.State_put d.State_put ["self", "item"] (conc K (A_put a.State)) := by
  have cl := T.cl_State
  have n1 := T.na_State_relations
  have n2 := T.na_State_facts
  have n3 := T.na_State_rules
  have n4 := T.na_State_denials
  have G_State_has : FnOk P w K mg base CX0 1 a.State_has d.State_has ["self", "relation", "row"] (conc K (A_has a.State)) := ok_has T
  refine ab_ok T.F_State_put sc_State_put (fun ss M Q ⟨A, c, it, e, _⟩ => by subst e; rfl) fun cdv Ar outer s H E hr => ?_
  have hu64 := hr.units
  refine ⟨_, (pss_cons (ps_asg (pe_slice (r := rSlA K) sl_tupA (pv 1) po_none (po_some pe_int)) (pg_tupK (K := K) (n := 2) rfl rfl (pgs_cons (pg_name (i := 2) sc_State_put.nd rfl (Or.inl rfl)) (pgs_cons (pg_name (i := 3) sc_State_put.nd rfl (Or.inl rfl)) pgs_nil))))
  (pss_one (ps_if (pt_cmpR (r := rEqD K) (op_eqD hu64) (pv 2) pe_str (nomark _)) (pss_one (ps_dput (hu1 hu64) (pe_fld (pv 0) rfl) (pv 3) (pe_ix (r := rIxT K) ix_tup (pv 1) pe_int (fun _ _ => rfl)) rfl)) (pss_one (ps_if (pt_cmpR (r := rEqD K) (op_eqD hu64) (pv 2) pe_str (nomark _)) (pss_one (ps_dput (hu1 hu64) (pe_fld (pv 0) rfl) (pv 3) (pe_slice (r := rSlA K) sl_tupA (pv 1) (po_some pe_int) po_none) rfl)) (pss_one (ps_if (pt_cmpR (r := rEqD K) (op_eqD hu64) (pv 2) pe_str (nomark _)) (pss_one (ps_dput (hu1 hu64) (pe_fld (pv 0) rfl) (pv 3) (pe_ix (r := rIxT K) ix_tup (pv 1) pe_int (fun _ _ => rfl)) rfl)) (pss_one (ps_if (pt_not (pt_val (pe_meth (pv 0) T.cl_State T.m_State_has G_State_has (hr.mono (by omega)) T.b_State_has .nil pass0 (pa_cons (pv 3) (pa_cons (pe_ix (r := rIxT K) ix_tup (pv 1) pe_int (fun _ _ => rfl)) pa_nil))))) (pss_one (ps_expr (pe_bm PySem.F.plainAttrs_list PySem.F.slot_list_append PySem.F.type_list_append mt_append (pe_dsetd (pe_fld (pv 0) rfl) (pv 3) (pe_lst pa_nil) ⟨rfl, rfl, rfl, rfl⟩) (pa_cons (pe_ix (r := rIxT K) ix_tup (pv 1) pe_int (fun _ _ => rfl)) pa_nil)))) pss_nil))))))))), ?_⟩
  rintro ss M Q ⟨A, c, it, rfl, h, hc, hit, q⟩
  walk_at "k"
  show WS K _ [some (.raw (.ref A.o)), some (.dat it.enc), none, none] M _
  have ho := h.ho
  cases it with
  | relation n x =>
    refine ws_seq (ws_asg ?_)
    walk_at "f"
    refine wg_tup rfl rfl (wgs_cons (wg_name (wgs_cons (wg_name (wgs_nil ?_)))))
    walk_at "f"
    refine ws_dput ?_
    walk_at "f"
    refine ⟨A.r, kvR c, .inr n, rfl, rfl, h.hr, by unfold kvR; rw [List.length_map]; have := hc.sz.1; omega, ?_⟩
    have h2 := h.setR (putG c.rel n x)
    have e : putG (kvR c) (.inr n) (.int x) = kvR (c.sRel (putG c.rel n x)) := putG_inr (fun i : Int => Sl.int i) n x c.rel
    rw [e]
    exact q _ A h2 (SFr.um (.inr (.inl rfl)))
  | rule n rel hd b =>
    refine ws_seq (ws_asg ?_)
    walk_at "f"
    refine wg_tup rfl rfl (wgs_cons (wg_name (wgs_cons (wg_name (wgs_nil ?_)))))
    walk_at "f"
    refine ws_dput ?_
    walk_at "f"
    refine ⟨A.u, kvU c, .inr n, rfl, rfl, h.hu, by unfold kvU; rw [List.length_map]; have := hc.sz.2.2.1; omega, ?_⟩
    have h2 := h.setU (putG c.rul n ⟨rel, hd, b⟩)
    have e : putG (kvU c) (.inr n) (.dat (Rul.enc ⟨rel, hd, b⟩)) = kvU (c.sRul (putG c.rul n ⟨rel, hd, b⟩)) := putG_inr (fun r : Rul => Sl.dat r.enc) n _ c.rul
    rw [← e] at h2
    exact q _ A h2 (SFr.um (.inr (.inr (.inr (.inl rfl)))))
  | denial n b =>
    refine ws_seq (ws_asg ?_)
    walk_at "f"
    refine wg_tup rfl rfl (wgs_cons (wg_name (wgs_cons (wg_name (wgs_nil ?_)))))
    walk_at "f"
    refine ws_dput ?_
    walk_at "f"
    refine ⟨A.n, kvN c, .inr n, rfl, rfl, h.hn, by unfold kvN; rw [List.length_map]; have := hc.sz.2.2.2; omega, ?_⟩
    have h2 := h.setN (putG c.den n b)
    have e : putG (kvN c) (.inr n) (.dat (encB b)) = kvN (c.sDen (putG c.den n b)) := putG_inr (fun r : List Lit => Sl.dat (encB r)) n _ c.den
    rw [← e] at h2
    exact q _ A h2 (SFr.um (.inr (.inr (.inr (.inr (.inl rfl))))))
  | fact n row =>
    refine ws_seq (ws_asg ?_)
    walk_at "f"
    refine wg_tup rfl rfl (wgs_cons (wg_name (wgs_cons (wg_name (wgs_nil ?_)))))
    walk_at "f"
    refine w_meth (w_var rfl ⟨A.o, A.dx, sfld A, rfl, ho, by kernel_rfl, wa_cons (w_var rfl (wa_cons (w_op (w_var rfl (w_int (w2_ixT rfl (wa_nil ⟨A, c, n, row, rfl, h, hc, hit.2.1, ?_⟩))))))) ⟩)
    walk_at "f"
    refine ite_n (fun hin => ?_) (fun hin => ?_)
    · have ec : c.put (.fact n row) = c.sFac (putG c.fac n (rowsOf c n ++ [row])) := if_neg hin
      rw [ec] at q
      walk_at "f"
      refine w_bm (w_dsetd (w_fldI rfl ho cl n2 (sl_f _) ⟨A.f, rfl, ⟨_, h.hf⟩, w_var rfl (w_lstM (wa_nil ⟨by simp, fun p hp => ?_⟩))⟩))
      have hk := h.new hp
      have fp : Ab.um M p (.lst []) A.f = some (.dK (kvF A)) := by rw [um_ne fun z => hk (.inr (.inr (.inl z.symm)))]; exact h.hf
      have ev : valG (kvF A) (.inr n) = (valG A.fa n).map fun p => Sl.raw (.ref p) := valG_inr (fun p : Addr => Sl.raw (.ref p)) n A.fa
      refine ⟨kvF A, .inr n, fp, rfl, by unfold kvF; rw [List.length_map, ← List.length_map (f := (·.1)), h.keys, List.length_map]; have := hc.sz.2.1; omega, fun x hx => ?_, fun hx => ?_⟩
      · rw [ev] at hx
        cases ea : valG A.fa n with
        | none => rw [ea] at hx; cases hx
        | some a0 =>
          rw [ea] at hx
          cases hx
          have h1 := h.um (x := .lst []) hk
          have hr1 := h1.rows n a0 ea
          refine ⟨ty_lst (lsv_ref hr1), ?_⟩
          walk_at "f"
          refine wm_append hr1 (by rw [List.length_map]; have := (hc.row (n := n)).2; omega) ?_
          have h2 := h1.setRow ea (rowsOf c n ++ [row])
          refine q _ A (by unfold rowsM at h2; rw [List.map_append] at h2; exact h2) ((SFr.umN hp).trans (SFr.um (.inr (.inr (.inr (.inr (.inr ⟨n, ea⟩)))))))
      · rw [ev] at hx
        have ea : valG A.fa n = none := by
          cases ea : valG A.fa n with
          | none => rfl
          | some a0 => rw [ea] at hx; cases hx
        have pf : p ≠ A.f := fun z => hk (.inr (.inr (.inl z)))
        have hp1 : Ab.um (Ab.um M p (.lst [])) A.f (.dK (putG (kvF A) (.inr n) (.raw (.ref p)))) p = some (.lst []) := by rw [um_ne pf]; exact um_same
        refine ⟨ty_lst (lsv_ref hp1), ?_⟩
        walk_at "f"
        refine wm_append hp1 (by simp) ?_
        have er : rowsOf c n = [] := h.emp ea
        have h2 := h.newRow ea hp (rowsOf c n ++ [row])
        have ek : kvF (A.sFa (putG A.fa n p)) = putG (kvF A) (.inr n) (.raw (.ref p)) := (putG_inr (fun p : Addr => Sl.raw (.ref p)) n p A.fa).symm
        rw [ek, er] at h2
        rw [er] at q
        have em : Ab.um (Ab.um (Ab.um M p (.lst [])) A.f (.dK (putG (kvF A) (.inr n) (.raw (.ref p))))) p (.lst ([] ++ [.dat (encR row)])) = Ab.um (Ab.um M p (rowsM ([] ++ [row]))) A.f (.dK (putG (kvF A) (.inr n) (.raw (.ref p)))) := by
          rw [um_comm pf, um_um, um_comm (Ne.symm pf)]
          rfl
        rw [em]
        refine q _ _ h2 ⟨rfl, fun b u hb hn => ?_⟩
        have b1 : b ≠ p := fun z => by rw [z, hp] at hb; cases hb
        have b2 : b ≠ A.f := fun z => hn (.inr (.inr (.inl z)))
        refine ⟨by rw [um_ne b2, um_ne b1]; exact hb, fun z => ?_⟩
        rcases z with z | z | z | z | z | ⟨n', z⟩
        · exact hn (.inl z)
        · exact hn (.inr (.inl z))
        · exact hn (.inr (.inr (.inl z)))
        · exact hn (.inr (.inr (.inr (.inl z))))
        · exact hn (.inr (.inr (.inr (.inr (.inl z)))))
        · have z : valG (putG A.fa n p) n' = some b := z
          rw [valG_put] at z
          by_cases en : n = n'
          · rw [if_pos en] at z
            cases z
            exact b1 rfl
          · rw [if_neg en] at z
            exact hn (.inr (.inr (.inr (.inr (.inr ⟨n', z⟩)))))
    · have ec : c.put (.fact n row) = c := if_pos hin
      rw [ec] at q
      walk_at "f"
      exact q _ A h SFr.refl
end
end
section
local macro_rules | `(tactic| walk_at "fl") => `(tactic| with_reducible first | exact sl_r _ | exact sl_f _ | exact sl_u _ | exact sl_n _)
section
variable {w : World} {K : PySem.W.Frag} {mg : Str → Option Value} {base : Heap} {a : AD} {d : FD}
def A_tidy (C : Addr) : ASp := fun ss M Q => ∃ A c, ss = [.raw (.ref (SA.o A))] ∧ SeAt C M A c ∧ CtOk c ∧ Ct.small c ∧ ∀ M' A', SeAt C M' A' c.tidy → SFr M M' A A' → Q .non M'
/-- the new dict of facts as it grows -/
structure Grow (M2 M' : MH) (fa : List (Str × Addr)) (fc : List (Str × List (List Val))) : Prop where
  ext : ∀ b u, M2 b = some u → M' b = some u
  keys : fa.map (·.1) = fc.map (·.1)
  rows : ∀ n a, valG fa n = some a → M2 a = none ∧ M' a = some (rowsM ((valG fc n).getD []))
  inj : ∀ n n' a, valG fa n = some a → valG fa n' = some a → n = n'
theorem Grow.step {M2 M' : MH} {fa : List (Str × Addr)} {fc : List (Str × List (List Val))} (h : Grow M2 M' fa fc) {p : Addr} (hp : M' p = none) (n : Str) (rs : List (List Val)) : Grow M2 (Ab.um M' p (rowsM rs)) (putG fa n p) (putG fc n rs) := by
  have p2 : M2 p = none := by
    cases e : M2 p with
    | none => rfl
    | some u => rw [h.ext p u e] at hp; cases hp
  have ne : ∀ {m a}, valG fa m = some a → a ≠ p := fun e z => by rw [← z, (h.rows _ _ e).2] at hp; cases hp
  refine ⟨fun b u hb => by rw [um_ne fun z => by rw [z, p2] at hb; cases hb]; exact h.ext b u hb, ?_, fun m a e => ?_, fun m m' a e e' => ?_⟩
  · rw [putG_keys, putG_keys, h.keys]
  · rw [valG_put] at e ⊢
    by_cases en : n = m
    · rw [if_pos en] at e ⊢
      cases e
      exact ⟨p2, um_same⟩
    · rw [if_neg en] at e ⊢
      exact ⟨(h.rows m a e).1, by rw [um_ne (ne e)]; exact (h.rows m a e).2⟩
  · rw [valG_put] at e e'
    by_cases en : n = m
    · by_cases en' : n = m'
      · exact en.symm.trans en'
      · rw [if_pos en] at e
        rw [if_neg en'] at e'
        cases e
        exact absurd rfl (ne e')
    · by_cases en' : n = m'
      · rw [if_neg en] at e
        rw [if_pos en'] at e'
        cases e'
        exact absurd rfl (ne e)
      · rw [if_neg en] at e
        rw [if_neg en'] at e'
        exact h.inj m m' a e e'
theorem ok_tidy (T : Txt K mg a d) : FnOk P w K mg base CX0 5 a.State_tidy d.State_tidy ["self"] (conc K (A_tidy a.State)) := by
  have cl := T.cl_State
  have n1 := T.na_State_relations
  have n2 := T.na_State_facts
  have G_row_key : FnOk P w K mg base CX0 2 a.row_key d.row_key ["row"] (conc K A_row_key) := ok_row_key T
  refine ab_ok T.F_State_tidy sc_State_tidy (fun ss M Q ⟨A, c, e, _⟩ => by subst e; rfl) fun cdv Ar outer s H E hr => ?_
  have hu64 := hr.units
  refine ⟨_, (pss_cons (ps_set (i := 1) sc_State_tidy.nd rfl (Or.inl rfl) (pe_callB (r := rSortedS K) cr_sortedS (by rfl) T.n_sorted (by decide +kernel) (pa_cons (pe_op (r := rCatL K) op_catL (pe_callTy (r := rListDk) (call_listD rfl) (by rfl) T.n_list (by decide +kernel) (pa_cons (pe_fld (pv 0) rfl) pa_nil)) (pe_lock (pe_lc (own := [("name", 2)]) rfl sc_State_tidy.nd (pi_keys (pe_fld (pv 0) rfl)) (blkOk_by (own := [("name", 2)]) (N := ["self", "names", "name"]) (sc := (defScope s_State_tidy)) (by decide +kernel)) (fun _ _ _ _ _ => (pg_name (i := 2) sc_State_tidy.nd rfl (Or.inl rfl))) (fun _ _ _ _ _ => pts_one (pt_cmpR op_gt (pe_callB (r := rLenS K) call_len_seq (by rfl) T.n_len PySem.boot_len (pa_cons (pe_dget (hu1 hu64) (pe_fldK (K := K) rfl (pv 0) rfl) (pv 2) (fun _ _ => rfl)) pa_nil)) pe_int (nomark _))) (fun _ _ _ _ _ => (pv 2))))) pa_nil)))
  (pss_one (ps_fld (pv 0) (pe_dc (own := [("name", 2)]) rfl sc_State_tidy.nd (pi_list (pv 1)) (blkOk_by (own := [("name", 2)]) (N := ["self", "names", "name"]) (sc := (defScope s_State_tidy)) (by decide +kernel)) (fun _ _ _ _ _ => (pg_name (i := 2) sc_State_tidy.nd rfl (Or.inl rfl))) (fun _ _ _ _ _ => pts_nil) (fun _ _ _ _ _ => (pv 2)) (fun _ _ _ _ _ => (pe_callBK (cr_sortFK (K := K) rfl G_row_key (hr.mono (by omega)) T.b_row_key) (by rfl) T.n_sorted (by decide +kernel) (pa_cons (pe_dget2 (hu1 hu64) (pe_fldK (K := K) rfl (pv 0) rfl) (pv 2) (pe_lst pa_nil) ⟨rfl, rfl, rfl, rfl⟩) pa_nil) (pk_cons (pe_glob (v := .ref a.row_key) (by rfl) T.g_row_key rfl) pk_nil)))) rfl))), ?_⟩
  rintro ss M Q ⟨A, c, rfl, h, hc, hs, q⟩
  walk_at "k"
  show WS K _ [some (.raw (.ref A.o)), none, none] M _
  have ho := h.ho
  have hfl : A.fa.length = c.fac.length := by rw [← List.length_map (f := (·.1)), h.keys, List.length_map]
  refine ws_seq (ws_set (w_cb (wa_cons (w_op (w_cb (wa_cons (w_fldI rfl ho cl n1 (sl_r _) (wa_nil (wl_listD (dcv_ref h.hr) fun p hp => ?_)))))))))
  have hk := h.new hp
  have h1 := h.um (x := .lst ((kvR c).map fun q => kS q.1)) hk
  have hp1 : Ab.um M p (.lst ((kvR c).map fun q => kS q.1)) p = some (.lst ((c.rel.map fun q => PyData.str q.1).map .dat)) := by
    rw [um_same]
    unfold kvR
    rw [List.map_map, List.map_map]
    rfl
  have f1 : SFr M (Ab.um M p (.lst ((kvR c).map fun q => kS q.1))) A A := SFr.umN hp
  generalize Ab.um M p (.lst ((kvR c).map fun q => kS q.1)) = M1 at h1 hp1 f1
  refine w_lock h1.hf fun od v => ?_
  have hoM : ∀ o, Ab.um M1 A.f o A.o = some (.ins a.State A.dx (sfld A)) := fun o => by rw [um_ne h1.oo.2.1.symm]; exact h1.ho
  refine w_lc (by decide) (wi_keys (w_fldI rfl (hoM _) cl n2 (sl_f _) ⟨A.f, od, v, kvF A, rfl, um_same, fun i acc M' => M' = Ab.um M1 A.f (.frz od v (.dK (kvF A))) ∧ acc = (((c.fac.map (·.1)).take i).filter fun n => decide (0 < (rowsOf c n).length)).map PyData.str, ⟨rfl, by rw [List.take_zero]; rfl⟩, fun i acc M' _ ⟨e, _⟩ D o hD => ?_, ?_, ?_⟩))
  · subst e
    have : A.f ≠ D := fun z => by rw [← z, um_same] at hD; cases hD
    show Ab.um _ D o A.f = _
    rw [um_ne this, um_same]
  · rintro i acc M' D hi ⟨rfl, rfl⟩ hD
    have hi1 : i < A.fa.length := by unfold kvF at hi; rw [List.length_map] at hi; exact hi
    have hi2 : i < (c.fac.map (·.1)).length := by rw [List.length_map, ← hfl]; exact hi1
    have en : (A.fa[i]).1 = (c.fac.map (·.1))[i] := by
      have z : (A.fa.map (·.1))[i]? = (c.fac.map (·.1))[i]? := by rw [h.keys]
      rw [List.getElem?_map, List.getElem?_eq_getElem hi1, List.getElem?_eq_getElem hi2] at z
      exact Option.some.inj z
    generalize hn : (c.fac.map (·.1))[i] = n at en
    have gi : ((kvF A).map fun q => kS q.1).getD i .non = .str n := by
      rw [List.getD_eq_getElem?_getD, List.getElem?_map]
      unfold kvF
      rw [List.getElem?_map, List.getElem?_eq_getElem hi1]
      show kS (.inr A.fa[i].1) = _
      rw [en]
      rfl
    obtain ⟨ad, hv⟩ : ∃ ad, valG A.fa n = some ad := by
      have z := valG_isSome n A.fa
      have hm : n ∈ A.fa.map (·.1) := List.mem_map.mpr ⟨_, List.getElem_mem hi1, en⟩
      rw [decide_eq_true hm] at z
      cases hv : valG A.fa n with
      | none => rw [hv] at z; cases z
      | some ad => exact ⟨ad, rfl⟩
    have hrow := h1.rows n ad hv
    have nD : ∀ b u, M1 b = some u → b ≠ D := fun b u hb z => by
      have : Ab.um M1 A.f (.frz od v (.dK (kvF A))) b = none := by rw [z]; exact hD
      by_cases e : b = A.f
      · rw [e, um_same] at this; cases this
      · rw [um_ne e, hb] at this; cases this
    dsimp only
    rw [gi]
    have hoD : Ab.um (Ab.um M1 A.f (.frz od v (.dK (kvF A)))) D (.lst ((((((c.fac.map (·.1)).take i).filter fun n => decide (0 < (rowsOf c n).length)).map PyData.str)).map .dat)) A.o = some (.ins a.State A.dx (sfld A)) := by rw [um_ne (nD _ _ h1.ho)]; exact hoM _
    have hfD : Ab.um (Ab.um M1 A.f (.frz od v (.dK (kvF A)))) D (.lst ((((((c.fac.map (·.1)).take i).filter fun n => decide (0 < (rowsOf c n).length)).map PyData.str)).map .dat)) A.f = some (.frz od v (.dK (kvF A))) := by rw [um_ne (nD _ _ h1.hf)]; exact um_same
    have hrD : Ab.um (Ab.um M1 A.f (.frz od v (.dK (kvF A)))) D (.lst ((((((c.fac.map (·.1)).take i).filter fun n => decide (0 < (rowsOf c n).length)).map PyData.str)).map .dat)) ad = some (rowsM (rowsOf c n)) := by rw [um_ne (nD _ _ hrow), um_ne (h1.off hv).2.2.1]; exact hrow
    refine wt_test (w_op (w_cb (wa_cons (w_dget (w_fldI rfl hoD cl n2 (sl_f _) (w_var rfl ⟨kvF A, .inr n, .raw (.ref ad), dcv_frz hfD, rfl, ?_, wa_nil (wl_len (lsv_ref hrD) ?_)⟩))))))
    · have ev : valG (kvF A) (.inr n) = (valG A.fa n).map fun p => Sl.raw (.ref p) := valG_inr (fun p : Addr => Sl.raw (.ref p)) n A.fa
      rw [ev, hv]
      rfl
    rw [List.length_map]
    walk_at "f"
    refine ite_d (fun hpos => ?_) (fun hpos => ?_)
    · refine w_var rfl ⟨_, _, rfl, rfl, hD, ?_, rfl, ?_⟩
      · rw [List.length_map]
        have := List.length_filter_le (fun n => decide (0 < (rowsOf c n).length)) ((c.fac.map (·.1)).take i)
        rw [List.length_take] at this
        have := hc.sz.2.1
        omega
      · have hp' : 0 < (rowsOf c n).length := by omega
        rw [List.take_succ_eq_append_getElem hi2, List.filter_append, List.map_append, hn, List.filter_cons, if_pos (decide_eq_true hp')]
        rfl
    · refine ⟨_, rfl, hD, rfl, ?_⟩
      rw [List.take_succ_eq_append_getElem hi2, List.filter_append, List.map_append, hn, List.filter_cons, if_neg fun z => hpos (by have := of_decide_eq_true z; omega)]
      simp
  rintro acc M' ⟨rfl, rfl⟩
  refine ⟨um_same, ?_⟩
  rw [um_um, um_id h1.hf]
  rw [show (kvF A).length = (c.fac.map (·.1)).length by unfold kvF; rw [List.length_map, List.length_map, hfl], List.take_length]
  refine w2_cat (lsv_ref hp1) lsv_dat ?_ ?_
  · rw [List.length_map, List.length_map]
    have := List.length_filter_le (fun n => decide (0 < (rowsOf c n).length)) (c.fac.map (·.1))
    rw [List.length_map] at this
    have := hc.sz.1
    have := hc.sz.2.1
    omega
  generalize hys : c.rel.map (·.1) ++ (c.fac.map (·.1)).filter (fun n => decide (0 < (rowsOf c n).length)) = ys
  have ey : (c.rel.map fun q => PyData.str q.1) ++ ((c.fac.map (·.1)).filter fun n => decide (0 < (rowsOf c n).length)).map PyData.str = ys.map PyData.str := by rw [← hys, List.map_append, List.map_map]; rfl
  have hyl : ys.length < 64 := by
    rw [← hys, List.length_append, List.length_map]
    have := List.length_filter_le (fun n => decide (0 < (rowsOf c n).length)) (c.fac.map (·.1))
    rw [List.length_map] at this
    have := hs.1
    omega
  rw [ey]
  have el : LsV K (.dat (.list (ys.map PyData.str))) M1 (ys.map fun y => .str y) := by
    have : (ys.map PyData.str).map Sl.dat = ys.map fun y => Sl.str y := by rw [List.map_map]; rfl
    rw [← this]
    exact lsv_dat
  refine wa_nil (wl_sortedS el hyl fun p2 hp2 => ?_)
  have en : sortT ys = c.names := by rw [← hys]; rfl
  have hk2 := h1.new hp2
  have h2 := h1.um (x := .lst ((sortT ys).map fun y => .str y)) hk2
  have hp3 : Ab.um M1 p2 (.lst ((sortT ys).map fun y => .str y)) p2 = some (.lst (c.names.map fun y => .str y)) := by rw [um_same, en]
  have f2 : SFr M (Ab.um M1 p2 (.lst ((sortT ys).map fun y => .str y))) A A := f1.trans (SFr.umN hp2)
  generalize Ab.um M1 p2 (.lst ((sortT ys).map fun y => .str y)) = M2 at h2 hp3 f2
  show WS K _ [some (.raw (.ref A.o)), some (.raw (.ref p2)), none] M2 _
  refine ws_fldI rfl cl n2 ?_
  refine w_dc (wi_list (w_var rfl ⟨_, lsv_ref hp3, fun i acc M' => ∃ fa, acc = (fa.map fun p : Str × Addr => ((.inr p.1 : Key), Sl.raw (.ref p.2))) ∧ Grow M2 M' fa (mergeG [] ((c.names.take i).map fun n => (n, sortR (rowsOf c n)))), ⟨[], rfl, fun _ _ h => h, rfl, fun _ _ e => (nomatch e), fun _ _ _ e => (nomatch e)⟩, fun i acc M' _ ⟨fa, _, g⟩ D o hD => ?_, ?_, ?_⟩))
  · have := g.ext _ _ hp3
    exact lsv_ref (by rw [um_ne fun z => by rw [z, hD] at this; cases this]; exact this)
  · rintro i acc M' D hi ⟨fa, rfl, g⟩ hD
    have hi' : i < c.names.length := by rw [List.length_map] at hi; exact hi
    have gi : (c.names.map fun y => Sl.str y).getD i .non = .str c.names[i] := by rw [List.getD_eq_getElem?_getD, List.getElem?_map, List.getElem?_eq_getElem hi']; rfl
    refine ⟨fun ρ => ρ.set 2 (some (.str c.names[i])), ?_, ?_⟩
    · show LcT _ _ _ ((c.names.map fun y => Sl.str y).getD i .non) _
      rw [gi]
      exact lct_name (by decide)
    have hn : c.names.take (i + 1) = c.names.take i ++ [c.names[i]] := List.take_succ_eq_append_getElem hi'
    generalize c.names[i] = n at gi hn
    have nD : ∀ b u, M2 b = some u → b ≠ D := fun b u hb z => by rw [← z, g.ext b u hb] at hD; cases hD
    have exD : ∀ b u, M2 b = some u → Ab.um M' D (.dK (fa.map fun p : Str × Addr => ((.inr p.1 : Key), Sl.raw (.ref p.2)))) b = some u := fun b u hb => by rw [um_ne (nD b u hb)]; exact g.ext b u hb
    refine wt_yes ?_
    rw [if_pos rfl]
    refine w_var rfl ?_
    refine w_sortF (O := rowO) (kf := rkey) (T := .type "tuple") (wa_cons (w_dget2 (w_fldI rfl (exD _ _ h2.ho) cl n2 (sl_f _) ⟨⟨_, dcv_ref (exD _ _ h2.hf)⟩, w_var rfl (w_lstD (wa_nil ⟨[], rfl, by simp, kvF A, .inr n, dcv_ref (exD _ _ h2.hf), rfl, wa_nil (wa_cons (w_raw (wa_nil ⟨_, rowsOf c n, fun r => .dat (encR r), ([] : List Val), rfl, rfl, ?_, fit_rows fun r hr => okD_shaped (rkey_ok ((hc.row (n := n)).1 r hr).1) (by decide), ?_, ?_⟩)))⟩))⟩)))
    · have ev : valG (kvF A) (.inr n) = (valG A.fa n).map fun p => Sl.raw (.ref p) := valG_inr (fun p : Addr => Sl.raw (.ref p)) n A.fa
      rw [ev]
      cases hv : valG A.fa n with
      | none =>
        rw [h2.emp hv]
        exact lsv_dat
      | some ad => exact lsv_ref (exD _ _ (h2.rows n ad hv))
    · intro r hr QA qa
      have := ((hc.row (n := n)).1 r hr).1.1
      exact ⟨r, rfl, by omega, qa⟩
    · intro p3 hp3'
      have pD : p3 ≠ D := fun z => by rw [z, um_same] at hp3'; cases hp3'
      have hpM : M' p3 = none := by rw [um_ne pD] at hp3'; exact hp3'
      refine ⟨.inr n, Ab.um M' p3 (rowsM (sortR (rowsOf c n))), rfl, um_comm pD.symm, by rw [um_ne (Ne.symm pD)]; exact hD, ?_, putG fa n p3, putG_inr (fun p : Addr => Sl.raw (.ref p)) n p3 fa, ?_⟩
      · rw [List.length_map]
        have e1 : fa.length = (fa.map (·.1)).length := (List.length_map ..).symm
        rw [e1, g.keys, List.length_map]
        have := mergeG_len ((c.names.take i).map fun n => (n, sortR (rowsOf c n))) []
        rw [List.length_map, List.length_take] at this
        have : c.names.length = ys.length := by rw [← en]; exact (List.mergeSort_perm _ _).length_eq
        simp only [List.length_nil] at *
        omega
      · rw [hn, List.map_append]
        have z := g.step hpM n (sortR (rowsOf c n))
        rw [show ([n].map fun n => (n, sortR (rowsOf c n))) = [(n, sortR (rowsOf c n))] from rfl, mergeG_snoc]
        exact z
  rintro acc M' D ⟨fa, rfl, g⟩ hD
  rw [List.length_map, List.take_length] at g
  have D2 : M2 D = none := by
    cases e : M2 D with
    | none => rfl
    | some u => rw [g.ext D u e] at hD; cases hD
  have nD : ∀ b u, M2 b = some u → b ≠ D := fun b u hb z => by rw [z, D2] at hb; cases hb
  have exD : ∀ b u, M2 b = some u → Ab.um M' D (.dK (fa.map fun p : Str × Addr => ((.inr p.1 : Key), Sl.raw (.ref p.2)))) b = some u := fun b u hb => by rw [um_ne (nD b u hb)]; exact g.ext b u hb
  refine ⟨A.dx, sfld A, exD _ _ h2.ho, by show 4 < 1000; decide, ?_⟩
  rw [sp_f]
  have hoD : D ≠ A.o := fun z => nD _ _ h2.ho z.symm
  have ex : ∀ b u, M2 b = some u → b ≠ A.o → Ab.um (Ab.um M' D (.dK (fa.map fun p : Str × Addr => ((.inr p.1 : Key), Sl.raw (.ref p.2))))) A.o (.ins a.State A.dx (sfld (A.sF D))) b = some u := fun b u hb hn => by rw [um_ne hn]; exact exD b u hb
  obtain ⟨m1, m2, m3, m4, m5, m6⟩ := h2.ne
  obtain ⟨o1, o2, o3, o4⟩ := h2.oo
  refine q _ ((A.sF D).sFa fa) ⟨um_same, ex _ _ h2.hr o1, ?_, ex _ _ h2.hu o3, ex _ _ h2.hn o4, ⟨fun z => nD _ _ h2.hr z, m2, m3, fun z => nD _ _ h2.hu z.symm, fun z => nD _ _ h2.hn z.symm, m6⟩, g.keys, fun n ad e => ?_, g.inj⟩ ⟨rfl, fun b u hb hn => ?_⟩
  · show Ab.um _ A.o _ D = _
    rw [um_ne hoD, um_same]
    rfl
  · obtain ⟨z1, z2⟩ := g.rows n ad e
    have ne1 : ad ≠ A.o := fun z => by rw [z, h2.ho] at z1; cases z1
    have ne2 : ad ≠ D := fun z => by rw [z, hD] at z2; cases z2
    rw [um_ne ne1, um_ne ne2]
    exact z2
  · have hb2 := (f2.2 b u hb hn).1
    have ne1 : b ≠ A.o := fun z => hn (.inl z)
    refine ⟨ex b u hb2 ne1, fun z => ?_⟩
    rcases z with z | z | z | z | z | ⟨n', z⟩
    · exact hn (.inl z)
    · exact hn (.inr (.inl z))
    · exact nD _ _ hb2 z
    · exact hn (.inr (.inr (.inr (.inl z))))
    · exact hn (.inr (.inr (.inr (.inr (.inl z)))))
    · have := (g.rows n' b z).1
      rw [hb2] at this
      cases this
end
end
section
local macro_rules | `(tactic| walk_at "fl") => `(tactic| with_reducible first | exact sl_r _ | exact sl_f _ | exact sl_u _ | exact sl_n _)
section
variable {w : World} {K : PySem.W.Frag} {mg : Str → Option Value} {base : Heap} {a : AD} {d : FD}
def A_items (C : Addr) : ASp := fun ss M Q => ∃ A c, ss = [.raw (.ref (SA.o A))] ∧ SeAt C M A c ∧ CtOk c ∧ Ct.small c ∧ ∀ M' p, M p = none → M' p = some (.lst (c.items.map fun it => .dat it.enc)) → (∀ b u, M b = some u → M' b = some u) → Q (.raw (.ref p)) M'
/-- the list of the items as it grows -/
structure Exs (M N : MH) (D : Addr) (its : List Item) : Prop where
  fr : M D = none
  at_ : N D = some (.lst (its.map fun it => .dat it.enc))
  ext : ∀ b u, M b = some u → N b = some u
theorem Exs.new {M N : MH} {D : Addr} {its : List Item} (h : Exs M N D its) {p : Addr} {x : MO} (hp : N p = none) : Exs M (Ab.um N p x) D its := ⟨h.fr, by rw [um_ne fun z => by rw [← z, h.at_] at hp; cases hp]; exact h.at_, fun b u hb => by rw [um_ne fun z => by rw [← z, h.ext b u hb] at hp; cases hp]; exact h.ext b u hb⟩
theorem Exs.put {M N : MH} {D : Addr} {its : List Item} (h : Exs M N D its) (more : List Item) : Exs M (Ab.um N D (.lst ((its ++ more).map fun it => .dat it.enc))) D (its ++ more) := ⟨h.fr, um_same, fun b u hb => by rw [um_ne fun z => by rw [z, h.fr] at hb; cases hb]; exact h.ext b u hb⟩
theorem SeAt.ext {C : Addr} {M N : MH} {A : SA} {c : Ct} (h : SeAt C M A c) (e : ∀ b u, M b = some u → N b = some u) : SeAt C N A c := ⟨e _ _ h.ho, e _ _ h.hr, e _ _ h.hf, e _ _ h.hu, e _ _ h.hn, h.ne, h.keys, fun n a z => e _ _ (h.rows n a z), h.inj⟩
theorem ok_items (T : Txt K mg a d) : FnOk P w K mg base CX0 1 a.State_all_items d.State_all_items ["self"] (conc K (A_items a.State)) := by
  have cl := T.cl_State
  have n1 := T.na_State_relations
  have n2 := T.na_State_facts
  have n3 := T.na_State_rules
  have n4 := T.na_State_denials
  refine ab_ok T.F_State_all_items sc_State_all_items (fun ss M Q ⟨A, c, e, _⟩ => by subst e; rfl) fun cdv Ar outer s H E hr => ?_
  have hu64 := hr.units
  refine ⟨_, (pss_cons (ps_setLc (i := 1) (own := [("name", 2)]) rfl sc_State_all_items.nd rfl rfl (sw_true rfl rfl rfl (by decide +kernel)) (pi_list (pe_callB (r := rSortedDk) (call_sortedD rfl) (by rfl) T.n_sorted (by decide +kernel) (pa_cons (pe_fld (pv 0) rfl) pa_nil))) (blkOk_by (own := [("name", 2)]) (N := ["self", "items", "name", "row"]) (sc := (defScope s_State_all_items)) (by decide +kernel)) (fun _ _ _ _ _ => (pg_name (i := 2) sc_State_all_items.nd rfl (Or.inl rfl))) (fun _ _ _ _ _ => pts_nil) (fun _ _ _ _ _ => (pe_tup (pa_cons pe_str (pa_cons (pv 2) (pa_cons (pe_dget (hu1 hu64) (pe_fldK (K := K) rfl (pv 0) rfl) (pv 2) (fun _ _ => rfl)) pa_nil))))))
  (pss_cons (ps_for PassesOwn.never rfl (pi_list (pe_callB (r := rSortedDk) (call_sortedD rfl) (by rfl) T.n_sorted (by decide +kernel) (pa_cons (pe_fld (pv 0) rfl) pa_nil))) (pg_name (i := 2) sc_State_all_items.nd rfl (Or.inr rfl)) (pss_one (ps_expr (pe_bm PySem.F.plainAttrs_list PySem.F.slot_list_extend PySem.F.type_list_extend mt_extend (pv 1) (pa_cons (pe_lc (own := [("row", 3)]) rfl sc_State_all_items.nd (pi_list (pe_dget (hu1 hu64) (pe_fld (pv 0) rfl) (pv 2) (fun _ _ => rfl))) (blkOk_by (own := [("row", 3)]) (N := ["self", "items", "name", "row"]) (sc := (defScope s_State_all_items)) (by decide +kernel)) (fun _ _ _ _ _ => (pg_name (i := 3) sc_State_all_items.nd rfl (Or.inl rfl))) (fun _ _ _ _ _ => pts_nil) (fun _ _ _ _ _ => (pe_tup (pa_cons pe_str (pa_cons (pv 2) (pa_cons (pv 3) pa_nil)))))) pa_nil)))))
  (pss_cons (ps_expr (pe_bm PySem.F.plainAttrs_list PySem.F.slot_list_extend PySem.F.type_list_extend mt_extend (pv 1) (pa_cons (pe_lc (own := [("name", 2)]) rfl sc_State_all_items.nd (pi_list (pe_callB (r := rSortedDk) (call_sortedD rfl) (by rfl) T.n_sorted (by decide +kernel) (pa_cons (pe_fld (pv 0) rfl) pa_nil))) (blkOk_by (own := [("name", 2)]) (N := ["self", "items", "name", "row"]) (sc := (defScope s_State_all_items)) (by decide +kernel)) (fun _ _ _ _ _ => (pg_name (i := 2) sc_State_all_items.nd rfl (Or.inl rfl))) (fun _ _ _ _ _ => pts_nil) (fun _ _ _ _ _ => (pe_op (r := rCatA K) op_catA (pe_tup (pa_cons pe_str (pa_cons (pv 2) pa_nil))) (pe_dget (hu1 hu64) (pe_fldK (K := K) rfl (pv 0) rfl) (pv 2) (fun _ _ => rfl))))) pa_nil)))
  (pss_cons (ps_expr (pe_bm PySem.F.plainAttrs_list PySem.F.slot_list_extend PySem.F.type_list_extend mt_extend (pv 1) (pa_cons (pe_lc (own := [("name", 2)]) rfl sc_State_all_items.nd (pi_list (pe_callB (r := rSortedDk) (call_sortedD rfl) (by rfl) T.n_sorted (by decide +kernel) (pa_cons (pe_fld (pv 0) rfl) pa_nil))) (blkOk_by (own := [("name", 2)]) (N := ["self", "items", "name", "row"]) (sc := (defScope s_State_all_items)) (by decide +kernel)) (fun _ _ _ _ _ => (pg_name (i := 2) sc_State_all_items.nd rfl (Or.inl rfl))) (fun _ _ _ _ _ => pts_nil) (fun _ _ _ _ _ => (pe_tup (pa_cons pe_str (pa_cons (pv 2) (pa_cons (pe_dget (hu1 hu64) (pe_fldK (K := K) rfl (pv 0) rfl) (pv 2) (fun _ _ => rfl)) pa_nil)))))) pa_nil)))
  (pss_one (ps_ret (pv 1))))))), ?_⟩
  rintro ss M Q ⟨A, c, rfl, h, hc, hs, q⟩
  walk_at "k"
  show WS K _ [some (.raw (.ref A.o)), none, none, none] M _
  have hfl : A.fa.length = c.fac.length := by rw [← List.length_map (f := (·.1)), h.keys, List.length_map]
  obtain ⟨s1, s2, s3⟩ := hs
  have kR : (kvR c).map (·.1) = (c.rel.map (·.1)).map Sum.inr := by unfold kvR; rw [List.map_map, List.map_map]; rfl
  have kF : (kvF A).map (·.1) = (c.fac.map (·.1)).map Sum.inr := by rw [← h.keys]; unfold kvF; rw [List.map_map, List.map_map]; rfl
  have kU : (kvU c).map (·.1) = (c.rul.map (·.1)).map Sum.inr := by unfold kvU; rw [List.map_map, List.map_map]; rfl
  have kN : (kvN c).map (·.1) = (c.den.map (·.1)).map Sum.inr := by unfold kvN; rw [List.map_map, List.map_map]; rfl
  refine ws_seq (ws_set (w_lcP (by decide) (w_cb (wa_cons (w_fldI rfl h.ho cl n1 (sl_r _) (wa_nil (wl_sortedD (dcv_ref h.hr) kR (by rw [List.length_map]; omega) fun p hp => ?_)))))))
  have h1 : SeAt a.State (Ab.um M p (.lst ((sortT (c.rel.map (·.1))).map fun y => .str y))) A c := h.um (h.new hp)
  have hl1 : Ab.um M p (.lst ((sortT (c.rel.map (·.1))).map fun y => .str y)) p = some (.lst ((sortT (c.rel.map (·.1))).map fun y => .str y)) := um_same
  have x1 : ∀ b u, M b = some u → Ab.um M p (.lst ((sortT (c.rel.map (·.1))).map fun y => .str y)) b = some u := fun b u hb => by rw [um_ne fun z => by rw [z, hp] at hb; cases hb]; exact hb
  generalize Ab.um M p (.lst ((sortT (c.rel.map (·.1))).map fun y => .str y)) = M1 at h1 hl1 x1
  have sl1 := sortT_len (c.rel.map (·.1))
  rw [List.length_map] at sl1
  refine ⟨_, fun i => (Item.relation ((sortT (c.rel.map (·.1))).getD i "") ((valG c.rel ((sortT (c.rel.map (·.1))).getD i "")).getD 0)).enc, lsv_ref hl1, by rw [List.length_map]; omega, fun i D o hi hD => ?_, fun D hD => ?_⟩
  · have hi' : i < (sortT (c.rel.map (·.1))).length := by rw [List.length_map] at hi; exact hi
    have gi : ((sortT (c.rel.map (·.1))).map fun y => Sl.str y).getD i .non = .str ((sortT (c.rel.map (·.1))).getD i "") := by rw [List.getD_eq_getElem?_getD, List.getElem?_map, List.getD_eq_getElem?_getD, List.getElem?_eq_getElem hi']; rfl
    have hm : (sortT (c.rel.map (·.1))).getD i "" ∈ c.rel.map (·.1) := by rw [← sortT_mem, List.getD_eq_getElem?_getD, List.getElem?_eq_getElem hi']; exact List.getElem_mem hi'
    dsimp only
    rw [gi]
    generalize (sortT (c.rel.map (·.1))).getD i "" = n at hm
    obtain ⟨x, hx⟩ := valG_of hm
    have h2 := h1.um (x := o) (h1.new hD)
    refine w_tupD (wa_cons (w_str (wa_cons (w_var rfl (wa_cons (w_dget (w_fldI rfl h2.ho cl n1 (sl_r _) (w_var rfl ⟨kvR c, .inr n, .int x, dcv_ref h2.hr, rfl, ?_, wa_nil ⟨_, rfl, by simp, ?_, rfl⟩⟩))))))))
    · have := valG_inr (fun i : Int => Sl.int i) n c.rel
      rw [hx] at this
      exact this
    · rw [hx]
      rfl
  have E1 : Exs M (Ab.um M1 D (.lst ((List.range ((sortT (c.rel.map (·.1))).map fun y => Sl.str y).length).map fun i => .dat (Item.relation ((sortT (c.rel.map (·.1))).getD i "") ((valG c.rel ((sortT (c.rel.map (·.1))).getD i "")).getD 0)).enc))) D ((sortT (c.rel.map (·.1))).map fun n => .relation n ((valG c.rel n).getD 0)) := by
    refine ⟨?_, ?_, fun b u hb => ?_⟩
    · cases e : M D with
      | none => rfl
      | some u => rw [x1 D u e] at hD; cases hD
    · rw [um_same, List.length_map, range_map (fun n => Sl.dat (Item.relation n ((valG c.rel n).getD 0)).enc) "", List.map_map]
      rfl
    · rw [um_ne fun z => by rw [← z, x1 b u hb] at hD; cases hD]
      exact x1 b u hb
  generalize hI1 : (sortT (c.rel.map (·.1))).map (fun n => Item.relation n ((valG c.rel n).getD 0)) = I1 at E1
  have l1 : I1.length < 64 := by rw [← hI1, List.length_map]; omega
  generalize Ab.um M1 D _ = N1 at E1
  show WS K _ [some (.raw (.ref A.o)), some (.raw (.ref D)), none, none] N1 _
  have h2 := h.ext E1.ext
  refine ws_seq (ws_for (wi_list (w_cb (wa_cons (w_fldI rfl h2.ho cl n2 (sl_f _) (wa_nil (wl_sortedD (dcv_ref h2.hf) kF (by rw [List.length_map]; omega) fun p2 hp2 => ?_)))))))
  have E2 := E1.new (x := .lst ((sortT (c.fac.map (·.1))).map fun y => .str y)) hp2
  have hl2 : Ab.um N1 p2 (.lst ((sortT (c.fac.map (·.1))).map fun y => .str y)) p2 = some (.lst ((sortT (c.fac.map (·.1))).map fun y => .str y)) := um_same
  have pD : p2 ≠ D := fun z => by rw [z, E1.at_] at hp2; cases hp2
  generalize Ab.um N1 p2 (.lst ((sortT (c.fac.map (·.1))).map fun y => .str y)) = N2 at E2 hl2
  have sl2 := sortT_len (c.fac.map (·.1))
  rw [List.length_map] at sl2
  refine ⟨_, lsv_ref hl2, fun i ρ' M' => (∃ y2, ρ' = [some (.raw (.ref A.o)), some (.raw (.ref D)), y2, none]) ∧ M' p2 = some (.lst ((sortT (c.fac.map (·.1))).map fun y => .str y)) ∧ Exs M M' D (I1 ++ ((sortT (c.fac.map (·.1))).take i).flatMap (facI c)), ⟨⟨none, rfl⟩, hl2, by rw [List.take_zero, List.flatMap_nil, List.append_nil]; exact E2⟩, fun i ρ' M' _ ⟨_, e, _⟩ => lsv_ref e, ?_, ?_⟩
  · rintro i ρ' M' hi ⟨⟨y2, rfl⟩, hl, Ex⟩
    have hi' : i < (sortT (c.fac.map (·.1))).length := by rw [List.length_map] at hi; exact hi
    have gi : ((sortT (c.fac.map (·.1))).map fun y => Sl.str y).getD i .non = .str (sortT (c.fac.map (·.1)))[i] := by rw [List.getD_eq_getElem?_getD, List.getElem?_map, List.getElem?_eq_getElem hi']; rfl
    have hm : (sortT (c.fac.map (·.1)))[i] ∈ c.fac.map (·.1) := sortT_mem.mp (List.getElem_mem hi')
    have hn : (sortT (c.fac.map (·.1))).take (i + 1) = (sortT (c.fac.map (·.1))).take i ++ [(sortT (c.fac.map (·.1)))[i]] := List.take_succ_eq_append_getElem hi'
    dsimp only
    rw [gi]
    generalize (sortT (c.fac.map (·.1)))[i] = n at hm hn
    obtain ⟨ad, hv⟩ := valG_of (kvs := A.fa) (n := n) (by rw [h.keys]; exact hm)
    have h3 := h.ext Ex.ext
    have hrow := h3.rows n ad hv
    have ev : valG (kvF A) (.inr n) = some (.raw (.ref ad)) := by
      have := valG_inr (fun p : Addr => Sl.raw (.ref p)) n A.fa
      rw [hv] at this
      exact this
    refine wg_name (ws_drop (w_bm (w_var rfl ⟨ty_lst (lsv_ref Ex.at_), wa_cons (w_lcP (by decide) (w_dget (w_fldI rfl h3.ho cl n2 (sl_f _) (w_var rfl ⟨kvF A, .inr n, _, dcv_ref h3.hf, rfl, ev, _, fun i => (Item.fact n ((rowsOf c n).getD i [])).enc, lsv_ref hrow, by rw [List.length_map]; have := (hc.row (n := n)).2; omega, fun j D2 o hj hD2 => ?_, fun D2 hD2 => ?_⟩))))⟩)))
    · have hj' : j < (rowsOf c n).length := by rw [List.length_map] at hj; exact hj
      have gj : ((rowsOf c n).map fun r => Sl.dat (encR r)).getD j .non = .dat (encR ((rowsOf c n).getD j [])) := by rw [List.getD_eq_getElem?_getD, List.getElem?_map, List.getD_eq_getElem?_getD, List.getElem?_eq_getElem hj']; rfl
      rw [gj]
      refine w_tupD (wa_cons (w_str (wa_cons (w_var rfl (wa_cons (w_var rfl (wa_nil ⟨_, rfl, by simp, rfl, rfl⟩)))))))
    · have e2 : (List.range ((rowsOf c n).map fun r => Sl.dat (encR r)).length).map (fun i => Sl.dat (Item.fact n ((rowsOf c n).getD i [])).enc) = (facI c n).map fun it => .dat it.enc := by
        rw [List.length_map, range_map (fun r => Sl.dat (Item.fact n r).enc) []]
        unfold facI
        rw [List.map_map]
        rfl
      rw [e2]
      have Ex2 := Ex.new (x := .lst ((facI c n).map fun it => .dat it.enc)) hD2
      have hne : D2 ≠ D := fun z => by rw [z, Ex.at_] at hD2; cases hD2
      refine wa_nil (wm_extend Ex2.at_ um_same ?_ ?_)
      · rw [List.length_map, List.length_map, List.length_append]
        have := flat_len hc ((sortT (c.fac.map (·.1))).take i)
        rw [List.length_take] at this
        have := (hc.row (n := n)).2
        unfold facI at *
        rw [List.length_map]
        omega
      · rw [← List.map_append]
        have Ex3 := Ex2.put (facI c n)
        refine ⟨⟨_, rfl⟩, ?_, ?_⟩
        · rw [um_ne pD, um_ne fun z => by rw [← z, hl] at hD2; cases hD2]
          exact hl
        · rw [hn, List.flatMap_append, ← List.append_assoc]
          have : [n].flatMap (facI c) = facI c n := by simp
          rw [this]
          exact Ex3
  rintro ρ' N3 ⟨⟨y2, rfl⟩, _, E3⟩
  rw [List.length_map, List.take_length] at E3
  have l2 := flat_len hc (sortT (c.fac.map (·.1)))
  generalize hI2 : I1 ++ (sortT (c.fac.map (·.1))).flatMap (facI c) = I2 at E3
  have l2' : I2.length ≤ 64 + 1000 * 64 := by rw [← hI2, List.length_append]; omega
  have h3 := h.ext E3.ext
  have sl3 := sortT_len (c.rul.map (·.1))
  rw [List.length_map] at sl3
  refine ws_seq (ws_drop (w_bm (w_var rfl ⟨ty_lst (lsv_ref E3.at_), wa_cons (w_lcP (by decide) (w_cb (wa_cons (w_fldI rfl h3.ho cl n3 (sl_u _) (wa_nil (wl_sortedD (dcv_ref h3.hu) kU (by rw [List.length_map]; omega) fun p3 hp3 => ?_))))))⟩)))
  have E4 := E3.new (x := .lst ((sortT (c.rul.map (·.1))).map fun y => .str y)) hp3
  have hl4 : Ab.um N3 p3 (.lst ((sortT (c.rul.map (·.1))).map fun y => .str y)) p3 = some (.lst ((sortT (c.rul.map (·.1))).map fun y => .str y)) := um_same
  generalize Ab.um N3 p3 (.lst ((sortT (c.rul.map (·.1))).map fun y => .str y)) = N4 at E4 hl4
  have h4 := h.ext E4.ext
  refine ⟨_, fun i => (rulI c ((sortT (c.rul.map (·.1))).getD i "")).enc, lsv_ref hl4, by rw [List.length_map]; omega, fun i D2 o hi hD => ?_, fun D2 hD => ?_⟩
  · have hi' : i < (sortT (c.rul.map (·.1))).length := by rw [List.length_map] at hi; exact hi
    have gi : ((sortT (c.rul.map (·.1))).map fun y => Sl.str y).getD i .non = .str ((sortT (c.rul.map (·.1))).getD i "") := by rw [List.getD_eq_getElem?_getD, List.getElem?_map, List.getD_eq_getElem?_getD, List.getElem?_eq_getElem hi']; rfl
    have hm : (sortT (c.rul.map (·.1))).getD i "" ∈ c.rul.map (·.1) := by rw [← sortT_mem, List.getD_eq_getElem?_getD, List.getElem?_eq_getElem hi']; exact List.getElem_mem hi'
    dsimp only
    rw [gi]
    generalize (sortT (c.rul.map (·.1))).getD i "" = n at hm
    obtain ⟨x, hx⟩ := valG_of hm
    have h5 := h4.um (x := o) (h4.new hD)
    refine w_op (w_tupD (wa_cons (w_str (wa_cons (w_var rfl (wa_nil ⟨_, rfl, by simp, w_dget (w_fldI rfl h5.ho cl n3 (sl_u _) (w_var rfl ⟨kvU c, .inr n, .dat x.enc, dcv_ref h5.hu, rfl, ?_, w2_catT (by simp) ⟨?_, rfl⟩⟩))⟩))))))
    · have := valG_inr (fun r : Rul => Sl.dat r.enc) n c.rul
      rw [hx] at this
      exact this
    · unfold rulI
      rw [hx]
      rfl
  have e5 : (List.range ((sortT (c.rul.map (·.1))).map fun y => Sl.str y).length).map (fun i => Sl.dat (rulI c ((sortT (c.rul.map (·.1))).getD i "")).enc) = ((sortT (c.rul.map (·.1))).map (rulI c)).map fun it => .dat it.enc := by
    rw [List.length_map, range_map (fun r => Sl.dat (rulI c r).enc) "", List.map_map]
    rfl
  rw [e5]
  have E5 := E4.new (x := .lst (((sortT (c.rul.map (·.1))).map (rulI c)).map fun it => .dat it.enc)) hD
  refine wa_nil (wm_extend E5.at_ um_same (by rw [List.length_map, List.length_map, List.length_map]; omega) ?_)
  rw [← List.map_append]
  have E6 := E5.put ((sortT (c.rul.map (·.1))).map (rulI c))
  generalize Ab.um (Ab.um N4 D2 (.lst (((sortT (c.rul.map (·.1))).map (rulI c)).map fun it => .dat it.enc))) D (.lst ((I2 ++ (sortT (c.rul.map (·.1))).map (rulI c)).map fun it => .dat it.enc)) = N6 at E6
  generalize hI3 : I2 ++ (sortT (c.rul.map (·.1))).map (rulI c) = I3 at E6
  have l3 : I3.length ≤ 64 + 1000 * 64 + 64 := by rw [← hI3, List.length_append, List.length_map]; omega
  have h6 := h.ext E6.ext
  have sl4 := sortT_len (c.den.map (·.1))
  rw [List.length_map] at sl4
  refine ws_seq (ws_drop (w_bm (w_var rfl ⟨ty_lst (lsv_ref E6.at_), wa_cons (w_lcP (by decide) (w_cb (wa_cons (w_fldI rfl h6.ho cl n4 (sl_n _) (wa_nil (wl_sortedD (dcv_ref h6.hn) kN (by rw [List.length_map]; omega) fun p4 hp4 => ?_))))))⟩)))
  have E7 := E6.new (x := .lst ((sortT (c.den.map (·.1))).map fun y => .str y)) hp4
  have hl7 : Ab.um N6 p4 (.lst ((sortT (c.den.map (·.1))).map fun y => .str y)) p4 = some (.lst ((sortT (c.den.map (·.1))).map fun y => .str y)) := um_same
  generalize Ab.um N6 p4 (.lst ((sortT (c.den.map (·.1))).map fun y => .str y)) = N7 at E7 hl7
  have h7 := h.ext E7.ext
  refine ⟨_, fun i => (Item.denial ((sortT (c.den.map (·.1))).getD i "") ((valG c.den ((sortT (c.den.map (·.1))).getD i "")).getD [])).enc, lsv_ref hl7, by rw [List.length_map]; omega, fun i D2 o hi hD => ?_, fun D2 hD => ?_⟩
  · have hi' : i < (sortT (c.den.map (·.1))).length := by rw [List.length_map] at hi; exact hi
    have gi : ((sortT (c.den.map (·.1))).map fun y => Sl.str y).getD i .non = .str ((sortT (c.den.map (·.1))).getD i "") := by rw [List.getD_eq_getElem?_getD, List.getElem?_map, List.getD_eq_getElem?_getD, List.getElem?_eq_getElem hi']; rfl
    have hm : (sortT (c.den.map (·.1))).getD i "" ∈ c.den.map (·.1) := by rw [← sortT_mem, List.getD_eq_getElem?_getD, List.getElem?_eq_getElem hi']; exact List.getElem_mem hi'
    dsimp only
    rw [gi]
    generalize (sortT (c.den.map (·.1))).getD i "" = n at hm
    obtain ⟨x, hx⟩ := valG_of hm
    have h8 := h7.um (x := o) (h7.new hD)
    refine w_tupD (wa_cons (w_str (wa_cons (w_var rfl (wa_cons (w_dget (w_fldI rfl h8.ho cl n4 (sl_n _) (w_var rfl ⟨kvN c, .inr n, .dat (encB x), dcv_ref h8.hn, rfl, ?_, wa_nil ⟨_, rfl, by simp, ?_, rfl⟩⟩))))))))
    · have := valG_inr (fun r : List Lit => Sl.dat (encB r)) n c.den
      rw [hx] at this
      exact this
    · rw [hx]
      rfl
  have e8 : (List.range ((sortT (c.den.map (·.1))).map fun y => Sl.str y).length).map (fun i => Sl.dat (Item.denial ((sortT (c.den.map (·.1))).getD i "") ((valG c.den ((sortT (c.den.map (·.1))).getD i "")).getD [])).enc) = ((sortT (c.den.map (·.1))).map fun n => Item.denial n ((valG c.den n).getD [])).map fun it => .dat it.enc := by
    rw [List.length_map, range_map (fun n => Sl.dat (Item.denial n ((valG c.den n).getD [])).enc) "", List.map_map]
    rfl
  rw [e8]
  have E8 := E7.new (x := .lst (((sortT (c.den.map (·.1))).map fun n => Item.denial n ((valG c.den n).getD [])).map fun it => .dat it.enc)) hD
  refine wa_nil (wm_extend E8.at_ um_same (by rw [List.length_map, List.length_map, List.length_map]; omega) ?_)
  rw [← List.map_append]
  have E9 := E8.put ((sortT (c.den.map (·.1))).map fun n => Item.denial n ((valG c.den n).getD []))
  refine ws_ret (w_var rfl (q _ D E9.fr ?_ E9.ext))
  have : I3 ++ (sortT (c.den.map (·.1))).map (fun n => Item.denial n ((valG c.den n).getD [])) = c.items := by
    rw [← hI3, ← hI2, ← hI1]
    rfl
  rw [← this]
  exact E9.at_
end
end
section
local macro_rules | `(tactic| walk_at "fl") => `(tactic| with_reducible first | exact sl_r _ | exact sl_f _ | exact sl_u _ | exact sl_n _)
section
variable {w : World} {K : PySem.W.Frag} {mg : Str → Option Value} {base : Heap} {a : AD} {d : FD}
theorem si_0 (x : Sl) : putS "relations" x [] = ([("relations", x)] : List (Str × Sl)) := by kernel_rfl
theorem si_1 (x0 x : Sl) : putS "facts" x [("relations", x0)] = ([("relations", x0), ("facts", x)] : List (Str × Sl)) := by kernel_rfl
theorem si_2 (x0 x1 x : Sl) : putS "rules" x [("relations", x0), ("facts", x1)] = ([("relations", x0), ("facts", x1), ("rules", x)] : List (Str × Sl)) := by kernel_rfl
theorem si_3 (x0 x1 x2 x : Sl) : putS "denials" x [("relations", x0), ("facts", x1), ("rules", x2)] = ([("relations", x0), ("facts", x1), ("rules", x2), ("denials", x)] : List (Str × Sl)) := by kernel_rfl
/-- what a new state is told of -/
def NewAt (C : Addr) (M M' : MH) (o : Addr) (c : Ct) : Prop := ∃ A : SA, A.o = o ∧ SeAt C M' A c ∧ ∀ b u, M b = some u → b ≠ o → M' b = some u ∧ ¬ A.own b
def A_initL (C : Addr) (K : PySem.W.Frag) : ASp := fun ss M Q => ∃ o dx s its, ss = [.raw (.ref o), s] ∧ M o = some (.ins C dx []) ∧ LsV K s M (List.map (fun it => Sl.dat (Item.enc it)) its) ∧ InitOk its ∧ ∀ M', NewAt C M M' o (puts its).tidy → Q .non M'
def A_initT (C e0 : Addr) : ASp := fun ss M Q => ∃ o dx, ss = [.raw (.ref o), .raw (.ref e0)] ∧ M o = some (.ins C dx []) ∧ ∀ M', NewAt C M M' o (puts []).tidy → Q .non M'
theorem lsv_fr {F : PySem.W.Frag} {s : Sl} {xs : List Sl} {M M' : MH} (h : LsV F s M xs) (e : ∀ b ys, M b = some (.lst ys) → M' b = some (.lst ys)) : LsV F s M' xs := by
  rcases h with h | ⟨a, z, h⟩ | h
  · exact .inl h
  · exact .inr (.inl ⟨a, z, e _ _ h⟩)
  · exact .inr (.inr h)
section
variable {C : Addr} {M N : MH} {o dx : Addr}
/-- the four dicts are laid -/
theorem ws_four (T : Txt K mg a d) {ρ : Rho} {tb : TS} {P0 : AE} (hv : ρ[0]? = some (some (.raw (.ref o)))) (hM : M o = some (.ins a.State dx []))
    (q : ∀ N, NewAt a.State M N o ct0 → (∃ A : SA, A.o = o ∧ SeAt a.State N A ct0) → WS (KX.pure K) tb ρ N P0) :
    WS (KX.pure K) (tSeq (sFld K (tVar 0) tDNewK "relations") (tSeq (sFld K (tVar 0) tDNewK "facts") (tSeq (sFld K (tVar 0) tDNewK "rules") (tSeq (sFld K (tVar 0) tDNewK "denials") tb)))) ρ M P0 := by
  have cl := T.cl_State
  have n1 := T.na_State_relations
  have n2 := T.na_State_facts
  have n3 := T.na_State_rules
  have n4 := T.na_State_denials
  obtain ⟨nx, rt, bk, ct⟩ := P0
  refine ws_seq (ws_fldI hv cl n1 (w_dnew fun p1 h1 => ?_))
  have o1 : p1 ≠ o := fun z => by rw [z, hM] at h1; cases h1
  refine ⟨dx, [], by rw [um_ne o1.symm]; exact hM, by decide, ?_⟩
  rw [si_0]
  refine ws_seq (ws_fldI hv cl n2 (w_dnew fun p2 h2 => ?_))
  have o2 : p2 ≠ o := fun z => by rw [z, um_same] at h2; cases h2
  have h2' : Ab.um M p1 (.dK []) p2 = none := by rw [um_ne o2] at h2; exact h2
  have n21 : p2 ≠ p1 := fun z => by rw [z, um_same] at h2'; cases h2'
  refine ⟨dx, _, by rw [um_ne o2.symm]; exact um_same, by simp, ?_⟩
  rw [si_1]
  refine ws_seq (ws_fldI hv cl n3 (w_dnew fun p3 h3 => ?_))
  have o3 : p3 ≠ o := fun z => by rw [z, um_same] at h3; cases h3
  rw [um_ne o3] at h3
  have n32 : p3 ≠ p2 := fun z => by rw [z, um_same] at h3; cases h3
  rw [um_ne n32, um_ne o3] at h3
  have n31 : p3 ≠ p1 := fun z => by rw [z, um_same] at h3; cases h3
  refine ⟨dx, _, by rw [um_ne o3.symm]; exact um_same, by simp, ?_⟩
  rw [si_2]
  refine ws_seq (ws_fldI hv cl n4 (w_dnew fun p4 h4 => ?_))
  have o4 : p4 ≠ o := fun z => by rw [z, um_same] at h4; cases h4
  rw [um_ne o4] at h4
  have n43 : p4 ≠ p3 := fun z => by rw [z, um_same] at h4; cases h4
  rw [um_ne n43, um_ne o4] at h4
  have n42 : p4 ≠ p2 := fun z => by rw [z, um_same] at h4; cases h4
  rw [um_ne n42, um_ne o4] at h4
  have n41 : p4 ≠ p1 := fun z => by rw [z, um_same] at h4; cases h4
  refine ⟨dx, _, by rw [um_ne o4.symm]; exact um_same, by simp, ?_⟩
  rw [si_3]
  rw [um_ne n21, ] at h2'
  rw [um_ne n31] at h3
  rw [um_ne n41] at h4
  generalize hN : Ab.um (Ab.um (Ab.um (Ab.um (Ab.um (Ab.um (Ab.um (Ab.um M p1 (.dK [])) o (.ins a.State dx [("relations", .raw (.ref p1))])) p2 (.dK [])) o (.ins a.State dx [("relations", .raw (.ref p1)), ("facts", .raw (.ref p2))])) p3 (.dK [])) o (.ins a.State dx [("relations", .raw (.ref p1)), ("facts", .raw (.ref p2)), ("rules", .raw (.ref p3))])) p4 (.dK [])) o (.ins a.State dx [("relations", .raw (.ref p1)), ("facts", .raw (.ref p2)), ("rules", .raw (.ref p3)), ("denials", .raw (.ref p4))]) = N
  have hs : SeAt a.State N ⟨o, dx, p1, p2, p3, p4, []⟩ ct0 := by
    rw [← hN]
    refine ⟨um_same, ?_, ?_, ?_, ?_, ⟨n21.symm, n31.symm, n41.symm, n32.symm, n42.symm, n43.symm⟩, rfl, fun _ _ e => (nomatch e), fun _ _ _ e => (nomatch e)⟩
    · show Ab.um _ o _ p1 = _
      rw [um_ne o1, um_ne n41.symm, um_ne o1, um_ne n31.symm, um_ne o1, um_ne n21.symm, um_ne o1, um_same]
      rfl
    · show Ab.um _ o _ p2 = _
      rw [um_ne o2, um_ne n42.symm, um_ne o2, um_ne n32.symm, um_ne o2, um_same]
      rfl
    · show Ab.um _ o _ p3 = _
      rw [um_ne o3, um_ne n43.symm, um_ne o3, um_same]
      rfl
    · show Ab.um _ o _ p4 = _
      rw [um_ne o4, um_same]
      rfl
  have hf : NewAt a.State M N o ct0 := by
    refine ⟨_, rfl, hs, fun b u hb hn => ?_⟩
    have b1 : b ≠ p1 := fun z => by rw [z, h1] at hb; cases hb
    have b2 : b ≠ p2 := fun z => by rw [z, h2'] at hb; cases hb
    have b3 : b ≠ p3 := fun z => by rw [z, h3] at hb; cases hb
    have b4 : b ≠ p4 := fun z => by rw [z, h4] at hb; cases hb
    refine ⟨by rw [← hN, um_ne hn, um_ne b4, um_ne hn, um_ne b3, um_ne hn, um_ne b2, um_ne hn, um_ne b1]; exact hb, fun z => ?_⟩
    rcases z with z | z | z | z | z | ⟨n, z⟩
    · exact hn z
    · exact b1 z
    · exact b2 z
    · exact b3 z
    · exact b4 z
    · cases z
  exact q N hf ⟨_, rfl, hs⟩
end
theorem ok_initL (T : Txt K mg a d) : FnOk P w K mg base CX0 6 a.State___init__ d.State___init__ ["self", "items"] (conc K (A_initL a.State K)) := by
  have cl := T.cl_State
  have G_State_put := ok_put (w := w) (base := base) T
  have G_State_tidy := ok_tidy (w := w) (base := base) T
  refine ab_okD T.F_State___init__ sc_State___init__ (fun ss M Q ⟨o, dx, s, its, e, _⟩ => by subst e; rfl) fun cdv Ar outer s H E hr => ?_
  have hu64 := hr.units
  refine ⟨_, (pss_cons (ps_fld (pv 0) pe_dnewK rfl)
  (pss_cons (ps_fld (pv 0) pe_dnewK rfl)
  (pss_cons (ps_fld (pv 0) pe_dnewK rfl)
  (pss_cons (ps_fld (pv 0) pe_dnewK rfl)
  (pss_cons (ps_for PassesOwn.never rfl (pi_list (pv 1)) (pg_name (i := 2) sc_State___init__.nd rfl (Or.inl rfl)) (pss_one (ps_expr (pe_meth (pv 0) T.cl_State T.m_State_put G_State_put (hr.mono (by omega)) T.b_State_put .nil pass0 (pa_cons (pv 2) pa_nil)))))
  (pss_one (ps_expr (pe_meth0 (pv 0) T.cl_State T.m_State_tidy G_State_tidy (hr.mono (by omega)) T.b_State_tidy .nil pass0)))))))), ?_⟩
  rintro ss M Q ⟨o, dx, s, its, rfl, hM, hl, ⟨hit, hio⟩, q⟩
  walk_at "k"
  show WS K _ [some (.raw (.ref o)), some s, none] M _
  refine ws_four T rfl hM fun N hN _ => ?_
  obtain ⟨A0, eo0, h0, f0⟩ := hN
  have nl : ∀ b ys, M b = some (.lst ys) → b ≠ o := fun b ys hb z => by rw [z, hM] at hb; cases hb
  refine ws_seq (ws_for (wi_list (w_var rfl ⟨_, lsv_fr hl fun b ys hb => (f0 b _ hb (nl b ys hb)).1, fun i ρ' M' => (∃ y, ρ' = [some (.raw (.ref o)), some s, y]) ∧ NewAt a.State M M' o (puts (its.take i)), ⟨⟨none, rfl⟩, A0, eo0, by rw [List.take_zero]; exact h0, f0⟩, fun i ρ' M' _ ⟨_, A1, _, _, f1⟩ => lsv_fr hl fun b ys hb => (f1 b _ hb (nl b ys hb)).1, ?_, ?_⟩)))
  · rintro i ρ' M' hi ⟨⟨y, rfl⟩, A1, eo, h1, f1⟩
    have hi' : i < its.length := by rw [List.length_map] at hi; exact hi
    have gi : (its.map fun it => Sl.dat it.enc).getD i .non = .dat its[i].enc := by rw [List.getD_eq_getElem?_getD, List.getElem?_map, List.getElem?_eq_getElem hi']; rfl
    have hn : its.take (i + 1) = its.take i ++ [its[i]] := List.take_succ_eq_append_getElem hi'
    have ok := hit _ (List.getElem_mem hi')
    dsimp only
    rw [gi]
    generalize its[i] = it at hn ok
    refine wg_name (ws_drop (w_meth (w_var rfl ⟨A1.o, A1.dx, sfld A1, by rw [← eo], h1.ho, by kernel_rfl, wa_cons (w_var rfl (wa_nil ⟨A1, _, it, rfl, h1, (hio i (by omega)).1, ok, fun M2 A2 h2 f2 => ?_⟩))⟩)))
    refine ⟨⟨_, rfl⟩, A2, f2.1.trans eo, by rw [hn, puts_snoc]; exact h2, fun b u hb hn => ?_⟩
    obtain ⟨z1, z2⟩ := f1 b u hb hn
    exact f2.2 b u z1 z2
  · rintro ρ' M' ⟨⟨y, rfl⟩, A1, eo, h1, f1⟩
    rw [List.length_map] at h1
    obtain ⟨c1, c2⟩ := hio its.length (Nat.le_refl _)
    rw [List.take_length] at h1 c1 c2
    refine ws_drop (w_meth (w_var rfl ⟨A1.o, A1.dx, sfld A1, by rw [← eo], h1.ho, by kernel_rfl, wa_nil ⟨A1, _, rfl, h1, c1, c2, fun M2 A2 h2 f2 => ?_⟩⟩))
    refine q _ ⟨A2, f2.1.trans eo, h2, fun b u hb hn => ?_⟩
    obtain ⟨z1, z2⟩ := f1 b u hb hn
    exact f2.2 b u z1 z2
end
end
section
local macro_rules | `(tactic| walk_at "fl") => `(tactic| with_reducible first | exact sl_r _ | exact sl_f _ | exact sl_u _ | exact sl_n _)
section
variable {w : World} {K : PySem.W.Frag} {mg : Str → Option Value} {base : Heap} {a : AD} {d : FD}
theorem ok_initT (T : Txt K mg a d) : FnOk P w K mg base CX0 6 a.State___init__ d.State___init__ ["self", "items"] (conc K (A_initT a.State a.e0_State___init__)) := by
  have cl := T.cl_State
  have G_State_put := ok_put (w := w) (base := base) T
  have G_State_tidy := ok_tidy (w := w) (base := base) T
  refine ab_okD T.F_State___init__ sc_State___init__ (fun ss M Q ⟨o, dx, e, _⟩ => by subst e; rfl) fun cdv Ar outer s H E hr => ?_
  have hu64 := hr.units
  refine ⟨_, (pss_cons (ps_fld (pv 0) pe_dnewK rfl)
  (pss_cons (ps_fld (pv 0) pe_dnewK rfl)
  (pss_cons (ps_fld (pv 0) pe_dnewK rfl)
  (pss_cons (ps_fld (pv 0) pe_dnewK rfl)
  (pss_cons (ps_for PassesOwn.never rfl (pi_tup (pv 1)) (pg_name (i := 2) sc_State___init__.nd rfl (Or.inl rfl)) (pss_one (ps_expr (pe_meth (pv 0) T.cl_State T.m_State_put G_State_put (hr.mono (by omega)) T.b_State_put .nil pass0 (pa_cons (pv 2) pa_nil)))))
  (pss_one (ps_expr (pe_meth0 (pv 0) T.cl_State T.m_State_tidy G_State_tidy (hr.mono (by omega)) T.b_State_tidy .nil pass0)))))))), ?_⟩
  rintro ss M Q ⟨o, dx, rfl, hM, q⟩
  walk_at "k"
  show WS K _ [some (.raw (.ref o)), some (.raw (.ref a.e0_State___init__)), none] M _
  refine ws_four T rfl hM fun N hN _ => ?_
  obtain ⟨A1, eo, h1, f1⟩ := hN
  refine ws_seq (ws_for (wi_tup0 T.e0_State___init__ (w_var rfl ⟨rfl, fun i ρ' M' => ρ' = [some (.raw (.ref o)), some (.raw (.ref a.e0_State___init__)), none] ∧ M' = N, ⟨rfl, rfl⟩, fun _ _ _ _ _ => trivial, fun i _ _ hi => absurd hi (Nat.not_lt_zero _), ?_⟩)))
  rintro ρ' M' ⟨rfl, rfl⟩
  refine ws_drop (w_meth (w_var rfl ⟨A1.o, A1.dx, sfld A1, by rw [← eo], h1.ho, by kernel_rfl, wa_nil ⟨A1, _, rfl, h1, ok0.1, ok0.2, fun M2 A2 h2 f2 => ?_⟩⟩))
  refine q _ ⟨A2, f2.1.trans eo, h2, fun b u hb hn => ?_⟩
  obtain ⟨z1, z2⟩ := f1 b u hb hn
  exact f2.2 b u z1 z2
abbrev A_init (C e0 : Addr) (K : PySem.W.Frag) : ASp := orA (A_initL C K) (A_initT C e0)
theorem ok_init (T : Txt K mg a d) : FnOk P w K mg base CX0 6 a.State___init__ d.State___init__ ["self", "items"] (conc K (A_init a.State a.e0_State___init__ K)) := fn_or (ok_initL T) (ok_initT T)
end
end
section
local macro_rules | `(tactic| walk_at "fl") => `(tactic| with_reducible first | exact sl_r _ | exact sl_f _ | exact sl_u _ | exact sl_n _)
section
variable {w : World} {K : PySem.W.Frag} {mg : Str → Option Value} {base : Heap} {a : AD} {d : FD}
/-- a list that changes and its equal -/
def A_sameM (n : Nat) : ASp := fun ss M Q => ∃ p xs, ss = [.raw (.ref p), .dat (.list xs)] ∧ M p = some (.lst (xs.map .dat)) ∧ okD (n + 1) (.list xs) = true ∧ Q (.bl true) M
theorem ok_sameM (T : Txt K mg a d) (n : Nat) : FnOk P w K mg base CX0 (n + 2) a.law_same d.law_same ["_law_actual", "_law_expected"] (conc K (A_sameM n)) := by
  have G_law_same := ok_sameN (w := w) (base := base) T (n + 1)
  refine ab_ok T.F_law_same sc_law_same (fun ss M Q ⟨p, x, e, _⟩ => by subst e; rfl) fun cdv Ar outer s H E hr => ?_
  have hu64 := hr.units
  refine ⟨_, (pss_cons (ps_if (pt_cmpR op_isN (pv 1) pe_non (nomark _)) (pss_one (ps_ret (pe_cmpR op_isN (pv 0) pe_non (nomark _)))) pss_nil)
  (pss_cons (ps_if (pt_val (pe_callB (r := rIsi K) call_isi (by rfl) T.n_isinstance (by decide +kernel) (pa_cons (pv 1) (pa_cons (pe_bltn (v := .ty "bool") (u := .type "bool") (by rfl) T.n_bool (by decide +kernel) rfl) pa_nil)))) (pss_one (ps_ret (pe_and (pe_callB (r := rIsi K) call_isi (by rfl) T.n_isinstance (by decide +kernel) (pa_cons (pv 0) (pa_cons (pe_bltn (v := .ty "bool") (u := .type "bool") (by rfl) T.n_bool (by decide +kernel) rfl) pa_nil))) (pe_one (pe_cmpR (r := rEqD K) (op_eqD hu64) (pv 0) (pv 1) (nomark _)))))) pss_nil)
  (pss_cons (ps_if (pt_val (pe_callB (r := rIsi K) call_isi (by rfl) T.n_isinstance (by decide +kernel) (pa_cons (pv 1) (pa_cons (pe_bltn (v := .ty "int") (u := .type "int") (by rfl) T.n_int (by decide +kernel) rfl) pa_nil)))) (pss_one (ps_ret (pe_and (pe_callB (r := rIsi K) call_isi (by rfl) T.n_isinstance (by decide +kernel) (pa_cons (pv 0) (pa_cons (pe_bltn (v := .ty "int") (u := .type "int") (by rfl) T.n_int (by decide +kernel) rfl) pa_nil))) (pe_and (pe_not (pe_callB (r := rIsi K) call_isi (by rfl) T.n_isinstance (by decide +kernel) (pa_cons (pv 0) (pa_cons (pe_bltn (v := .ty "bool") (u := .type "bool") (by rfl) T.n_bool (by decide +kernel) rfl) pa_nil)))) (pe_one (pe_cmpR (r := rEqD K) (op_eqD hu64) (pv 0) (pv 1) (nomark _))))))) pss_nil)
  (pss_cons (ps_if (pt_val (pe_callB (r := rIsi K) call_isi (by rfl) T.n_isinstance (by decide +kernel) (pa_cons (pv 1) (pa_cons (pe_bltn (v := .ty "str") (u := .type "str") (by rfl) T.n_str (by decide +kernel) rfl) pa_nil)))) (pss_one (ps_ret (pe_and (pe_callB (r := rIsi K) call_isi (by rfl) T.n_isinstance (by decide +kernel) (pa_cons (pv 0) (pa_cons (pe_bltn (v := .ty "str") (u := .type "str") (by rfl) T.n_str (by decide +kernel) rfl) pa_nil))) (pe_one (pe_cmpR (r := rEqD K) (op_eqD hu64) (pv 0) (pv 1) (nomark _)))))) pss_nil)
  (pss_cons (ps_if (PW.pt (pw_and (pt_val (pe_callB (r := rIsi K) call_isi (by rfl) T.n_isinstance (by decide +kernel) (pa_cons (pv 1) (pa_cons (pe_bltn (v := .ty "tuple") (u := .type "tuple") (by rfl) T.n_tuple (by decide +kernel) rfl) pa_nil)))) (pw_and1 (pt_not (pt_val (pe_callB (r := rIsi K) call_isi (by rfl) T.n_isinstance (by decide +kernel) (pa_cons (pv 0) (pa_cons (pe_bltn (v := .ty "tuple") (u := .type "tuple") (by rfl) T.n_tuple (by decide +kernel) rfl) pa_nil)))))))) (pss_one (ps_ret pe_bl)) pss_nil)
  (pss_cons (ps_if (PW.pt (pw_and (pt_val (pe_callB (r := rIsi K) call_isi (by rfl) T.n_isinstance (by decide +kernel) (pa_cons (pv 1) (pa_cons (pe_bltn (v := .ty "list") (u := .type "list") (by rfl) T.n_list (by decide +kernel) rfl) pa_nil)))) (pw_and1 (pt_not (pt_val (pe_callB (r := rIsi K) call_isi (by rfl) T.n_isinstance (by decide +kernel) (pa_cons (pv 0) (pa_cons (pe_bltn (v := .ty "list") (u := .type "list") (by rfl) T.n_list (by decide +kernel) rfl) pa_nil)))))))) (pss_one (ps_ret pe_bl)) pss_nil)
  (pss_cons (ps_if (pt_cmpR (r := rNeD K) (op_neD hu64) (pe_callB (r := rLenS K) call_len_seq (by rfl) T.n_len PySem.boot_len (pa_cons (pv 0) pa_nil)) (pe_callB (r := rLenS K) call_len_seq (by rfl) T.n_len PySem.boot_len (pa_cons (pv 1) pa_nil)) (nomark _)) (pss_one (ps_ret pe_bl)) pss_nil)
  (pss_cons (ps_for PassesOwn.never rfl (pi_range1 rfl T.n_range (pa_cons (pe_callB (r := rLenS K) call_len_seq (by rfl) T.n_len PySem.boot_len (pa_cons (pv 1) pa_nil)) pa_nil)) (pg_name (i := 2) sc_law_same.nd rfl (Or.inl rfl)) (pss_one (ps_if (pt_not (pt_val (pe_call G_law_same (hr.mono (by omega)) (by rfl) T.g_law_same T.F_law_same.kp T.b_law_same .nil pass0 (pa_cons (pe_ix (r := rIx K) ix_seq (pv 0) (pv 2) (fun _ _ => rfl)) (pa_cons (pe_ix (r := rIx K) ix_seq (pv 1) (pv 2) (fun _ _ => rfl)) pa_nil))))) (pss_one (ps_ret pe_bl)) pss_nil)))
  (pss_one (ps_ret pe_bl)))))))))), ?_⟩
  rintro ss M Q ⟨p, xs, rfl, hM, hx, q⟩
  walk_at "k"
  show WS K _ [some (.raw (.ref p)), some (.dat (.list xs)), none] M _
  obtain ⟨hl, ho⟩ := okD_list hx
  walk_at "e"
  refine wl_isiL (b := true) hM (by decide +kernel) ?_
  walk_at "e"
  rw [List.length_map, decide_eq_true rfl]
  walk_at "e"
  refine ws_forR1 (n := (xs.length : Int)) (M1 := M) (by walk_at "e"; exact ⟨rfl, rfl⟩) (by omega)
    (fun i ρ' M' => ∃ y, ρ' = [some (.raw (.ref p)), some (.dat (.list xs)), y] ∧ M' = M) ⟨_, rfl, rfl⟩ ?_ ?_
  · rintro i ρ' M' hi ⟨y, rfl, rfl⟩
    have hi' : i < xs.length := by omega
    refine wg_name ?_
    have hat : atI xs (i : Int) = some xs[i] := atI_nat (List.getElem?_eq_getElem hi')
    walk_at "e"
    refine w2_ixRL hM (by rw [atI_map, hat]; rfl) ?_
    walk_at "e"
    refine w2_ixDL hat ?_
    walk_at "e"
    refine ⟨xs[i], rfl, okD_mem ho (List.getElem_mem hi'), ?_⟩
    walk_at "e"
    exact ⟨_, rfl, rfl⟩
  · rintro ρ' M' ⟨y, rfl, rfl⟩
    walk_at "e"
    exact q
def A_copy (C : Addr) : ASp := fun ss M Q => ∃ A c, ss = [.raw (.ref (SA.o A))] ∧ SeAt C M A c ∧ CtOk c ∧ Ct.small c ∧ InitOk c.items ∧ ∀ M' A', SeAt C M' A' (puts c.items).tidy → (∀ b u, M b = some u → M' b = some u ∧ ¬ A'.own b) → Q (.raw (.ref A'.o)) M'
theorem ok_copy (T : Txt K mg a d) : FnOk P w K mg base CX0 8 a.State_copy d.State_copy ["self"] (conc K (A_copy a.State)) := by
  have cl := T.cl_State
  have G_State_all_items := ok_items (w := w) (base := base) T
  have G_State___init__ := ok_init (w := w) (base := base) T
  refine ab_ok T.F_State_copy sc_State_copy (fun ss M Q ⟨A, c, e, _⟩ => by subst e; rfl) fun cdv Ar outer s H E hr => ⟨_, (pss_one (ps_ret (pe_make T.mk_State G_State___init__ (hr.mono (by omega)) (by rfl) T.g_State T.b_State___init__ .nil pass0 (pa_cons (pe_meth0 (pv 0) T.cl_State T.m_State_all_items G_State_all_items (hr.mono (by omega)) T.b_State_all_items .nil pass0) pa_nil)))), ?_⟩
  rintro ss M Q ⟨A, c, rfl, h, hc, hs, hi, q⟩
  walk_at "k"
  show WS K _ [some (.raw (.ref A.o))] M _
  refine ws_ret (w_make (wa_cons (w_meth (w_var rfl ⟨A.o, A.dx, sfld A, rfl, h.ho, by kernel_rfl, wa_nil ⟨A, c, rfl, h, hc, hs, fun M1 p hp hl ext => wa_nil fun x dx hx => ?_⟩⟩))))
  have px : p ≠ x := fun z => by rw [← z, hl] at hx; cases hx
  refine .inl ⟨x, dx, _, c.items, rfl, um_same, lsv_ref (by rw [um_ne px]; exact hl), hi, fun M' ⟨A', eo, h', f'⟩ => ⟨rfl, ?_⟩⟩
  rw [← eo]
  refine q M' A' h' fun b u hb => ?_
  have bx : b ≠ x := fun z => by rw [← z, ext b u hb] at hx; cases hx
  exact f' b u (by rw [um_ne bx]; exact ext b u hb) bx
theorem dropG_inr {β γ : Type} (f : β → γ) (z : Str) : ∀ kvs : List (Str × β), dropG (kvs.map fun p => ((.inr p.1 : Key), f p.2)) (.inr z) = (dropG kvs z).map fun p => ((.inr p.1 : Key), f p.2)
  | [] => rfl
  | (b, x) :: r => by
    have ih := dropG_inr f z r
    unfold dropG at ih ⊢
    rw [List.map_cons, List.filter_cons, List.filter_cons, ih]
    by_cases e : b = z
    · subst e; simp
    · have h1 : ¬ (Sum.inr b : Key) = .inr z := fun h => e (Sum.inr.inj h)
      simp [e, h1]
theorem dropG_no {β : Type} {z : Str} : ∀ {kvs : List (Str × β)}, valG kvs z = none → dropG kvs z = kvs
  | [], _ => rfl
  | (b, x) :: r, h => by
    rw [valG_cons] at h
    by_cases e : b = z
    · rw [if_pos e] at h; cases h
    · rw [if_neg e] at h
      have ih := dropG_no h
      unfold dropG at ih ⊢
      rw [List.filter_cons, if_pos (decide_eq_true e), ih]
theorem erase_at {α : Type} [BEq α] [LawfulBEq α] : ∀ {xs : List α} {x : α}, x ∈ xs → ∃ j, xs[j]? = some x ∧ (∀ (m : Nat) z, m < j → xs[m]? = some z → z ≠ x) ∧ xs.eraseIdx j = xs.erase x
  | [], _, h => nomatch h
  | y :: ys, x, h => by
    by_cases e : y = x
    · exact ⟨0, by rw [e]; rfl, fun m z hm => absurd hm (Nat.not_lt_zero _), by rw [e, List.erase_cons_head]; rfl⟩
    · obtain ⟨j, h1, h2, h3⟩ := erase_at ((List.mem_cons.mp h).resolve_left fun z => e z.symm)
      refine ⟨j + 1, h1, fun m z hm hz => ?_, ?_⟩
      · cases m with
        | zero => cases hz; exact e
        | succ m => exact h2 m z (Nat.lt_of_succ_lt_succ hm) hz
      · rw [List.eraseIdx_cons_succ, h3, List.erase_cons_tail (by simpa using e)]
def A_take (C : Addr) : ASp := fun ss M Q => ∃ A c it, ss = [.raw (.ref (SA.o A)), .dat (keyOf it).enc] ∧ SeAt C M A c ∧ CtOk c ∧ it.ok ∧ ∀ M' A', SeAt C M' A' (c.take (keyOf it)) → SFr M M' A A' → Q .non M'
theorem ok_take (T : Txt K mg a d) : FnOk P w K mg base CX0 2 a.State_take d.State_take ["self", "key"] (conc K (A_take a.State)) := by
  have cl := T.cl_State
  have n1 := T.na_State_relations
  have n2 := T.na_State_facts
  have n3 := T.na_State_rules
  have n4 := T.na_State_denials
  have G_State_has : FnOk P w K mg base CX0 1 a.State_has d.State_has ["self", "relation", "row"] (conc K (A_has a.State)) := ok_has T
  refine ab_ok T.F_State_take sc_State_take (fun ss M Q ⟨A, c, it, e, _⟩ => by subst e; rfl) fun cdv Ar outer s H E hr => ?_
  have hu64 := hr.units
  have hu65 := room65 hr
  refine ⟨_, (pss_cons (ps_asg (pv 1) (pg_tupK (K := K) (n := 3) rfl rfl (pgs_cons (pg_name (i := 2) sc_State_take.nd rfl (Or.inl rfl)) (pgs_cons (pg_name (i := 3) sc_State_take.nd rfl (Or.inl rfl)) (pgs_cons (pg_name (i := 4) sc_State_take.nd rfl (Or.inl rfl)) pgs_nil)))))
  (pss_one (ps_if (pt_cmpR (r := rEqD K) (op_eqD hu64) (pv 2) pe_int (nomark _)) (pss_one (ps_expr (pe_dpop2 (pe_fld (pv 0) rfl) (pv 3) pe_non ⟨rfl, rfl, rfl, rfl⟩))) (pss_one (ps_if (pt_cmpR (r := rEqD K) (op_eqD hu64) (pv 2) pe_int (nomark _)) (pss_one (ps_expr (pe_dpop2 (pe_fld (pv 0) rfl) (pv 3) pe_non ⟨rfl, rfl, rfl, rfl⟩))) (pss_one (ps_if (pt_cmpR (r := rEqD K) (op_eqD hu64) (pv 2) pe_int (nomark _)) (pss_one (ps_expr (pe_dpop2 (pe_fld (pv 0) rfl) (pv 3) pe_non ⟨rfl, rfl, rfl, rfl⟩))) (pss_one (ps_if (pt_val (pe_meth (pv 0) T.cl_State T.m_State_has G_State_has (hr.mono (by omega)) T.b_State_has .nil pass0 (pa_cons (pv 3) (pa_cons (pv 4) pa_nil)))) (pss_one (ps_expr (pe_bm PySem.F.plainAttrs_list PySem.F.slot_list_remove PySem.F.type_list_remove (r := rRemD K) (mt_remD hu65) (pe_dget (hu1 hu64) (pe_fld (pv 0) rfl) (pv 3) (fun _ _ => rfl)) (pa_cons (pv 4) pa_nil)))) pss_nil))))))))), ?_⟩
  rintro ss M Q ⟨A, c, it, rfl, h, hc, hit, q⟩
  walk_at "k"
  show WS K _ [some (.raw (.ref A.o)), some (.dat (keyOf it).enc), none, none, none] M _
  have ho := h.ho
  cases it with
  | relation n x =>
    refine ws_seq (ws_asg (w_var rfl (wg_tup rfl rfl (wgs_cons (wg_name (wgs_cons (wg_name (wgs_cons (wg_name (wgs_nil ?_)))))))))) 
    walk_at "f"
    refine w_dpop2 (w_fldI rfl ho cl n1 (sl_r _) ⟨A.r, rfl, ⟨_, h.hr⟩, w_var rfl (w_non ⟨kvR c, .inr n, h.hr, rfl, fun x hx => ?_, fun hx => ?_⟩)⟩)
    · have h2 := h.setR (dropG c.rel n)
      have e : dropG (kvR c) (.inr n) = kvR (c.sRel (dropG c.rel n)) := dropG_inr (fun i : Int => Sl.int i) n c.rel
      rw [e]
      exact q _ A h2 (SFr.um (.inr (.inl rfl)))
    · have e := valG_inr (fun i : Int => Sl.int i) n c.rel
      have hv : valG c.rel n = none := by
        cases hv : valG c.rel n with
        | none => rfl
        | some v => rw [hv] at e; rw [show kvR c = c.rel.map fun p => ((.inr p.1 : Key), Sl.int p.2) from rfl, e] at hx; cases hx
      have ec : c.take (keyOf (.relation n x)) = c := by
        show c.sRel (dropG c.rel n) = c
        rw [dropG_no hv]
        rfl
      rw [ec] at q
      exact q _ A h SFr.refl
  | rule n rel hd b =>
    refine ws_seq (ws_asg (w_var rfl (wg_tup rfl rfl (wgs_cons (wg_name (wgs_cons (wg_name (wgs_cons (wg_name (wgs_nil ?_)))))))))) 
    walk_at "f"
    refine w_dpop2 (w_fldI rfl ho cl n3 (sl_u _) ⟨A.u, rfl, ⟨_, h.hu⟩, w_var rfl (w_non ⟨kvU c, .inr n, h.hu, rfl, fun x hx => ?_, fun hx => ?_⟩)⟩)
    · have h2 := h.setU (dropG c.rul n)
      have e : dropG (kvU c) (.inr n) = kvU (c.sRul (dropG c.rul n)) := dropG_inr (fun r : Rul => Sl.dat r.enc) n c.rul
      rw [e]
      exact q _ A h2 (SFr.um (.inr (.inr (.inr (.inl rfl)))))
    · have e := valG_inr (fun r : Rul => Sl.dat r.enc) n c.rul
      have hv : valG c.rul n = none := by
        cases hv : valG c.rul n with
        | none => rfl
        | some v => rw [hv] at e; rw [show kvU c = c.rul.map fun p => ((.inr p.1 : Key), Sl.dat p.2.enc) from rfl, e] at hx; cases hx
      have ec : c.take (keyOf (.rule n rel hd b)) = c := by
        show c.sRul (dropG c.rul n) = c
        rw [dropG_no hv]
        rfl
      rw [ec] at q
      exact q _ A h SFr.refl
  | denial n b =>
    refine ws_seq (ws_asg (w_var rfl (wg_tup rfl rfl (wgs_cons (wg_name (wgs_cons (wg_name (wgs_cons (wg_name (wgs_nil ?_)))))))))) 
    walk_at "f"
    refine w_dpop2 (w_fldI rfl ho cl n4 (sl_n _) ⟨A.n, rfl, ⟨_, h.hn⟩, w_var rfl (w_non ⟨kvN c, .inr n, h.hn, rfl, fun x hx => ?_, fun hx => ?_⟩)⟩)
    · have h2 := h.setN (dropG c.den n)
      have e : dropG (kvN c) (.inr n) = kvN (c.sDen (dropG c.den n)) := dropG_inr (fun r : List Lit => Sl.dat (encB r)) n c.den
      rw [e]
      exact q _ A h2 (SFr.um (.inr (.inr (.inr (.inr (.inl rfl))))))
    · have e := valG_inr (fun r : List Lit => Sl.dat (encB r)) n c.den
      have hv : valG c.den n = none := by
        cases hv : valG c.den n with
        | none => rfl
        | some v => rw [hv] at e; rw [show kvN c = c.den.map fun p => ((.inr p.1 : Key), Sl.dat (encB p.2)) from rfl, e] at hx; cases hx
      have ec : c.take (keyOf (.denial n b)) = c := by
        show c.sDen (dropG c.den n) = c
        rw [dropG_no hv]
        rfl
      rw [ec] at q
      exact q _ A h SFr.refl
  | fact n row =>
    refine ws_seq (ws_asg (w_var rfl (wg_tup rfl rfl (wgs_cons (wg_name (wgs_cons (wg_name (wgs_cons (wg_name (wgs_nil ?_)))))))))) 
    walk_at "f"
    refine w_meth (w_var rfl ⟨A.o, A.dx, sfld A, rfl, ho, by kernel_rfl, wa_cons (w_var rfl (wa_cons (w_var rfl (wa_nil ⟨A, c, n, row, rfl, h, hc, hit.2.1, ?_⟩))))⟩)
    walk_at "f"
    refine ite_d (fun hin => ?_) (fun hin => ?_)
    · have ec : c.take (keyOf (.fact n row)) = c.sFac (putG c.fac n ((rowsOf c n).erase row)) := if_pos hin
      rw [ec] at q
      obtain ⟨ad, ea⟩ : ∃ ad, valG A.fa n = some ad := by
        cases ea : valG A.fa n with
        | none => rw [h.emp ea] at hin; cases hin
        | some ad => exact ⟨ad, rfl⟩
      have ev : valG (kvF A) (.inr n) = some (.raw (.ref ad)) := by
        have := valG_inr (fun p : Addr => Sl.raw (.ref p)) n A.fa
        rw [ea] at this
        exact this
      have hr1 := h.rows n ad ea
      obtain ⟨h1, h2⟩ := hc.row (n := n)
      obtain ⟨j, j1, j2, j3⟩ := erase_at hin
      walk_at "f"
      refine w_bm (w_dget (w_fldI rfl ho cl n2 (sl_f _) (w_var rfl ⟨kvF A, .inr n, _, dcv_ref h.hf, rfl, ev, ty_lst (lsv_ref hr1), wa_cons (w_var rfl (wa_nil (wm_remD (j := j) (ds := (rowsOf c n).map encR) (by rw [List.map_map]; exact hr1) (rows_shaped h1 h2) (okD_shaped (okR_okD (n := 0) hit.2.1) (by decide)) ⟨encR row, ?_, ?_⟩ (fun m z hm hz => ?_) ?_)))⟩)))
      · rw [List.getElem?_map, j1]; rfl
      · rw [eqv_row]; exact decide_eq_true rfl
      · rw [List.getElem?_map] at hz
        cases hz2 : (rowsOf c n)[m]? with
        | none => rw [hz2] at hz; cases hz
        | some r =>
          rw [hz2] at hz
          cases hz
          rw [eqv_row]
          exact decide_eq_false (j2 m r hm hz2)
      · have h3 := h.setRow ea ((rowsOf c n).erase row)
        rw [← eraseMap, j3, List.map_map]
        unfold rowsM at h3
        exact q _ A h3 (SFr.um (.inr (.inr (.inr (.inr (.inr ⟨n, ea⟩))))))
    · have ec : c.take (keyOf (.fact n row)) = c := if_neg hin
      rw [ec] at q
      walk_at "f"
      exact q _ A h SFr.refl
theorem chgs_snoc (c : Ct) (cs : List Chg) (x : Chg) : chgs c (cs ++ [x]) = (chgs c cs).chg x := by unfold chgs; rw [List.foldl_append]; rfl
def A_change (C : Addr) (K : PySem.W.Frag) : ASp := fun ss M Q => ∃ A c s chs, ss = [.raw (.ref (SA.o A)), s] ∧ LsV K s M (List.map (fun x => Sl.dat (Chg.enc x)) chs) ∧ SeAt C M A c ∧ CtOk c ∧ Ct.small c ∧ InitOk c.items ∧ (∀ x ∈ chs, Chg.ok x) ∧
  (∀ i, i ≤ chs.length → CtOk (chgs (puts c.items).tidy (chs.take i)) ∧ Ct.small (chgs (puts c.items).tidy (chs.take i))) ∧
  ∀ M' A', SeAt C M' A' (chgs (puts c.items).tidy chs).tidy → (∀ b u, M b = some u → M' b = some u ∧ ¬ A'.own b) → Q (.raw (.ref A'.o)) M'
theorem ok_change (T : Txt K mg a d) : FnOk P w K mg base CX0 9 a.State_change d.State_change ["self", "changes"] (conc K (A_change a.State K)) := by
  have cl := T.cl_State
  have G_State_copy := ok_copy (w := w) (base := base) T
  have G_State_put := ok_put (w := w) (base := base) T
  have G_State_take := ok_take (w := w) (base := base) T
  have G_State_tidy := ok_tidy (w := w) (base := base) T
  refine ab_ok T.F_State_change sc_State_change (fun ss M Q ⟨A, c, s, chs, e, _⟩ => by subst e; rfl) fun cdv Ar outer s H E hr => ?_
  have hu64 := hr.units
  refine ⟨_, (pss_cons (ps_set (i := 2) sc_State_change.nd rfl (Or.inl rfl) (pe_meth0 (pv 0) T.cl_State T.m_State_copy G_State_copy (hr.mono (by omega)) T.b_State_copy .nil pass0))
  (pss_cons (ps_for PassesOwn.never rfl (pi_list (pv 1)) (pg_tupK (K := K) (n := 2) rfl rfl (pgs_cons (pg_name (i := 3) sc_State_change.nd rfl (Or.inl rfl)) (pgs_cons (pg_name (i := 4) sc_State_change.nd rfl (Or.inl rfl)) pgs_nil))) (pss_one (ps_if (pt_cmpR (r := rEqD K) (op_eqD hu64) (pv 3) pe_str (nomark _)) (pss_one (ps_expr (pe_meth (pv 2) T.cl_State T.m_State_put G_State_put (hr.mono (by omega)) T.b_State_put .nil pass0 (pa_cons (pv 4) pa_nil)))) (pss_one (ps_expr (pe_meth (pv 2) T.cl_State T.m_State_take G_State_take (hr.mono (by omega)) T.b_State_take .nil pass0 (pa_cons (pv 4) pa_nil)))))))
  (pss_cons (ps_expr (pe_meth0 (pv 2) T.cl_State T.m_State_tidy G_State_tidy (hr.mono (by omega)) T.b_State_tidy .nil pass0))
  (pss_one (ps_ret (pv 2)))))), ?_⟩
  rintro ss M Q ⟨A, c, sl, chs, rfl, hls, h, hc, hsm, hi, hok, hst, q⟩
  walk_at "k"
  show WS K _ [some (.raw (.ref A.o)), some sl, none, none, none] M _
  refine ws_seq (ws_set (w_meth (w_var rfl ⟨A.o, A.dx, sfld A, rfl, h.ho, by kernel_rfl, wa_nil ⟨A, c, rfl, h, hc, hsm, hi, fun M1 A1 h1 f1 => ?_⟩⟩)))
  have fl : ∀ {M' : MH}, (∀ b u, M b = some u → M' b = some u) → LsV K sl M' (chs.map fun x => Sl.dat x.enc) := fun e => lsv_fr hls fun b ys hb => e b _ hb
  refine ws_seq (ws_for (wi_list (w_var rfl ⟨_, fl fun b u hb => (f1 b u hb).1, fun i ρ' M' => (∃ y3 y4, ρ' = [some (.raw (.ref A.o)), some sl, some (.raw (.ref A1.o)), y3, y4]) ∧ ∃ A', A'.o = A1.o ∧ SeAt a.State M' A' (chgs (puts c.items).tidy (chs.take i)) ∧ ∀ b u, M b = some u → M' b = some u ∧ ¬ A'.own b, ⟨⟨none, none, rfl⟩, A1, rfl, h1, f1⟩, fun i ρ' M' _ ⟨_, A', _, _, f'⟩ => fl fun b u hb => (f' b u hb).1, ?_, ?_⟩)))
  · rintro i ρ' M' hi2 ⟨⟨y3, y4, rfl⟩, A', eo, h', f'⟩
    have hi' : i < chs.length := by rw [List.length_map] at hi2; exact hi2
    have gi : (chs.map fun x => Sl.dat x.enc).getD i .non = .dat chs[i].enc := by rw [List.getD_eq_getElem?_getD, List.getElem?_map, List.getElem?_eq_getElem hi']; rfl
    have hn : chs.take (i + 1) = chs.take i ++ [chs[i]] := List.take_succ_eq_append_getElem hi'
    obtain ⟨c1, c2⟩ := hst i (Nat.le_of_lt hi')
    have hx := hok _ (List.getElem_mem hi')
    dsimp only
    rw [gi, hn, chgs_snoc]
    rw [← eo]
    generalize chgs (puts c.items).tidy (chs.take i) = c' at h' c1 c2
    have ho' := h'.ho
    cases ex : chs[i] with
    | comes it =>
      rw [ex] at hx
      refine wg_tup (ds := [.str "comes", it.enc]) rfl rfl (wgs_cons (wg_name (wgs_cons (wg_name (wgs_nil ?_)))))
      walk_at "f"
      refine w_meth (w_var rfl ⟨A'.o, A'.dx, sfld A', rfl, ho', by kernel_rfl, wa_cons (w_var rfl (wa_nil ⟨A', c', it, rfl, h', c1, hx, fun M2 A2 h2 f2 => ?_⟩))⟩)
      exact ⟨⟨_, _, rfl⟩, A2, f2.1, h2, fun b u hb => by obtain ⟨z1, z2⟩ := f' b u hb; exact f2.2 b u z1 z2⟩
    | goes it =>
      rw [ex] at hx
      refine wg_tup (ds := [.str "goes", (keyOf it).enc]) rfl rfl (wgs_cons (wg_name (wgs_cons (wg_name (wgs_nil ?_)))))
      walk_at "f"
      refine w_meth (w_var rfl ⟨A'.o, A'.dx, sfld A', rfl, ho', by kernel_rfl, wa_cons (w_var rfl (wa_nil ⟨A', c', it, rfl, h', c1, hx, fun M2 A2 h2 f2 => ?_⟩))⟩)
      exact ⟨⟨_, _, rfl⟩, A2, f2.1, h2, fun b u hb => by obtain ⟨z1, z2⟩ := f' b u hb; exact f2.2 b u z1 z2⟩
  rintro ρ' M' ⟨⟨y3, y4, rfl⟩, A', eo, h', f'⟩
  rw [List.length_map] at h'
  obtain ⟨c1, c2⟩ := hst chs.length (Nat.le_refl _)
  rw [List.take_length] at h' c1 c2
  rw [← eo]
  refine ws_seq (ws_drop (w_meth (w_var rfl ⟨A'.o, A'.dx, sfld A', rfl, h'.ho, by kernel_rfl, wa_nil ⟨A', _, rfl, h', c1, c2, fun M2 A2 h2 f2 => ?_⟩⟩)))
  have e2 : A2.o = A'.o := f2.1
  rw [← e2]
  exact ws_ret (w_var rfl (q M2 A2 h2 fun b u hb => by obtain ⟨z1, z2⟩ := f' b u hb; exact f2.2 b u z1 z2))
end
end
section
local macro_rules | `(tactic| walk_at "fl") => `(tactic| with_reducible first | exact sl_r _ | exact sl_f _ | exact sl_u _ | exact sl_n _)
section
variable {w : World} {K : PySem.W.Frag} {mg : Str → Option Value} {base : Heap} {a : AD} {d : FD}
def A_cols (C : Addr) : ASp := fun ss M Q => ∃ A c r, ss = [.raw (.ref (SA.o A)), .str r] ∧ SeAt C M A c ∧ CtOk c ∧ Ct.small c ∧ goodS r = true ∧ Q (.dat (encO (colsF c r))) M
theorem ok_columns (T : Txt K mg a d) : FnOk P w K mg base CX0 1 a.columns d.columns ["state", "relation"] (conc K (A_cols a.State)) := by
  have cl := T.cl_State
  have n1 := T.na_State_relations
  have n3 := T.na_State_rules
  refine ab_ok T.F_columns sc_columns (fun ss M Q ⟨A, c, r, e, _⟩ => by subst e; rfl) fun cdv Ar outer s H E hr => ?_
  have hu64 := hr.units
  refine ⟨_, (pss_cons (ps_if (pt_cmp (pc_din (hu1 hu64) (pv 1) (pe_fld (pv 0) rfl))) (pss_one (ps_ret (pe_dget (hu1 hu64) (pe_fld (pv 0) rfl) (pv 1) (fun _ _ => rfl)))) pss_nil)
  (pss_cons (ps_for PassesOwn.never rfl (pi_list (pe_callB (r := rSortedDk) (call_sortedD rfl) (by rfl) T.n_sorted (by decide +kernel) (pa_cons (pe_fld (pv 0) rfl) pa_nil))) (pg_name (i := 2) sc_columns.nd rfl (Or.inl rfl)) (pss_one (ps_if (pt_cmpR (r := rEqD K) (op_eqD hu64) (pe_ix (r := rIxT K) ix_tup (pe_dget (hu1 hu64) (pe_fld (pv 0) rfl) (pv 2) (fun _ _ => rfl)) pe_int (fun _ _ => rfl)) (pv 1) (nomark _)) (pss_one (ps_ret (pe_callB (r := rLenS K) call_len_seq (by rfl) T.n_len PySem.boot_len (pa_cons (pe_ix (r := rIxT K) ix_tup (pe_dget (hu1 hu64) (pe_fld (pv 0) rfl) (pv 2) (fun _ _ => rfl)) pe_int (fun _ _ => rfl)) pa_nil)))) pss_nil)))
  (pss_one (ps_ret pe_non)))), ?_⟩
  rintro ss M Q ⟨A, c, r, rfl, h, hc, hs, hr0, q⟩
  walk_at "k"
  show WS K _ [some (.raw (.ref A.o)), some (.str r), none] M _
  walk_at "e"
  have hv := valG_inr (fun i : Int => Sl.int i) r c.rel
  refine w_din (w_var rfl (w_fldI rfl h.ho cl n1 (sl_r _) ⟨kvR c, .inr r, dcv_ref h.hr, rfl, ?_⟩))
  cases e1 : valG c.rel r with
  | some n =>
    rw [e1] at hv
    refine ⟨true, by rw [show valG (kvR c) (.inr r) = some (.int n) from hv]; rfl, ?_⟩
    rw [if_pos rfl]
    walk_at "e"
    refine w_dget (w_fldI rfl h.ho cl n1 (sl_r _) (w_var rfl ⟨kvR c, .inr r, _, dcv_ref h.hr, rfl, hv, ?_⟩))
    have e : colsF c r = some n := by unfold colsF; rw [e1]
    rw [e] at q
    exact q
  | none =>
    rw [e1] at hv
    refine ⟨false, by rw [show valG (kvR c) (.inr r) = none from hv]; rfl, ?_⟩
    rw [if_neg Bool.false_ne_true]
    walk_at "e"
    have e : colsF c r = (sortT (c.rul.map (·.1))).findSome? (ruleCols c r) := by unfold colsF; rw [e1]
    rw [e] at q
    have kU : (kvU c).map (·.1) = (c.rul.map (·.1)).map Sum.inr := by unfold kvU; rw [List.map_map, List.map_map]; rfl
    refine ws_forD (xs := sortT (c.rul.map (·.1))) (enc := PyData.str) (M1 := M) (w_sortedN (w_fldI rfl h.ho cl n3 (sl_u _) ⟨dcv_ref h.hu, kU, by rw [List.length_map]; exact hs.2.1, rfl, rfl⟩))
      (fun pre ρ' M' => ∃ z, ρ' = [some (.raw (.ref A.o)), some (.str r), z] ∧ M' = M ∧ pre.findSome? (ruleCols c r) = none) ⟨none, rfl, rfl, rfl⟩ ?_ ?_
    · rintro pre x post ρ' M' hx ⟨z, rfl, rfl, hp⟩
      have hm : x ∈ c.rul.map (·.1) := by rw [← sortT_mem, hx]; simp
      obtain ⟨u, hu⟩ := valG_of hm
      have hu2 : valG (kvU c) (.inr x) = some (.dat u.enc) := by
        have := valG_inr (fun u : Rul => Sl.dat u.enc) x c.rul
        rw [hu] at this
        exact this
      have hr1 : goodS u.rel = true := (hc.rul _ (valG_mem hu)).2.1
      refine wg_name ?_
      walk_at "e"
      refine w_dget (w_fldI rfl h.ho cl n3 (sl_u _) (w_var rfl ⟨kvU c, .inr x, _, dcv_ref h.hu, rfl, hu2, ?_⟩))
      walk_at "e"
      by_cases he : u.rel = r
      · rw [if_pos (decide_eq_true he)]
        walk_at "e"
        refine w_dget (w_fldI rfl h.ho cl n3 (sl_u _) (w_var rfl ⟨kvU c, .inr x, _, dcv_ref h.hu, rfl, hu2, ?_⟩))
        walk_at "e"
        have ec : ruleCols c r x = some (u.hd.length : Int) := by unfold ruleCols; rw [hu]; exact if_pos he
        rw [hx, List.findSome?_append, hp, Option.none_or, List.findSome?_cons, ec] at q
        exact cast (congrArg (fun n => Q (Sl.dat (.int n)) M') (by rw [List.length_map])) q
      · rw [if_neg (by rw [decide_eq_false he]; exact Bool.false_ne_true)]
        have ec : ruleCols c r x = none := by unfold ruleCols; rw [hu]; exact if_neg he
        exact ws_next ⟨_, rfl, rfl, by rw [List.findSome?_append, hp, Option.none_or, List.findSome?_cons, ec]; rfl⟩
    · rintro ρ' M' ⟨z, rfl, rfl, hp⟩
      rw [hp] at q
      walk_at "e"
      exact q
end
end
section
local macro_rules | `(tactic| walk_at "fl") => `(tactic| with_reducible first | exact sl_r _ | exact sl_f _ | exact sl_u _ | exact sl_n _)
section
variable {w : World} {K : PySem.W.Frag} {mg : Str → Option Value} {base : Heap} {a : AD} {d : FD}
theorem out_names {K : PySem.W.Frag} {M : MH} {Q : Sl → MH → Prop} {s : Sl} {z : Str} {ks : List Str} (hl : LsV K s M (ks.map fun y => .str y) ∨ s = .dat (.tuple (ks.map .str))) (h1 : goodS z = true) (h2 : ∀ y ∈ ks, goodS y = true) (h3 : ks.length ≤ 1000000) (q : Q (.bl (!decide (z ∈ ks))) M) : W2 K (rOutU K) (.str z) s M Q := by
  rcases hl with h | rfl
  · exact w2_outUl (w2_notInT h h1 h2 h3 q)
  · refine w2_outUt (w2_outTp (d := .str z) (ds := ks.map .str) (shaped_str (goodS_ok h1)) (okD_shaped (n := 1) (okD_mkT (by rw [List.length_map]; exact h3) (okAll_of fun d hd => ?_)) (by decide)) ?_)
    · obtain ⟨y, hy, rfl⟩ := List.mem_map.mp hd
      exact okD_str (goodS_ok (h2 y hy))
    · rw [any_strs]
      exact q
def A_atom (C R : Addr) : ASpX := fun ss M Q X => ∃ A c r ts, ss = [.raw (.ref (SA.o A)), .str r, .dat (encT ts)] ∧ SeAt C M A c ∧ CtOk c ∧ Ct.small c ∧ goodS r = true ∧ ts.length ≤ 1000 ∧ (∀ p, atomP (colsF c) r ts = some p → XP R "problem" M X (encP p)) ∧ (atomP (colsF c) r ts = none → Q .non M)
theorem ok_check_atom (T : Txt K mg a d) : FnOk P w K mg base (L2.CX P w) 3 a.check_atom d.check_atom ["state", "relation", "terms"] (concX K (A_atom a.State a.Refused)) := by
  have G_columns : FnOk P w K mg base CX0 1 a.columns d.columns ["state", "relation"] (conc K (A_cols a.State)) := ok_columns T
  refine ab_okX T.F_check_atom sc_check_atom (fun ss M Q X ⟨A, c, r, ts, e, _⟩ => by subst e; rfl) fun cdv Ar outer s H E hr => ?_
  have hu64 := hr.units
  refine ⟨_, (pss_cons (ps_set (i := 3) sc_check_atom.nd rfl (Or.inl rfl) (pe_call G_columns (hr.mono (by omega)) (by rfl) T.g_columns T.F_columns.kp T.b_columns .nil pass0 (pa_cons (pv 0) (pa_cons (pv 1) pa_nil))))
  (pss_cons (ps_if (pt_cmpR op_isN (pv 3) pe_non (nomark _)) (pss_one (ps_raise rfl (takes_of rfl rfl rfl rfl) (SupX.pmk_one T.X_Refused.o T.X_Refused.i T.X_Refused.ti (T.X_Refused.fn w base) (hr.mono (by omega)) T.X_Refused.bi pass0 (by rfl) T.g_Refused (pe_tup (pa_cons pe_str (pa_cons (pv 1) pa_nil)))))) pss_nil)
  (pss_one (ps_if (pt_cmpR (r := rNeD K) (op_neD hu64) (pv 3) (pe_callB (r := rLenS K) call_len_seq (by rfl) T.n_len PySem.boot_len (pa_cons (pv 2) pa_nil)) (nomark _)) (pss_one (ps_raise rfl (takes_of rfl rfl rfl rfl) (SupX.pmk_one T.X_Refused.o T.X_Refused.i T.X_Refused.ti (T.X_Refused.fn w base) (hr.mono (by omega)) T.X_Refused.bi pass0 (by rfl) T.g_Refused (pe_tup (pa_cons pe_str (pa_cons (pv 1) pa_nil)))))) pss_nil)))), ?_⟩
  rintro ss M Q X ⟨A, c, r, ts, rfl, h, hc, hs, hr0, ht, px, q⟩
  walk_at "k"
  show WS _ _ [some (.raw (.ref A.o)), some (.str r), some (.dat (encT ts)), none] M _
  walk_at "f"
  refine ⟨A, c, r, rfl, h, hc, hs, hr0, ?_⟩
  unfold atomP at px q
  cases e : colsF c r with
  | none =>
    rw [e] at px q
    walk_at "f"
    refine ws_raiseF ?_
    walk_at "f"
    exact fun d hd => (px _ rfl).at hd
  | some n =>
    rw [e] at px q
    dsimp only [encO]
    walk_at "f"
    by_cases hn : n = (ts.length : Int)
    · dsimp only at px q
      rw [if_pos hn] at px q
      rw [List.length_map, if_neg (by simp [hn])]
      exact ws_next (q rfl)
    · dsimp only at px q
      rw [if_neg hn] at px q
      rw [List.length_map, if_pos (by simp [hn])]
      refine ws_raiseF ?_
      walk_at "f"
      exact fun d hd => (px _ rfl).at hd
def A_vars : ASp := fun ss M Q => ∃ ts, ss = [.dat (encT ts)] ∧ okTs ts ∧ Q (.dat (.list ((varsF ts).map .str))) M
theorem ok_variables_of (T : Txt K mg a d) : FnOk P w K mg base CX0 1 a.variables_of d.variables_of ["terms"] (conc K A_vars) := by
  refine ab_ok T.F_variables_of sc_variables_of (fun ss M Q ⟨ts, e, _⟩ => by subst e; rfl) fun cdv Ar outer s H E hr => ?_
  have hu64 := hr.units
  refine ⟨_, (pss_one (ps_ret (pe_lc (own := [("term", 1)]) rfl sc_variables_of.nd (pi_tup (pv 0)) (blkOk_by (own := [("term", 1)]) (N := ["terms", "term"]) (sc := (defScope s_variables_of)) (by decide +kernel)) (fun _ _ _ _ _ => (pg_name (i := 1) sc_variables_of.nd rfl (Or.inl rfl))) (fun _ _ _ _ _ => pts_one (pt_cmpR (r := rEqD K) (op_eqD hu64) (pe_ix (r := rIxT K) ix_tup (pv 1) pe_int (fun _ _ => rfl)) pe_str (nomark _))) (fun _ _ _ _ _ => (pe_ix (r := rIxT K) ix_tup (pv 1) pe_int (fun _ _ => rfl)))))), ?_⟩
  rintro ss M Q ⟨ts, rfl, ht, q⟩
  walk_at "k"
  show WS K _ [some (.dat (encT ts)), none] M _
  refine ws_ret ?_
  refine w_lcTF (xs := ts) (enc := Term.enc) (M1 := M) (by decide) (w_var rfl ⟨rfl, rfl⟩) (by have := ht.1; omega) (fun t => (varT t).map PyData.str) ?_ ?_ ?_
  · intro t D o htm hD
    walk_at "e"
    cases t with
    | any =>
      walk_at "e"
      exact ⟨by decide +kernel, rfl⟩
    | value v =>
      unfold Term.enc
      walk_at "e"
      exact ⟨show decide (("value" : Str) = "variable") = false by decide +kernel, rfl⟩
    | «variable» z =>
      unfold Term.enc
      walk_at "e"
      exact ⟨show decide (("variable" : Str) = "variable") = true by decide +kernel, rfl⟩
  · intro t D o d htm hv hD
    cases t with
    | any => cases hv
    | value v => cases hv
    | «variable» z =>
      cases hv
      unfold Term.enc
      walk_at "e"
      exact ⟨rfl, rfl⟩
  · unfold varsF at q
    rw [List.map_filterMap] at q
    exact q
def A_terms (K : PySem.W.Frag) (R : Addr) : ASpX := fun ss M Q X => ∃ s ks any ts, ss = [.dat (encT ts), s, .bl any] ∧ (LsV K s M (ks.map fun y => .str y) ∨ s = .dat (.tuple (ks.map .str))) ∧ okTs ts ∧ (∀ z ∈ ks, goodS z = true) ∧ ks.length ≤ 1000000 ∧ (∀ p, termsP ks any ts = some p → XP R "problem" M X (encP p)) ∧ (termsP ks any ts = none → Q .non M)
theorem ok_check_terms (T : Txt K mg a d) : FnOk P w K mg base (L2.CX P w) 3 a.check_terms d.check_terms ["terms", "known", "lets_any"] (concX K (A_terms K a.Refused)) := by
  refine ab_okX T.F_check_terms sc_check_terms (fun ss M Q X ⟨s, ks, any, ts, e, _⟩ => by subst e; rfl) fun cdv Ar outer s H E hr => ?_
  have hu64 := hr.units
  have hu65 := room65 hr
  refine ⟨_, (pss_one (ps_for (passes_of rfl) rfl (pi_tup (pv 0)) (pg_name (i := 3) sc_check_terms.nd rfl (Or.inl rfl)) (pss_cons (ps_if (PW.pt (pw_and (pt_cmpR (r := rEqD K) (op_eqD hu64) (pe_ix (r := rIxT K) ix_tup (pv 3) pe_int (fun _ _ => rfl)) pe_str (nomark _)) (pw_and1 (pt_not (pt_val (pv 2)))))) (pss_one (ps_raise rfl (takes_of rfl rfl rfl rfl) (SupX.pmk_one T.X_Refused.o T.X_Refused.i T.X_Refused.ti (T.X_Refused.fn w base) (hr.mono (by omega)) T.X_Refused.bi pass0 (by rfl) T.g_Refused (pe_tup (pa_cons pe_str pa_nil))))) pss_nil)
  (pss_one (ps_if (PW.pt (pw_and (pt_cmpR (r := rEqD K) (op_eqD hu64) (pe_ix (r := rIxT K) ix_tup (pv 3) pe_int (fun _ _ => rfl)) pe_str (nomark _)) (pw_and1 (pt_cmpR (r := rOutU K) (op_outU hu65) (pe_ix (r := rIxT K) ix_tup (pv 3) pe_int (fun _ _ => rfl)) (pv 1) (by rfl))))) (pss_one (ps_raise rfl (takes_of rfl rfl rfl rfl) (SupX.pmk_one T.X_Refused.o T.X_Refused.i T.X_Refused.ti (T.X_Refused.fn w base) (hr.mono (by omega)) T.X_Refused.bi pass0 (by rfl) T.g_Refused (pe_tup (pa_cons pe_str (pa_cons (pe_ix (r := rIxT K) ix_tup (pv 3) pe_int (fun _ _ => rfl)) pa_nil)))))) pss_nil))))), ?_⟩
  rintro ss M Q X ⟨sk, ks, any, ts, rfl, hk, ht, hg, hl, px, q⟩
  walk_at "k"
  show WS _ _ [some (.dat (encT ts)), some sk, some (.bl any), none] M _
  refine ws_forT (xs := ts) (enc := Term.enc) (M1 := M) (w_var rfl ⟨rfl, rfl⟩) (fun pre ρ' M' => ∃ z, ρ' = [some (.dat (encT ts)), some sk, some (.bl any), z] ∧ M' = M ∧ termsP ks any pre = none) ⟨none, rfl, rfl, rfl⟩ ?_ ?_
  · rintro pre t post ρ' M' hx ⟨z, rfl, rfl, hp⟩
    have hto : t.ok := ht.2 t (by rw [hx]; simp)
    have step : termsP ks any ts = (termP ks any t).or (termsP ks any post) := by
      unfold termsP at hp ⊢
      rw [hx, List.findSome?_append, hp, Option.none_or, List.findSome?_cons]
      cases termP ks any t <;> rfl
    have stepN : termP ks any t = none → termsP ks any (pre ++ [t]) = none := fun e => by
      unfold termsP at hp ⊢
      rw [List.findSome?_append, hp, Option.none_or, List.findSome?_cons, e]
      rfl
    refine wg_name ?_
    cases t with
    | any =>
      unfold Term.enc
      walk_at "f"
      cases any with
      | true =>
        walk_at "f"
        exact ⟨_, rfl, rfl, stepN rfl⟩
      | false =>
        walk_at "f"
        refine ws_raiseF ?_
        walk_at "f"
        exact fun d hd => (px ["any"] (by rw [step]; rfl)).at hd
    | value v =>
      unfold Term.enc
      walk_at "f"
      exact ⟨_, rfl, rfl, stepN rfl⟩
    | «variable» y =>
      unfold Term.enc
      walk_at "f"
      refine out_names hk hto hg hl ?_
      refine ⟨_, rfl, ?_⟩
      by_cases hy : y ∈ ks
      · have e : termP ks any (.variable y) = none := if_pos hy
        rw [if_neg (by simp [hy])]
        walk_at "f"
        exact ⟨_, rfl, rfl, stepN e⟩
      · have e : termP ks any (.variable y) = some [("unbound" : Str), y] := if_neg hy
        rw [if_pos (by simp [hy])]
        walk_at "f"
        refine ws_raiseF ?_
        walk_at "f"
        exact fun d hd => (px [("unbound" : Str), y] (by rw [step, e]; rfl)).at hd
  · rintro ρ' M' ⟨z, rfl, rfl, hp⟩
    exact q hp
end
end
section
local macro_rules | `(tactic| walk_at "fl") => `(tactic| with_reducible first | exact sl_r _ | exact sl_f _ | exact sl_u _ | exact sl_n _)
section
variable {w : World} {K : PySem.W.Frag} {mg : Str → Option Value} {base : Heap} {a : AD} {d : FD}
def A_lit (K : PySem.W.Frag) (C R : Addr) : ASpX := fun ss M Q X => ∃ A c s ks l, ss = [.raw (.ref (SA.o A)), .dat (Lit.enc l), s] ∧ SeAt C M A c ∧ CtOk c ∧ Ct.small c ∧ LsV K s M (ks.map fun y => .str y) ∧ l.ok ∧ (∀ z ∈ ks, goodS z = true) ∧ ks.length ≤ 1000000 ∧ (∀ p, litP (colsF c) ks l = some p → XP R "problem" M X (encP p)) ∧ (litP (colsF c) ks l = none → Q (.dat (.list ((bindsF l).map .str))) M)
theorem ok_check_literal (T : Txt K mg a d) : FnOk P w K mg base (L2.CX P w) 4 a.check_literal d.check_literal ["state", "literal", "known"] (concX K (A_lit K a.State a.Refused)) := by
  have G_check_atom : FnOk P w K mg base (L2.CX P w) 3 a.check_atom d.check_atom ["state", "relation", "terms"] (concX K (A_atom a.State a.Refused)) := ok_check_atom T
  have G_check_terms : FnOk P w K mg base (L2.CX P w) 3 a.check_terms d.check_terms ["terms", "known", "lets_any"] (concX K (A_terms K a.Refused)) := ok_check_terms T
  have G_variables_of : FnOk P w K mg base CX0 1 a.variables_of d.variables_of ["terms"] (conc K A_vars) := ok_variables_of T
  refine ab_okX T.F_check_literal sc_check_literal (fun ss M Q X ⟨A, c, s, ks, l, e, _⟩ => by subst e; rfl) fun cdv Ar outer s H E hr => ?_
  have hu64 := hr.units
  have hu65 := room65 hr
  refine ⟨_, (pss_cons (ps_if (pt_cmpR (r := rEqD K) (op_eqD hu64) (pe_ix (r := rIxT K) ix_tup (pv 1) pe_int (fun _ _ => rfl)) pe_str (nomark _)) (pss_cons (ps_expr (pe_callSD G_check_atom (hr.mono (by omega)) (by rfl) T.g_check_atom T.F_check_atom.kp T.b_check_atom .nil (fun σ => passAt (takes_of rfl rfl rfl rfl) σ) (pa_cons (pv 0) (pa_cons (pe_ix (r := rIxT K) ix_tup (pv 1) pe_int (fun _ _ => rfl)) (pa_cons (pe_ix (r := rIxT K) ix_tup (pv 1) pe_int (fun _ _ => rfl)) pa_nil)))))
  (pss_one (ps_ret (pe_call G_variables_of (hr.mono (by omega)) (by rfl) T.g_variables_of T.F_variables_of.kp T.b_variables_of .nil pass0 (pa_cons (pe_ix (r := rIxT K) ix_tup (pv 1) pe_int (fun _ _ => rfl)) pa_nil))))) pss_nil)
  (pss_cons (ps_if (pt_cmpR (r := rEqD K) (op_eqD hu64) (pe_ix (r := rIxT K) ix_tup (pv 1) pe_int (fun _ _ => rfl)) pe_str (nomark _)) (pss_cons (ps_expr (pe_callSD G_check_atom (hr.mono (by omega)) (by rfl) T.g_check_atom T.F_check_atom.kp T.b_check_atom .nil (fun σ => passAt (takes_of rfl rfl rfl rfl) σ) (pa_cons (pv 0) (pa_cons (pe_ix (r := rIxT K) ix_tup (pv 1) pe_int (fun _ _ => rfl)) (pa_cons (pe_ix (r := rIxT K) ix_tup (pv 1) pe_int (fun _ _ => rfl)) pa_nil)))))
  (pss_cons (ps_expr (pe_callSD G_check_terms (hr.mono (by omega)) (by rfl) T.g_check_terms T.F_check_terms.kp T.b_check_terms .nil (fun σ => passAt (takes_of rfl rfl rfl rfl) σ) (pa_cons (pe_ix (r := rIxT K) ix_tup (pv 1) pe_int (fun _ _ => rfl)) (pa_cons (pv 2) (pa_cons pe_bl pa_nil)))))
  (pss_one (ps_ret (pe_lst pa_nil))))) pss_nil)
  (pss_cons (ps_if (pt_cmpR (r := rEqD K) (op_eqD hu64) (pe_ix (r := rIxT K) ix_tup (pv 1) pe_int (fun _ _ => rfl)) pe_str (nomark _)) (pss_cons (ps_expr (pe_callSD G_check_terms (hr.mono (by omega)) (by rfl) T.g_check_terms T.F_check_terms.kp T.b_check_terms .nil (fun σ => passAt (takes_of rfl rfl rfl rfl) σ) (pa_cons (pe_slice (r := rSlA K) sl_tupA (pv 1) (po_some pe_int) po_none) (pa_cons (pv 2) (pa_cons pe_bl pa_nil)))))
  (pss_one (ps_ret (pe_lst pa_nil)))) pss_nil)
  (pss_cons (ps_if (pt_cmpR (r := rEqD K) (op_eqD hu64) (pe_ix (r := rIxT K) ix_tup (pv 1) pe_int (fun _ _ => rfl)) pe_str (nomark _)) (pss_cons (ps_expr (pe_callSD G_check_terms (hr.mono (by omega)) (by rfl) T.g_check_terms T.F_check_terms.kp T.b_check_terms .nil (fun σ => passAt (takes_of rfl rfl rfl rfl) σ) (pa_cons (pe_slice (r := rSlA K) sl_tupA (pv 1) (po_some pe_int) po_none) (pa_cons (pv 2) (pa_cons pe_bl pa_nil)))))
  (pss_one (ps_ret (pe_lst (pa_cons (pe_ix (r := rIxT K) ix_tup (pv 1) pe_int (fun _ _ => rfl)) pa_nil))))) pss_nil)
  (pss_cons (ps_expr (pe_callSD G_check_atom (hr.mono (by omega)) (by rfl) T.g_check_atom T.F_check_atom.kp T.b_check_atom .nil (fun σ => passAt (takes_of rfl rfl rfl rfl) σ) (pa_cons (pv 0) (pa_cons (pe_ix (r := rIxT K) ix_tup (pv 1) pe_int (fun _ _ => rfl)) (pa_cons (pe_ix (r := rIxT K) ix_tup (pv 1) pe_int (fun _ _ => rfl)) pa_nil)))))
  (pss_cons (ps_if (pt_cmpR (r := rInD K) (op_inD hu65) (pe_ix (r := rIxT K) ix_tup (pv 1) pe_int (fun _ _ => rfl)) (pe_call G_variables_of (hr.mono (by omega)) (by rfl) T.g_variables_of T.F_variables_of.kp T.b_variables_of .nil pass0 (pa_cons (pe_ix (r := rIxT K) ix_tup (pv 1) pe_int (fun _ _ => rfl)) pa_nil)) (by rfl)) (pss_one (ps_raise rfl (takes_of rfl rfl rfl rfl) (SupX.pmk_one T.X_Refused.o T.X_Refused.i T.X_Refused.ti (T.X_Refused.fn w base) (hr.mono (by omega)) T.X_Refused.bi pass0 (by rfl) T.g_Refused (pe_tup (pa_cons pe_str (pa_cons (pe_ix (r := rIxT K) ix_tup (pv 1) pe_int (fun _ _ => rfl)) pa_nil)))))) pss_nil)
  (pss_one (ps_ret (pe_lst (pa_cons (pe_ix (r := rIxT K) ix_tup (pv 1) pe_int (fun _ _ => rfl)) pa_nil)))))))))), ?_⟩
  rintro ss M Q X ⟨A, c, sk, ks, l, rfl, h, hc, hs, hk, hl, hg, hn, px, q⟩
  walk_at "k"
  show WS _ _ [some (.raw (.ref A.o)), some (.dat l.enc), some sk] M _
  cases l with
  | fact r ts =>
    show WS _ _ [some (.raw (.ref A.o)), some (.dat (.tuple [.str "fact", .str r, encT ts])), some sk] M _
    walk_at "f"
    refine w_callX ?_
    walk_at "f"
    refine ⟨A, c, r, ts, rfl, h, hc, hs, hl.1, hl.2.1, px, fun e => ?_⟩
    walk_at "f"
    exact ⟨ts, rfl, hl.2, q e⟩
  | neg r ts =>
    show WS _ _ [some (.raw (.ref A.o)), some (.dat (.tuple [.str "not", .str r, encT ts])), some sk] M _
    walk_at "f"
    refine w_callX ?_
    walk_at "f"
    refine ⟨A, c, r, ts, rfl, h, hc, hs, hl.1, hl.2.1, fun p e => px p (show (atomP (colsF c) r ts).or _ = _ by rw [e]; rfl), fun e => ?_⟩
    walk_at "f"
    refine w_callX ?_
    walk_at "f"
    have e2 : litP (colsF c) ks (.neg r ts) = termsP ks true ts := by show (atomP (colsF c) r ts).or _ = _; rw [e]; rfl
    rw [e2] at px q
    refine ⟨sk, ks, true, ts, rfl, .inl hk, hl.2, hg, hn, px, fun e => ?_⟩
    walk_at "f"
    exact q e
  | compare op s t =>
    show WS _ _ [some (.raw (.ref A.o)), some (.dat (.tuple [.str "compare", .str op, s.enc, t.enc])), some sk] M _
    walk_at "f"
    refine w_callX ?_
    walk_at "f"
    refine ⟨sk, ks, false, [s, t], rfl, .inl hk, ⟨by simp, fun z hz => ?_⟩, hg, hn, px, fun e => ?_⟩
    · rcases List.mem_cons.mp hz with rfl | hz
      · exact hl.2.1
      · rw [List.mem_singleton.mp hz]; exact hl.2.2
    walk_at "f"
    exact q e
  | is x op s t =>
    show WS _ _ [some (.raw (.ref A.o)), some (.dat (.tuple [.str "is", .str x, .str op, s.enc, t.enc])), some sk] M _
    walk_at "f"
    refine w_callX ?_
    walk_at "f"
    refine ⟨sk, ks, false, [s, t], rfl, .inl hk, ⟨by simp, fun z hz => ?_⟩, hg, hn, px, fun e => ?_⟩
    · rcases List.mem_cons.mp hz with rfl | hz
      · exact hl.2.2.1
      · rw [List.mem_singleton.mp hz]; exact hl.2.2.2
    walk_at "f"
    exact q e
  | count x r ts =>
    show WS _ _ [some (.raw (.ref A.o)), some (.dat (.tuple [.str "count", .str x, .str r, encT ts])), some sk] M _
    walk_at "f"
    refine w_callX ?_
    walk_at "f"
    refine ⟨A, c, r, ts, rfl, h, hc, hs, hl.2.1, hl.2.2.1, fun p e => px p (show (atomP (colsF c) r ts).or _ = _ by rw [e]; rfl), fun e => ?_⟩
    walk_at "f"
    refine ⟨ts, rfl, hl.2.2, ?_⟩
    have e2 : litP (colsF c) ks (.count x r ts) = if x ∈ varsF ts then some [("own total" : Str), x] else none := by show (atomP (colsF c) r ts).or _ = _; rw [e]; rfl
    rw [e2] at px q
    have vl := varsF_len ts
    have tl := hl.2.2.1
    refine w2_inT (ks := varsF ts) lsv_strs hl.1 (varsF_good hl.2.2.2) (by omega) ?_
    refine ⟨_, rfl, ?_⟩
    by_cases hx : x ∈ varsF ts
    · rw [if_pos hx] at px
      rw [if_pos (by simp [hx])]
      walk_at "f"
      refine ws_raiseF ?_
      walk_at "f"
      exact fun d hd => (px [("own total" : Str), x] rfl).at hd
    · rw [if_neg hx] at q
      rw [if_neg (by simp [hx])]
      walk_at "f"
      exact q rfl
def A_body (C R : Addr) : ASpX := fun ss M Q X => ∃ A c b, ss = [.raw (.ref (SA.o A)), .dat (encB b)] ∧ SeAt C M A c ∧ CtOk c ∧ Ct.small c ∧ okB b ∧ (∀ p, bodyE (colsF c) [] b = .inl p → XP R "problem" M X (encP p)) ∧ (∀ ks M', bodyE (colsF c) [] b = .inr ks → (∀ x u, M x = some u → M' x = some u) → Q (.dat (.tuple (ks.map .str))) M')
theorem ok_check_body (T : Txt K mg a d) : FnOk P w K mg base (L2.CX P w) 5 a.check_body d.check_body ["state", "body"] (concX K (A_body a.State a.Refused)) := by
  have G_check_literal : FnOk P w K mg base (L2.CX P w) 4 a.check_literal d.check_literal ["state", "literal", "known"] (concX K (A_lit K a.State a.Refused)) := ok_check_literal T
  refine ab_okX T.F_check_body sc_check_body (fun ss M Q X ⟨A, c, b, e, _⟩ => by subst e; rfl) fun cdv Ar outer s H E hr => ?_
  have hu64 := hr.units
  have hu65 := room65 hr
  refine ⟨_, (pss_cons (ps_set (i := 2) sc_check_body.nd rfl (Or.inl rfl) (pe_lst pa_nil))
  (pss_cons (ps_for (passes_of rfl) rfl (pi_tup (pv 1)) (pg_name (i := 3) sc_check_body.nd rfl (Or.inl rfl)) (pss_one (ps_for (passes_of rfl) rfl (pi_list (pe_callSD G_check_literal (hr.mono (by omega)) (by rfl) T.g_check_literal T.F_check_literal.kp T.b_check_literal .nil (fun σ => passAt (takes_of rfl rfl rfl rfl) σ) (pa_cons (pv 0) (pa_cons (pv 3) (pa_cons (pv 2) pa_nil))))) (pg_name (i := 4) sc_check_body.nd rfl (Or.inl rfl)) (pss_one (ps_if (pt_cmpR (r := rNotInD K) (op_notInD hu65) (pv 4) (pv 2) (by rfl)) (pss_one (ps_expr (pe_bm PySem.F.plainAttrs_list PySem.F.slot_list_append PySem.F.type_list_append mt_append (pv 2) (pa_cons (pv 4) pa_nil)))) pss_nil)))))
  (pss_one (ps_ret (pe_callTy (r := rTupS K) call_tuple_of (by rfl) T.n_tuple (by decide +kernel) (pa_cons (pv 2) pa_nil)))))), ?_⟩
  rintro ss M Q X ⟨A, c, b, rfl, h, hc, hs, hb, px, q⟩
  walk_at "k"
  show WS _ _ [some (.raw (.ref A.o)), some (.dat (encB b)), none, none, none] M _
  refine ws_seq (ws_set (w_lstM (wa_nil ⟨by decide, fun p hp => ?_⟩)))
  have x0 : ∀ x u, M x = some u → Ab.um M p (.lst []) x = some u := fun x u hx => by rw [um_ne fun z => by rw [z, hp] at hx; cases hx]; exact hx
  have hp0 : Ab.um M p (.lst []) p = some (.lst (([] : List Str).map fun y => Sl.str y)) := um_same
  generalize Ab.um M p (.lst []) = M0 at x0 hp0
  refine ws_mid (fun ρ' M' => ∃ ks y z, ρ' = [some (.raw (.ref A.o)), some (.dat (encB b)), some (.raw (.ref p)), y, z] ∧ bodyE (colsF c) [] b = .inr ks ∧ M' p = some (.lst (ks.map fun y => .str y)) ∧ (∀ x u, M x = some u → M' x = some u) ∧ ks.length ≤ 1000000) ?_ ?_
  · refine ws_forT (xs := b) (enc := Lit.enc) (M1 := M0) (w_var rfl ⟨rfl, rfl⟩) (fun pre ρ' M' => ∃ ks y z, ρ' = [some (.raw (.ref A.o)), some (.dat (encB b)), some (.raw (.ref p)), y, z] ∧ (∀ post, b = pre ++ post → bodyE (colsF c) [] b = bodyE (colsF c) ks post) ∧ M' p = some (.lst (ks.map fun y => .str y)) ∧ (∀ x u, M x = some u → M' x = some u) ∧ ks.length ≤ 1000 * pre.length ∧ ∀ z ∈ ks, goodS z = true) ⟨[], none, none, rfl, fun post e => by rw [e]; rfl, hp0, x0, by simp, fun z hz => (nomatch hz)⟩ ?_ ?_
    · rintro pre l post ρ' M' hx ⟨ks, y, z, rfl, hbe, hM, hX, hn, hg⟩
      have hl : l.ok := hb.2 l (by rw [hx]; simp)
      have hbl := hb.1
      have hpl : pre.length + 1 ≤ b.length := by rw [hx, List.length_append, List.length_cons]; omega
      have hbl2 := bindsF_len hl
      have hbe1 := hbe (l :: post) hx
      have h1 := h.ext hX
      refine wg_name ?_
      cases e : litP (colsF c) ks l with
      | some pr =>
        have hbe2 : bodyE (colsF c) [] b = .inl pr := by rw [hbe1]; unfold bodyE; rw [e]
        refine ws_for (wi_list (w_callX ?_))
        walk_at "f"
        refine ⟨A, c, _, ks, l, rfl, h1, hc, hs, lsv_ref hM, hl, hg, by omega, fun p' e' => ?_, fun e' => (by rw [e] at e'; cases e')⟩
        rw [e] at e'
        cases e'
        exact (px _ hbe2).ext hX
      | none =>
        have hbe2 : bodyE (colsF c) [] b = bodyE (colsF c) (addK ks (bindsF l)) post := by rw [hbe1]; conv => lhs; unfold bodyE; rw [e]
        refine ws_forD (xs := bindsF l) (enc := PyData.str) (M1 := M') ?_ (fun pre2 ρ2 M2 => ∃ z, ρ2 = [some (.raw (.ref A.o)), some (.dat (encB b)), some (.raw (.ref p)), some (.dat l.enc), z] ∧ M2 p = some (.lst ((addK ks pre2).map fun y => .str y)) ∧ (∀ x u, M x = some u → M2 x = some u)) ⟨z, rfl, hM, hX⟩ ?_ ?_
        · refine w_callX ?_
          walk_at "f"
          exact ⟨A, c, _, ks, l, rfl, h1, hc, hs, lsv_ref hM, hl, hg, by omega, fun p' e' => (by rw [e] at e'; cases e'), fun e' => ⟨rfl, rfl⟩⟩
        · rintro pre2 v post2 ρ2 M2 hx2 ⟨z2, rfl, hM2, hX2⟩
          have hp2 : pre2.length + 1 ≤ (bindsF l).length := by rw [hx2, List.length_append, List.length_cons]; omega
          have hgb := bindsF_good hl
          have hgv : goodS v = true := hgb v (by rw [hx2]; simp)
          have hg2 : ∀ z ∈ addK ks pre2, goodS z = true := addK_good hg fun z hz => hgb z (by rw [hx2]; exact List.mem_append_left _ hz)
          have hl2 := addK_len pre2 ks
          have ea : addK ks (pre2 ++ [v]) = if v ∈ addK ks pre2 then addK ks pre2 else addK ks pre2 ++ [v] := by unfold addK; rw [List.foldl_append]; rfl
          refine wg_name ?_
          walk_at "f"
          refine w2_notInT (lsv_ref hM2) hgv hg2 (by omega) ?_
          refine ⟨_, rfl, ?_⟩
          by_cases hv : v ∈ addK ks pre2
          · rw [if_neg (by simp [hv])]
            exact ws_next ⟨_, rfl, by rw [ea, if_pos hv]; exact hM2, hX2⟩
          · rw [if_pos (by simp [hv])]
            walk_at "f"
            refine w_bm ?_
            walk_at "f"
            refine ⟨ty_lst (lsv_ref hM2), ?_⟩
            walk_at "f"
            refine wm_append hM2 (by rw [List.length_map]; omega) ?_
            walk_at "f"
            refine ⟨_, rfl, by rw [um_same, ea, if_neg hv, List.map_append]; rfl, fun x u hxu => ?_⟩
            rw [um_ne fun z => by rw [z, hp] at hxu; cases hxu]
            exact hX2 x u hxu
        · rintro ρ2 M2 ⟨z2, rfl, hM2, hX2⟩
          have hgb := bindsF_good hl
          have hl2 := addK_len (bindsF l) ks
          refine ⟨_, _, _, rfl, fun post' e' => ?_, hM2, hX2, by rw [List.length_append, List.length_cons, List.length_nil]; omega, addK_good hg hgb⟩
          have : post' = post := by
            rw [hx, List.append_assoc] at e'
            exact (List.cons.inj (List.append_cancel_left e')).2.symm
          rw [this]
          exact hbe2
    · rintro ρ' M' ⟨ks, y, z, rfl, hbe, hM, hX, hn, hg⟩
      have hbl := hb.1
      exact ⟨ks, y, z, rfl, hbe [] (by simp), hM, hX, by omega⟩
  · rintro ρ' M' ⟨ks, y, z, rfl, hbe, hM, hX, hn⟩
    walk_at "f"
    refine wl_tuple (ds := ks.map .str) ?_ ?_
    · exact lsv_ref (by rw [hM, List.map_map]; rfl)
    · exact q ks M' hbe hX
end
end
section
local macro_rules | `(tactic| walk_at "fl") => `(tactic| with_reducible first | exact sl_r _ | exact sl_f _ | exact sl_u _ | exact sl_n _)
section
variable {w : World} {K : PySem.W.Frag} {mg : Str → Option Value} {base : Heap} {a : AD} {d : FD}
def A_denial (C R : Addr) : ASpX := fun ss M Q X => ∃ A c n b, ss = [.raw (.ref (SA.o A)), .str n, .dat (encB b)] ∧ SeAt C M A c ∧ CtOk c ∧ Ct.small c ∧ goodS n = true ∧ okB b ∧ (∀ p, denP c n b = some p → XP R "problem" M X (encP p)) ∧ (∀ M', denP c n b = none → (∀ x u, M x = some u → M' x = some u) → Q .non M')
theorem ok_check_denial (T : Txt K mg a d) : FnOk P w K mg base (L2.CX P w) 6 a.check_denial d.check_denial ["state", "name", "body"] (concX K (A_denial a.State a.Refused)) := by
  have cl := T.cl_State
  have n4 := T.na_State_denials
  have G_check_body : FnOk P w K mg base (L2.CX P w) 5 a.check_body d.check_body ["state", "body"] (concX K (A_body a.State a.Refused)) := ok_check_body T
  refine ab_okX T.F_check_denial sc_check_denial (fun ss M Q X ⟨A, c, n, b, e, _⟩ => by subst e; rfl) fun cdv Ar outer s H E hr => ?_
  have hu64 := hr.units
  refine ⟨_, (pss_cons (ps_if (pt_cmp (pc_din (hu1 hu64) (pv 1) (pe_fld (pv 0) rfl))) (pss_one (ps_raise rfl (takes_of rfl rfl rfl rfl) (SupX.pmk_one T.X_Refused.o T.X_Refused.i T.X_Refused.ti (T.X_Refused.fn w base) (hr.mono (by omega)) T.X_Refused.bi pass0 (by rfl) T.g_Refused (pe_tup (pa_cons pe_str (pa_cons pe_str (pa_cons (pv 1) pa_nil))))))) pss_nil)
  (pss_one (ps_expr (pe_callSD G_check_body (hr.mono (by omega)) (by rfl) T.g_check_body T.F_check_body.kp T.b_check_body .nil (fun σ => passAt (takes_of rfl rfl rfl rfl) σ) (pa_cons (pv 0) (pa_cons (pv 2) pa_nil)))))), ?_⟩
  rintro ss M Q X ⟨A, c, n, b, rfl, h, hc, hs, hn, hb, px, q⟩
  walk_at "k"
  show WS _ _ [some (.raw (.ref A.o)), some (.str n), some (.dat (encB b))] M _
  walk_at "e"
  have hv := valG_inr (fun b : List Lit => Sl.dat (encB b)) n c.den
  refine w_din (w_var rfl (w_fldI rfl h.ho cl n4 (sl_n _) ⟨kvN c, .inr n, dcv_ref h.hn, rfl, ?_⟩))
  unfold denP at px q
  cases e1 : valG c.den n with
  | some x =>
    rw [e1] at px q hv
    refine ⟨true, by rw [show valG (kvN c) (.inr n) = _ from hv]; rfl, ?_⟩
    rw [if_pos rfl]
    refine ws_raiseF ?_
    walk_at "e"
    exact fun d hd => (px [("exists" : Str), "denial", n] rfl).at hd
  | none =>
    rw [e1] at px q hv
    refine ⟨false, by rw [show valG (kvN c) (.inr n) = _ from hv]; rfl, ?_⟩
    rw [if_neg Bool.false_ne_true]
    walk_at "e"
    refine w_callX ?_
    walk_at "e"
    refine ⟨A, c, b, rfl, h, hc, hs, hb, fun p e => ?_, fun ks M' e hX => ?_⟩
    · exact px p (by rw [e])
    · walk_at "e"
      exact q M' (by rw [e]) hX
end
end
section
local macro_rules | `(tactic| walk_at "fl") => `(tactic| with_reducible first | exact sl_r _ | exact sl_f _ | exact sl_u _ | exact sl_n _)
section
variable {w : World} {K : PySem.W.Frag} {mg : Str → Option Value} {base : Heap} {a : AD} {d : FD}
abbrev A_worth : ASp := A_draw fun d => isVal d = true
theorem ok_worth (T : Txt K mg a d) : FnOk P w K mg base CX0 2 a.law_worth d.law_worth ["_law_state"] (conc K A_worth) := by
  have G_law_next : FnOk P w K mg base CX0 1 a.law_next d.law_next ["_law_state", "_law_limit"] (conc K A_next) := ok_next T
  refine ab_ok T.F_law_worth sc_law_worth (fun ss M Q ⟨p, xs, ds, e, e2, _⟩ => by subst e e2; rfl) fun cdv Ar outer s H E hr => ⟨_, (pss_one (ps_ret (pe_ix (r := rIxL K) ix_list (pe_lst (pa_cons pe_int (pa_cons pe_int (pa_cons pe_int (pa_cons (pe_un un_neg pe_int) (pa_cons pe_int (pa_cons pe_str (pa_cons pe_str (pa_cons pe_str (pa_cons (pe_op op_sub (pe_op op_pow pe_int pe_int) pe_int) (pa_cons pe_int (pa_cons pe_str (pa_cons pe_str (pa_cons pe_str (pa_cons pe_str (pa_cons (pe_un un_neg pe_int) (pa_cons pe_int pa_nil))))))))))))))))) (pe_call G_law_next (hr.mono (by omega)) (by rfl) T.g_law_next T.F_law_next.kp T.b_law_next .nil pass0 (pa_cons (pv 0) (pa_cons pe_int pa_nil))) (fun _ _ => rfl)))), ?_⟩
  rintro ss M Q ⟨p, xs, ds, rfl, rfl, hM, hD, q⟩
  obtain ⟨M0, rfl⟩ : ∃ M0, M = um M0 p (.lst xs) := ⟨M, (um_id hM).symm⟩
  simp only [um_um] at q
  walk_at "k"
  show WS K _ [some (.ref p)] (um M0 p (.lst xs)) _
  walk_at "f"
  refine a_next hD (by decide) (by decide) fun v ys h0 h1 hD1 => ?_
  walk_at "f"
  have all : ∀ d ∈ [PyData.int 0, PyData.int 1, PyData.int 2, PyData.int (-1), PyData.int 3, PyData.str "a", PyData.str "", PyData.str "1", PyData.int (10 ^ 30 - 1), PyData.int 2, PyData.str "A", PyData.str "ab", PyData.str "aB", PyData.str "ac", PyData.int (-7), PyData.int 12], isVal d = true := by decide +kernel
  exact fun d hd => q d _ (all d hd) hD1
abbrev A_variable : ASp := A_draw fun d => isName d = true
theorem ok_variable (T : Txt K mg a d) : FnOk P w K mg base CX0 2 a.law_variable d.law_variable ["_law_state"] (conc K A_variable) := by
  have G_law_next : FnOk P w K mg base CX0 1 a.law_next d.law_next ["_law_state", "_law_limit"] (conc K A_next) := ok_next T
  refine ab_ok T.F_law_variable sc_law_variable (fun ss M Q ⟨p, xs, ds, e, e2, _⟩ => by subst e e2; rfl) fun cdv Ar outer s H E hr => ⟨_, (pss_one (ps_ret (pe_ix (r := rIxL K) ix_list (pe_lst (pa_cons pe_str (pa_cons pe_str (pa_cons pe_str (pa_cons pe_str pa_nil))))) (pe_call G_law_next (hr.mono (by omega)) (by rfl) T.g_law_next T.F_law_next.kp T.b_law_next .nil pass0 (pa_cons (pv 0) (pa_cons pe_int pa_nil))) (fun _ _ => rfl)))), ?_⟩
  rintro ss M Q ⟨p, xs, ds, rfl, rfl, hM, hD, q⟩
  obtain ⟨M0, rfl⟩ : ∃ M0, M = um M0 p (.lst xs) := ⟨M, (um_id hM).symm⟩
  simp only [um_um] at q
  walk_at "k"
  show WS K _ [some (.ref p)] (um M0 p (.lst xs)) _
  walk_at "f"
  refine a_next hD (by decide) (by decide) fun v ys h0 h1 hD1 => ?_
  walk_at "f"
  have all : ∀ d ∈ [PyData.str "x", PyData.str "y", PyData.str "z", PyData.str "n_1"], isName d = true := by decide +kernel
  exact fun d hd => q d _ (all d hd) hD1
abbrev A_lterm : ASp := A_gen (fun ds => ∃ ks, ds = [bnd ks] ∧ okK ks) fun ds d => ∃ t : Term, d = t.enc ∧ t.ok
theorem ok_lterm (T : Txt K mg a d) : FnOk P w K mg base CX0 3 a.law_term d.law_term ["_law_state", "_law_bound"] (conc K A_lterm) := by
  have G_law_next : FnOk P w K mg base CX0 1 a.law_next d.law_next ["_law_state", "_law_limit"] (conc K A_next) := ok_next T
  have G_law_variable : FnOk P w K mg base CX0 2 a.law_variable d.law_variable ["_law_state"] (conc K A_variable) := ok_variable T
  have G_law_worth : FnOk P w K mg base CX0 2 a.law_worth d.law_worth ["_law_state"] (conc K A_worth) := ok_worth T
  refine ab_ok T.F_law_term sc_law_term (fun ss M Q ⟨p, xs, ds, e, ⟨ks, e2, _⟩, _⟩ => by subst e e2; rfl) fun cdv Ar outer s H E hr => ?_
  have hu64 := hr.units
  refine ⟨_, (pss_cons (ps_set (i := 2) sc_law_term.nd rfl (Or.inl rfl) (pe_call G_law_next (hr.mono (by omega)) (by rfl) T.g_law_next T.F_law_next.kp T.b_law_next .nil pass0 (pa_cons (pv 0) (pa_cons pe_int pa_nil))))
  (pss_cons (ps_if (PW.pt (pw_and (pt_cmpR op_lt (pv 2) pe_int (nomark _)) (pw_and1 (pt_cmpR op_gt (pe_callB (r := rLenS K) call_len_seq (by rfl) T.n_len PySem.boot_len (pa_cons (pv 1) pa_nil)) pe_int (nomark _))))) (pss_one (ps_ret (pe_tup (pa_cons pe_str (pa_cons (pe_ix (r := rIxL K) ix_list (pv 1) (pe_call G_law_next (hr.mono (by omega)) (by rfl) T.g_law_next T.F_law_next.kp T.b_law_next .nil pass0 (pa_cons (pv 0) (pa_cons (pe_callB (r := rLenS K) call_len_seq (by rfl) T.n_len PySem.boot_len (pa_cons (pv 1) pa_nil)) pa_nil))) (fun _ _ => rfl)) pa_nil))))) pss_nil)
  (pss_cons (ps_if (pt_cmpR op_lt (pv 2) pe_int (nomark _)) (pss_one (ps_ret (pe_tup (pa_cons pe_str (pa_cons (pe_call G_law_variable (hr.mono (by omega)) (by rfl) T.g_law_variable T.F_law_variable.kp T.b_law_variable .nil pass0 (pa_cons (pv 0) pa_nil)) pa_nil))))) pss_nil)
  (pss_one (ps_ret (pe_ix (r := rIxL K) ix_list (pe_lst (pa_cons (pe_tup (pa_cons pe_str pa_nil)) (pa_cons (pe_tup (pa_cons pe_str (pa_cons (pe_call G_law_worth (hr.mono (by omega)) (by rfl) T.g_law_worth T.F_law_worth.kp T.b_law_worth .nil pass0 (pa_cons (pv 0) pa_nil)) pa_nil))) pa_nil))) (pe_callTy (r := rInt1) call_int1 (by rfl) T.n_int (by decide +kernel) (pa_cons (pe_cmpR op_lt (pv 2) pe_int (nomark _)) pa_nil)) (fun _ _ => rfl))))))), ?_⟩
  rintro ss M Q ⟨p, xs, ds, rfl, ⟨ks, rfl, hk⟩, hM, hD, q⟩
  obtain ⟨M0, rfl⟩ : ∃ M0, M = um M0 p (.lst xs) := ⟨M, (um_id hM).symm⟩
  simp only [um_um] at q
  walk_at "k"
  show WS K _ [some (.ref p), some (.dat (bnd ks)), none] (um M0 p (.lst xs)) _
  walk_at "f"
  refine a_next hD (by decide) (by decide) fun v ys h0 h1 hD1 => ?_
  refine ws_mid (fun ρ' M' => ρ' = [some (.ref p), some (.dat (bnd ks)), some (.int v)] ∧ M' = um M0 p (.lst ys)) ?_ ?_
  · walk_at "f"
    refine ite_d (fun h => ?_) (fun h => ?_)
    · walk_at "f"
      refine ite_d (fun h2 => ?_) (fun h2 => ?_)
      · walk_at "f"
        refine a_next hD1 (by exact h2) (by have := hk.l; exact Int.le_trans (b := 100000) (by omega) (by decide)) fun i zs i0 i1 hD2 => ?_
        refine w2_ixT1 i0 i1 fun z hz => ?_
        walk_at "f"
        exact q _ _ ⟨.variable z, rfl, hk.g z hz⟩ hD2
      · exact ws_next ⟨rfl, rfl⟩
    · walk_at "f"
      exact ⟨rfl, rfl⟩
  · rintro ρ' M' ⟨rfl, rfl⟩
    walk_at "f"
    refine ite_d (fun h => ?_) (fun h => ?_)
    · walk_at "f"
      refine a_gen0 hD1 rfl fun d zs hP hD2 => ?_
      obtain ⟨x, rfl, hx⟩ := isName_of hP
      walk_at "f"
      exact q _ _ ⟨.variable x, rfl, hx⟩ hD2
    · walk_at "f"
      refine a_gen0 hD1 rfl fun d zs hP hD2 => ?_
      obtain ⟨x, rfl, hx⟩ := isVal_of hP
      walk_at "f"
      intro d hd
      simp only [List.mem_cons, List.not_mem_nil, or_false] at hd
      rcases hd with rfl | rfl
      · exact q _ _ ⟨.any, rfl, trivial⟩ hD2
      · exact q _ _ ⟨.value x, rfl, hx⟩ hD2
def A_settled : ASp := fun ss M Q => ∃ ks t, ss = [.dat (Term.enc t), .dat (bnd ks)] ∧ t.ok ∧ okK ks ∧ Q (.dat (settled ks t).enc) M
theorem ok_settled (T : Txt K mg a d) : FnOk P w K mg base CX0 1 a.law_settled d.law_settled ["_law_term_here", "_law_bound"] (conc K A_settled) := by
  refine ab_ok T.F_law_settled sc_law_settled (fun ss M Q ⟨ks, t, e, _⟩ => by subst e; rfl) fun cdv Ar outer s H E hr => ?_
  have hu64 := hr.units
  have hu65 := room65 hr
  refine ⟨_, (pss_cons (ps_if (PW.pt (pw_or (pt_cmpR (r := rEqD K) (op_eqD hu64) (pe_ix (r := rIxT K) ix_tup (pv 0) pe_int (fun _ _ => rfl)) pe_str (nomark _)) (pw_or1 (PW.pt (pw_and (pt_cmpR (r := rEqD K) (op_eqD hu64) (pe_ix (r := rIxT K) ix_tup (pv 0) pe_int (fun _ _ => rfl)) pe_str (nomark _)) (pw_and1 (pt_cmpR (r := rNotInD K) (op_notInD hu65) (pe_ix (r := rIxT K) ix_tup (pv 0) pe_int (fun _ _ => rfl)) (pv 1) (by rfl)))))))) (pss_one (ps_ret (pe_tup (pa_cons pe_str (pa_cons pe_int pa_nil))))) pss_nil)
  (pss_one (ps_ret (pv 0)))), ?_⟩
  rintro ss M Q ⟨ks, t, rfl, ht, hk, q⟩
  walk_at "k"
  cases t with
  | any =>
    show WS K _ [some (.dat (.tuple [.str "any"])), some (.dat (bnd ks))] M _
    walk_at "f"
    exact q
  | value v =>
    show WS K _ [some (.dat (.tuple [.str "value", v.enc])), some (.dat (bnd ks))] M _
    walk_at "f"
    exact q
  | «variable» z =>
    show WS K _ [some (.dat (.tuple [.str "variable", .str z])), some (.dat (bnd ks))] M _
    walk_at "f"
    have := hk.l
    refine w2_notInT (ks := ks) lsv_strs ht hk.g (by omega) ?_
    walk_at "f"
    refine ite_n (fun h => ?_) (fun h => ?_)
    · walk_at "f"
      exact cast (congrArg (fun t => Q (.dat (Term.enc t)) M) (if_neg h)) q
    · walk_at "f"
      exact cast (congrArg (fun t => Q (.dat (Term.enc t)) M) (if_pos h)) q
/-- the names that a literal binds -/
def A_binds : ASp := fun ss M Q => ∃ l, ss = [.dat (Lit.enc l)] ∧ l.ok ∧ Q (.dat (bnd (bindsF l))) M
theorem ok_binds (T : Txt K mg a d) : FnOk P w K mg base CX0 1 a.law_binds d.law_binds ["_law_literal_here"] (conc K A_binds) := by
  refine ab_ok T.F_law_binds sc_law_binds (fun ss M Q ⟨l, e, _⟩ => by subst e; rfl) fun cdv Ar outer s H E hr => ?_
  have hu64 := hr.units
  have hu65 := room65 hr
  refine ⟨_, (pss_cons (ps_if (pt_cmpR (r := rEqD K) (op_eqD hu64) (pe_ix (r := rIxT K) ix_tup (pv 0) pe_int (fun _ _ => rfl)) pe_str (nomark _)) (pss_one (ps_ret (pe_lc (own := [("_law_term_here", 1)]) rfl sc_law_binds.nd (pi_tup (pe_ix (r := rIxT K) ix_tup (pv 0) pe_int (fun _ _ => rfl))) (blkOk_by (own := [("_law_term_here", 1)]) (N := ["_law_literal_here", "_law_term_here"]) (sc := (defScope s_law_binds)) (by decide +kernel)) (fun _ _ _ _ _ => (pg_name (i := 1) sc_law_binds.nd rfl (Or.inl rfl))) (fun _ _ _ _ _ => pts_one (pt_cmpR (r := rEqD K) (op_eqD hu64) (pe_ix (r := rIxT K) ix_tup (pv 1) pe_int (fun _ _ => rfl)) pe_str (nomark _))) (fun _ _ _ _ _ => (pe_ix (r := rIxT K) ix_tup (pv 1) pe_int (fun _ _ => rfl)))))) pss_nil)
  (pss_cons (ps_if (pt_cmpR (r := rInD K) (op_inD hu65) (pe_ix (r := rIxT K) ix_tup (pv 0) pe_int (fun _ _ => rfl)) (pe_lst (pa_cons pe_str (pa_cons pe_str pa_nil))) (by rfl)) (pss_one (ps_ret (pe_lst (pa_cons (pe_ix (r := rIxT K) ix_tup (pv 0) pe_int (fun _ _ => rfl)) pa_nil)))) pss_nil)
  (pss_one (ps_ret (pe_lst pa_nil))))), ?_⟩
  rintro ss M Q ⟨l, rfl, hl, q⟩
  walk_at "k"
  have inL : ∀ (z : Str) (Q : Sl → MH → Prop), goodS z = true → Q (.bl (decide (z ∈ [("is" : Str), "count"]))) M → W2 K (rInD K) (.dat (.str z)) (.dat (.list [.str "is", .str "count"])) M Q := fun z Q hz q => w2_inT (ks := [("is" : Str), "count"]) (lsv_strs (ks := [("is" : Str), "count"])) hz (by decide +kernel) (by decide) q
  cases l with
  | fact r ts =>
    show WS K _ [some (.dat (.tuple [.str "fact", .str r, encT ts])), none] M _
    walk_at "f"
    refine w_lcTF (xs := ts) (enc := Term.enc) (M1 := M) (by decide) (w_op (w_var rfl (w_int (w2_ixT rfl ⟨rfl, rfl⟩)))) (by have := hl.2.1; omega) (fun t => (varT t).map PyData.str) ?_ ?_ ?_
    · intro t D o htm hD
      walk_at "e"
      cases t with
      | any =>
        walk_at "e"
        exact ⟨by decide +kernel, rfl⟩
      | value v =>
        unfold Term.enc
        walk_at "e"
        exact ⟨show decide (("value" : Str) = "variable") = false by decide +kernel, rfl⟩
      | «variable» z =>
        unfold Term.enc
        walk_at "e"
        exact ⟨show decide (("variable" : Str) = "variable") = true by decide +kernel, rfl⟩
    · intro t D o d htm hv hD
      cases t with
      | any => cases hv
      | value v => cases hv
      | «variable» z =>
        cases hv
        unfold Term.enc
        walk_at "e"
        exact ⟨rfl, rfl⟩
    · have e : bnd (bindsF (.fact r ts)) = .list (ts.filterMap fun t => (varT t).map PyData.str) := by
        show PyData.list ((varsF ts).map .str) = _
        unfold varsF
        rw [List.map_filterMap]
      rw [← e]
      exact q
  | neg r ts =>
    show WS K _ [some (.dat (.tuple [.str "not", .str r, encT ts])), none] M _
    walk_at "f"
    refine inL _ _ (by decide +kernel) ?_
    refine ⟨_, rfl, ?_⟩
    rw [if_neg (by decide +kernel)]
    walk_at "f"
    exact q
  | compare op s t =>
    show WS K _ [some (.dat (.tuple [.str "compare", .str op, s.enc, t.enc])), none] M _
    walk_at "f"
    refine inL _ _ (by decide +kernel) ?_
    refine ⟨_, rfl, ?_⟩
    rw [if_neg (by decide +kernel)]
    walk_at "f"
    exact q
  | is x op s t =>
    show WS K _ [some (.dat (.tuple [.str "is", .str x, .str op, s.enc, t.enc])), none] M _
    walk_at "f"
    refine inL _ _ (by decide +kernel) ?_
    refine ⟨_, rfl, ?_⟩
    rw [if_pos (by decide +kernel)]
    walk_at "f"
    exact q
  | count x r ts =>
    show WS K _ [some (.dat (.tuple [.str "count", .str x, .str r, encT ts])), none] M _
    walk_at "f"
    refine inL _ _ (by decide +kernel) ?_
    refine ⟨_, rfl, ?_⟩
    rw [if_pos (by decide +kernel)]
    walk_at "f"
    exact q
end
end
section
local macro_rules | `(tactic| walk_at "fl") => `(tactic| with_reducible first | exact sl_r _ | exact sl_f _ | exact sl_u _ | exact sl_n _)
section
variable {w : World} {K : PySem.W.Frag} {mg : Str → Option Value} {base : Heap} {a : AD} {d : FD}
def A_llit : ASp := fun ss M Q => ∃ p q xs Ws ks c, ss = [.raw (.ref p), .raw (.ref q), .dat (bnd ks), .bl c] ∧ M p = some (.lst xs) ∧ DrawL xs ∧ M q = some (.dK (kvW Ws)) ∧ okW Ws ∧ okK ks ∧ ∀ (l : Lit) ys, l.ok → DrawL ys → Q (.dat l.enc) (Ab.um M p (.lst ys))
theorem ok_llit (T : Txt K mg a d) : FnOk P w K mg base CX0 4 a.law_literal d.law_literal ["_law_state", "_law_widths_here", "_law_bound", "_law_careful"] (conc K A_llit) := by
  have G_law_next : FnOk P w K mg base CX0 1 a.law_next d.law_next ["_law_state", "_law_limit"] (conc K A_next) := ok_next T
  have G_law_variable : FnOk P w K mg base CX0 2 a.law_variable d.law_variable ["_law_state"] (conc K A_variable) := ok_variable T
  have G_law_term : FnOk P w K mg base CX0 3 a.law_term d.law_term ["_law_state", "_law_bound"] (conc K A_lterm) := ok_lterm T
  have G_law_settled : FnOk P w K mg base CX0 1 a.law_settled d.law_settled ["_law_term_here", "_law_bound"] (conc K A_settled) := ok_settled T
  refine ab_ok T.F_law_literal sc_law_literal (fun ss M Q ⟨p, q, xs, Ws, ks, c, e, _⟩ => by subst e; rfl) fun cdv Ar outer s H E hr => ?_
  have hu64 := hr.units
  have hu65 := room65 hr
  refine ⟨_, (pss_cons (ps_set (i := 4) sc_law_literal.nd rfl (Or.inl rfl) (pe_callB (r := rSortedS K) cr_sortedS (by rfl) T.n_sorted (by decide +kernel) (pa_cons (pe_callTy (r := rListDk) (call_listD rfl) (by rfl) T.n_list (by decide +kernel) (pa_cons (pv 1) pa_nil)) pa_nil)))
  (pss_cons (ps_set (i := 5) sc_law_literal.nd rfl (Or.inl rfl) (pe_ix (r := rIxL K) ix_list (pv 4) (pe_call G_law_next (hr.mono (by omega)) (by rfl) T.g_law_next T.F_law_next.kp T.b_law_next .nil pass0 (pa_cons (pv 0) (pa_cons (pe_callB (r := rLenS K) call_len_seq (by rfl) T.n_len PySem.boot_len (pa_cons (pv 4) pa_nil)) pa_nil))) (fun _ _ => rfl)))
  (pss_cons (ps_set (i := 6) sc_law_literal.nd rfl (Or.inl rfl) (pe_dget (hu1 hu64) (pv 1) (pv 5) (fun _ _ => rfl)))
  (pss_cons (ps_if (PW.pt (pw_and (pt_not (pt_val (pv 3))) (pw_and1 (pt_cmpR (r := rEqD K) (op_eqD hu64) (pe_call G_law_next (hr.mono (by omega)) (by rfl) T.g_law_next T.F_law_next.kp T.b_law_next .nil pass0 (pa_cons (pv 0) (pa_cons pe_int pa_nil))) pe_int (nomark _))))) (pss_one (ps_set (i := 6) sc_law_literal.nd rfl (Or.inl rfl) (pe_op op_sub (pe_op op_add (pv 6) pe_int) (pe_op op_mul pe_int (pe_call G_law_next (hr.mono (by omega)) (by rfl) T.g_law_next T.F_law_next.kp T.b_law_next .nil pass0 (pa_cons (pv 0) (pa_cons pe_int pa_nil))))))) pss_nil)
  (pss_cons (ps_if (PW.pt (pw_and (pt_not (pt_val (pv 3))) (pw_and1 (pt_cmpR (r := rEqD K) (op_eqD hu64) (pe_call G_law_next (hr.mono (by omega)) (by rfl) T.g_law_next T.F_law_next.kp T.b_law_next .nil pass0 (pa_cons (pv 0) (pa_cons pe_int pa_nil))) pe_int (nomark _))))) (pss_one (ps_set (i := 5) sc_law_literal.nd rfl (Or.inl rfl) pe_str)) pss_nil)
  (pss_cons (ps_setLc (i := 7) (own := [("_law_k", 8)]) rfl sc_law_literal.nd rfl rfl (sw_true rfl rfl rfl (by decide +kernel)) (pi_range1 rfl T.n_range (pa_cons (pv 6) pa_nil)) (blkOk_by (own := [("_law_k", 8)]) (N := ["_law_state", "_law_widths_here", "_law_bound", "_law_careful", "_law_names", "_law_relation", "_law_width", "_law_terms", "_law_k", "_law_form", "_law_term_here", "_law_pair", "_law_variable_here"]) (sc := (defScope s_law_literal)) (by decide +kernel)) (fun _ _ _ _ _ => (pg_name (i := 8) sc_law_literal.nd rfl (Or.inl rfl))) (fun _ _ _ _ _ => pts_nil) (fun _ _ _ _ _ => (pe_call G_law_term (hr.mono (by omega)) (by rfl) T.g_law_term T.F_law_term.kp T.b_law_term .nil pass0 (pa_cons (pv 0) (pa_cons (pv 2) pa_nil)))))
  (pss_cons (ps_set (i := 9) sc_law_literal.nd rfl (Or.inl rfl) (pe_ix (r := rIxL K) ix_list (pe_lst (pa_cons pe_str (pa_cons pe_str (pa_cons pe_str (pa_cons pe_str (pa_cons pe_str (pa_cons pe_str (pa_cons pe_str pa_nil)))))))) (pe_call G_law_next (hr.mono (by omega)) (by rfl) T.g_law_next T.F_law_next.kp T.b_law_next .nil pass0 (pa_cons (pv 0) (pa_cons pe_int pa_nil))) (fun _ _ => rfl)))
  (pss_cons (ps_if (PW.pt (pw_and (pt_cmpR (r := rEqD K) (op_eqD hu64) (pv 9) pe_str (nomark _)) (pw_and1 (PW.pt (pw_or (pt_val (pv 3)) (pw_or1 (pt_cmpR op_gt (pe_call G_law_next (hr.mono (by omega)) (by rfl) T.g_law_next T.F_law_next.kp T.b_law_next .nil pass0 (pa_cons (pv 0) (pa_cons pe_int pa_nil))) pe_int (nomark _)))))))) (pss_one (ps_setLc (i := 7) (own := [("_law_term_here", 10)]) rfl sc_law_literal.nd rfl rfl (sw_true rfl rfl rfl (by decide +kernel)) (pi_list (pv 7)) (blkOk_by (own := [("_law_term_here", 10)]) (N := ["_law_state", "_law_widths_here", "_law_bound", "_law_careful", "_law_names", "_law_relation", "_law_width", "_law_terms", "_law_k", "_law_form", "_law_term_here", "_law_pair", "_law_variable_here"]) (sc := (defScope s_law_literal)) (by decide +kernel)) (fun _ _ _ _ _ => (pg_name (i := 10) sc_law_literal.nd rfl (Or.inl rfl))) (fun _ _ _ _ _ => pts_nil) (fun _ _ _ _ _ => (pe_ix (r := rIxL K) ix_list (pe_lst (pa_cons (pv 10) (pa_cons (pe_tup (pa_cons pe_str pa_nil)) pa_nil))) (pe_callTy (r := rInt1) call_int1 (by rfl) T.n_int (by decide +kernel) (pa_cons (pe_and (pe_cmpR (r := rEqD K) (op_eqD hu64) (pe_ix (r := rIxT K) ix_tup (pv 10) pe_int (fun _ _ => rfl)) pe_str (nomark _)) (pe_one (pe_cmpR (r := rNotInD K) (op_notInD hu65) (pe_ix (r := rIxT K) ix_tup (pv 10) pe_int (fun _ _ => rfl)) (pv 2) (by rfl)))) pa_nil)) (fun _ _ => rfl))))) pss_nil)
  (pss_cons (ps_if (pt_cmpR (r := rInD K) (op_inD hu65) (pv 9) (pe_lst (pa_cons pe_str (pa_cons pe_str pa_nil))) (by rfl)) (pss_one (ps_ret (pe_tup (pa_cons (pv 9) (pa_cons (pv 5) (pa_cons (pe_callTy (r := rTupS K) call_tuple_of (by rfl) T.n_tuple (by decide +kernel) (pa_cons (pv 7) pa_nil)) pa_nil)))))) pss_nil)
  (pss_cons (ps_set (i := 11) sc_law_literal.nd rfl (Or.inl rfl) (pe_lst (pa_cons (pe_call G_law_term (hr.mono (by omega)) (by rfl) T.g_law_term T.F_law_term.kp T.b_law_term .nil pass0 (pa_cons (pv 0) (pa_cons (pv 2) pa_nil))) (pa_cons (pe_call G_law_term (hr.mono (by omega)) (by rfl) T.g_law_term T.F_law_term.kp T.b_law_term .nil pass0 (pa_cons (pv 0) (pa_cons (pv 2) pa_nil))) pa_nil))))
  (pss_cons (ps_if (PW.pt (pw_or (pt_val (pv 3)) (pw_or1 (pt_cmpR op_gt (pe_call G_law_next (hr.mono (by omega)) (by rfl) T.g_law_next T.F_law_next.kp T.b_law_next .nil pass0 (pa_cons (pv 0) (pa_cons pe_int pa_nil))) pe_int (nomark _))))) (pss_one (ps_setLc (i := 11) (own := [("_law_term_here", 10)]) rfl sc_law_literal.nd rfl rfl (sw_true rfl rfl rfl (by decide +kernel)) (pi_list (pv 11)) (blkOk_by (own := [("_law_term_here", 10)]) (N := ["_law_state", "_law_widths_here", "_law_bound", "_law_careful", "_law_names", "_law_relation", "_law_width", "_law_terms", "_law_k", "_law_form", "_law_term_here", "_law_pair", "_law_variable_here"]) (sc := (defScope s_law_literal)) (by decide +kernel)) (fun _ _ _ _ _ => (pg_name (i := 10) sc_law_literal.nd rfl (Or.inl rfl))) (fun _ _ _ _ _ => pts_nil) (fun _ _ _ _ _ => (pe_call G_law_settled (hr.mono (by omega)) (by rfl) T.g_law_settled T.F_law_settled.kp T.b_law_settled .nil pass0 (pa_cons (pv 10) (pa_cons (pv 2) pa_nil)))))) pss_nil)
  (pss_cons (ps_set (i := 12) sc_law_literal.nd rfl (Or.inr rfl) (pe_call G_law_variable (hr.mono (by omega)) (by rfl) T.g_law_variable T.F_law_variable.kp T.b_law_variable .nil pass0 (pa_cons (pv 0) pa_nil)))
  (pss_cons (ps_if (pt_cmpR (r := rEqD K) (op_eqD hu64) (pv 9) pe_str (nomark _)) (pss_one (ps_ret (pe_tup (pa_cons (pv 9) (pa_cons (pe_ix (r := rIxL K) ix_list (pe_lst (pa_cons pe_str (pa_cons pe_str (pa_cons pe_str (pa_cons pe_str (pa_cons pe_str (pa_cons pe_str pa_nil))))))) (pe_call G_law_next (hr.mono (by omega)) (by rfl) T.g_law_next T.F_law_next.kp T.b_law_next .nil pass0 (pa_cons (pv 0) (pa_cons pe_int pa_nil))) (fun _ _ => rfl)) (pa_cons (pe_ix (r := rIxL K) ix_list (pv 11) pe_int (fun _ _ => rfl)) (pa_cons (pe_ix (r := rIxL K) ix_list (pv 11) pe_int (fun _ _ => rfl)) pa_nil))))))) pss_nil)
  (pss_cons (ps_if (pt_cmpR (r := rEqD K) (op_eqD hu64) (pv 9) pe_str (nomark _)) (pss_one (ps_ret (pe_tup (pa_cons (pv 9) (pa_cons (pv 12) (pa_cons (pe_ix (r := rIxL K) ix_list (pe_lst (pa_cons pe_str (pa_cons pe_str (pa_cons pe_str pa_nil)))) (pe_call G_law_next (hr.mono (by omega)) (by rfl) T.g_law_next T.F_law_next.kp T.b_law_next .nil pass0 (pa_cons (pv 0) (pa_cons pe_int pa_nil))) (fun _ _ => rfl)) (pa_cons (pe_ix (r := rIxL K) ix_list (pv 11) pe_int (fun _ _ => rfl)) (pa_cons (pe_ix (r := rIxL K) ix_list (pv 11) pe_int (fun _ _ => rfl)) pa_nil)))))))) pss_nil)
  (pss_cons (ps_if (pt_val (pv 3)) (pss_one (ps_setLc (i := 7) (own := [("_law_term_here", 10)]) rfl sc_law_literal.nd rfl rfl (sw_true rfl rfl rfl (by decide +kernel)) (pi_list (pv 7)) (blkOk_by (own := [("_law_term_here", 10)]) (N := ["_law_state", "_law_widths_here", "_law_bound", "_law_careful", "_law_names", "_law_relation", "_law_width", "_law_terms", "_law_k", "_law_form", "_law_term_here", "_law_pair", "_law_variable_here"]) (sc := (defScope s_law_literal)) (by decide +kernel)) (fun _ _ _ _ _ => (pg_name (i := 10) sc_law_literal.nd rfl (Or.inl rfl))) (fun _ _ _ _ _ => pts_nil) (fun _ _ _ _ _ => (pe_ix (r := rIxL K) ix_list (pe_lst (pa_cons (pv 10) (pa_cons (pe_tup (pa_cons pe_str pa_nil)) pa_nil))) (pe_callTy (r := rInt1) call_int1 (by rfl) T.n_int (by decide +kernel) (pa_cons (pe_cmpR (r := rEqD K) (op_eqD hu64) (pv 10) (pe_tup (pa_cons pe_str (pa_cons (pv 12) pa_nil))) (nomark _)) pa_nil)) (fun _ _ => rfl))))) pss_nil)
  (pss_one (ps_ret (pe_tup (pa_cons (pv 9) (pa_cons (pv 12) (pa_cons (pv 5) (pa_cons (pe_callTy (r := rTupS K) call_tuple_of (by rfl) T.n_tuple (by decide +kernel) (pa_cons (pv 7) pa_nil)) pa_nil)))))))))))))))))))))), ?_⟩
  rintro ss M Q ⟨p, q, xs, Ws, ks, c, rfl, hM, hD, hW, oW, hk, qq⟩
  obtain ⟨M0, rfl⟩ : ∃ M0, M = um M0 p (.lst xs) := ⟨M, (um_id hM).symm⟩
  simp only [um_um] at qq
  walk_at "k"
  have hpq : q ≠ p := fun z => by rw [z, hM] at hW; cases hW
  have hW0 : ∀ vs, Ab.um M0 p (.lst vs) q = some (.dK (kvW Ws)) := fun vs => by rw [um_ne hpq]; rw [um_ne hpq] at hW; exact hW
  have lW := oW.l
  have kl := hk.l
  show WS K _ [some (.raw (.ref p)), some (.raw (.ref q)), some (.dat (bnd ks)), some (.bl c), none, none, none, none, none, none, none, none, none] (um M0 p (.lst xs)) _
  refine ws_mid (fun ρ' M' => ∃ ns, ρ' = [some (.raw (.ref p)), some (.raw (.ref q)), some (.dat (bnd ks)), some (.bl c), some (.dat (bnd ns)), none, none, none, none, none, none, none, none] ∧ ns ≠ [] ∧ ns.length < 64 ∧ (∀ z ∈ ns, z ∈ Ws.map (·.1)) ∧ M' = um M0 p (.lst xs)) ?_ ?_
  · refine ws_set (w_sortedLN (w_var rfl ⟨dcv_ref hW, kvW_keys Ws, by rw [List.length_map]; omega, ?_⟩))
    exact ⟨sortT (Ws.map (·.1)), rfl, fun e => oW.n (by have := sortT_len (Ws.map (·.1)); rw [e, List.length_map] at this; exact List.length_eq_zero_iff.mp this.symm), by rw [sortT_len, List.length_map]; omega, fun z hz => sortT_mem.mp hz, rfl⟩
  rintro ρ' M' ⟨ns, rfl, nn, nl, nm, rfl⟩
  have n0 : 0 < ns.length := List.length_pos_iff.mpr nn
  refine ws_mid (fun ρ' M' => ∃ rel ys, ρ' = [some (.raw (.ref p)), some (.raw (.ref q)), some (.dat (bnd ks)), some (.bl c), some (.dat (bnd ns)), some (.str rel), none, none, none, none, none, none, none] ∧ rel ∈ Ws.map (·.1) ∧ DrawL ys ∧ M' = um M0 p (.lst ys)) ?_ ?_
  · walk_at "g"
    refine a_next hD (by omega) (Int.le_trans (b := 64) (by omega) (by decide)) fun v ys h0 h1 hD1 => ?_
    exact w2_ixT1 h0 h1 fun rel hrel => ⟨rel, ys, rfl, nm rel hrel, hD1, rfl⟩
  rintro ρ' M' ⟨rel, ys, rfl, hrel, hD1, rfl⟩
  clear hD
  refine ws_mid (fun ρ' M' => ∃ wd, ρ' = [some (.raw (.ref p)), some (.raw (.ref q)), some (.dat (bnd ks)), some (.bl c), some (.dat (bnd ns)), some (.str rel), some (.int wd), none, none, none, none, none, none] ∧ goodS rel = true ∧ 0 ≤ wd ∧ wd ≤ 100 ∧ M' = um M0 p (.lst ys)) ?_ ?_
  · obtain ⟨wd, hwd⟩ := valG_of hrel
    have g := oW.g _ (valG_mem hwd)
    exact ws_set (w_dget (w_var rfl (w_var rfl ⟨kvW Ws, .inr rel, .int wd, dcv_ref (hW0 _), rfl, kvW_at hwd, wd, rfl, g.1, g.2.1, g.2.2, rfl⟩)))
  rintro ρ' M' ⟨wd, rfl, hgr, w0, w1, rfl⟩
  refine ws_mid (fun ρ' M' => ∃ wd ys, ρ' = [some (.raw (.ref p)), some (.raw (.ref q)), some (.dat (bnd ks)), some (.bl c), some (.dat (bnd ns)), some (.str rel), some (.int wd), none, none, none, none, none, none] ∧ -1 ≤ wd ∧ wd ≤ 101 ∧ DrawL ys ∧ M' = um M0 p (.lst ys)) ?_ ?_
  · cases c with
    | true =>
      walk_at "g"
      exact ⟨wd, ys, rfl, by omega, by omega, hD1, rfl⟩
    | false =>
      walk_at "g"
      refine a_next hD1 (by decide) (by decide) fun v ys h0 h1 hD2 => ?_
      walk_at "g"
      refine ite_d (fun h => ?_) (fun h => ?_)
      · walk_at "g"
        refine a_next hD2 (by decide) (by decide) fun v ys h0 h1 hD3 => ?_
        walk_at "g"
        exact ⟨_, ys, rfl, by omega, by omega, hD3, rfl⟩
      · walk_at "g"
        exact ⟨wd, ys, rfl, by omega, by omega, hD2, rfl⟩
  clear w0 w1 hD1
  rintro ρ' M' ⟨wd, ys, rfl, w0, w1, hD1, rfl⟩
  refine ws_mid (fun ρ' M' => ∃ rel ys, ρ' = [some (.raw (.ref p)), some (.raw (.ref q)), some (.dat (bnd ks)), some (.bl c), some (.dat (bnd ns)), some (.str rel), some (.int wd), none, none, none, none, none, none] ∧ goodS rel = true ∧ DrawL ys ∧ M' = um M0 p (.lst ys)) ?_ ?_
  · cases c with
    | true =>
      walk_at "g"
      exact ⟨rel, ys, rfl, hgr, hD1, rfl⟩
    | false =>
      walk_at "g"
      refine a_next hD1 (by decide) (by decide) fun v ys h0 h1 hD2 => ?_
      walk_at "g"
      refine ite_d (fun h => ?_) (fun h => ?_)
      · walk_at "g"
        exact ⟨_, ys, rfl, by decide +kernel, hD2, rfl⟩
      · walk_at "g"
        exact ⟨rel, ys, rfl, hgr, hD2, rfl⟩
  clear hD1 hgr hrel
  rintro ρ' M' ⟨rel, ys, rfl, hgr, hD1, rfl⟩
  refine ws_mid (fun ρ' M' => ∃ ts ys, ρ' = [some (.raw (.ref p)), some (.raw (.ref q)), some (.dat (bnd ks)), some (.bl c), some (.dat (bnd ns)), some (.str rel), some (.int wd), some (.dat (.list (ts.map Term.enc))), none, none, none, none, none] ∧ okTs ts ∧ DrawL ys ∧ M' = um M0 p (.lst ys)) ?_ ?_
  · refine ws_set (w_lcGen (p := p) (by decide) (fun d => ∃ t : Term, d = t.enc ∧ t.ok) ?_)
    walk_at "g"
    refine ⟨wd, M0, ys, rfl, rfl, hD1, by omega, by omega, fun i M2 us hi hu => ?_, fun ds us hu hl hP => ?_⟩
    · walk_at "g"
      exact a_gen1 hu ⟨ks, rfl, hk⟩ fun d zs hP hD => ⟨d, zs, rfl, rfl, hD, hP⟩
    · obtain ⟨ts, rfl, hts⟩ := list_enc hP
      rw [List.length_map] at hl
      exact ⟨ts, us, rfl, ⟨by omega, hts⟩, hu, rfl⟩
  clear hD1
  rintro ρ' M' ⟨ts, ys, rfl, hts, hD1, rfl⟩
  refine ws_mid (fun ρ' M' => ∃ form ys, ρ' = [some (.raw (.ref p)), some (.raw (.ref q)), some (.dat (bnd ks)), some (.bl c), some (.dat (bnd ns)), some (.str rel), some (.int wd), some (.dat (.list (ts.map Term.enc))), none, some (.str form), none, none, none] ∧ (form = ("fact" : Str) ∨ form = ("not" : Str) ∨ form = ("compare" : Str) ∨ form = ("is" : Str) ∨ form = ("count" : Str)) ∧ DrawL ys ∧ M' = um M0 p (.lst ys)) ?_ ?_
  · walk_at "g"
    refine a_next hD1 (by decide) (by decide) fun v ys h0 h1 hD2 => ?_
    walk_at "g"
    intro f hf
    simp only [List.mem_cons, List.not_mem_nil, or_false] at hf
    rcases hf with rfl | rfl | rfl | rfl | rfl | rfl | rfl
    · exact ⟨_, ys, rfl, .inl rfl, hD2, rfl⟩
    · exact ⟨_, ys, rfl, .inl rfl, hD2, rfl⟩
    · exact ⟨_, ys, rfl, .inl rfl, hD2, rfl⟩
    · exact ⟨_, ys, rfl, .inr (.inl rfl), hD2, rfl⟩
    · exact ⟨_, ys, rfl, .inr (.inr (.inl rfl)), hD2, rfl⟩
    · exact ⟨_, ys, rfl, .inr (.inr (.inr (.inl rfl))), hD2, rfl⟩
    · exact ⟨_, ys, rfl, .inr (.inr (.inr (.inr rfl))), hD2, rfl⟩
  clear hD1
  rintro ρ' M' ⟨form, ys, rfl, hf, hD1, rfl⟩
  have gf : goodS form = true := by rcases hf with rfl | rfl | rfl | rfl | rfl <;> decide +kernel
  have any2 : ∀ x : Term, x.ok → ∀ d ∈ [x.enc, Term.any.enc], ∃ t : Term, t.ok ∧ d = t.enc := fun x hx d hd => by
    simp only [List.mem_cons, List.not_mem_nil, or_false] at hd
    rcases hd with rfl | rfl
    · exact ⟨x, hx, rfl⟩
    · exact ⟨.any, trivial, rfl⟩
  refine ws_mid (fun ρ' M' => ∃ ts ys, ρ' = [some (.raw (.ref p)), some (.raw (.ref q)), some (.dat (bnd ks)), some (.bl c), some (.dat (bnd ns)), some (.str rel), some (.int wd), some (.dat (.list (ts.map Term.enc))), none, some (.str form), none, none, none] ∧ okTs ts ∧ DrawL ys ∧ M' = um M0 p (.lst ys)) ?_ ?_
  · refine ws_if (WT.imp (Q := fun b M' => ∃ ys, DrawL ys ∧ M' = um M0 p (.lst ys)) ?_ fun b M' ⟨ys, hD2, e⟩ => ?_)
    · walk_at "g"
      refine ite_d (fun h => ?_) (fun h => ⟨ys, hD1, rfl⟩)
      cases c with
      | true =>
        walk_at "g"
        exact ⟨ys, hD1, rfl⟩
      | false =>
        walk_at "g"
        refine a_next hD1 (by decide) (by decide) fun v ys h0 h1 hD2 => ?_
        walk_at "g"
        exact ⟨ys, hD2, rfl⟩
    · subst e
      cases b with
      | false => exact ws_next ⟨ts, ys, rfl, hts, hD2, rfl⟩
      | true =>
        refine ws_set (w_termL (ts := ts) (M1 := um M0 p (.lst ys)) (by decide) hts (w_var rfl ⟨rfl, rfl⟩) (fun x D o hx hD => ?_) fun us hus hl => ⟨us, ys, rfl, hus, hD2, rfl⟩)
        have hxo := hts.2 x hx
        have a2 := any2 x hxo
        cases x with
        | any =>
          walk_at "g"
          exact fun d hd => (let ⟨t, h1, h2⟩ := a2 d hd; ⟨t, h1, congrArg Sl.dat h2, rfl⟩)
        | value v =>
          have e : (Term.value v).enc = .tuple [.str "value", v.enc] := rfl
          rw [e]
          walk_at "g"
          exact fun d hd => (let ⟨t, h1, h2⟩ := a2 d hd; ⟨t, h1, congrArg Sl.dat h2, rfl⟩)
        | «variable» z =>
          have e : (Term.variable z).enc = .tuple [.str "variable", .str z] := rfl
          rw [e]
          walk_at "g"
          refine w2_notInT (ks := ks) lsv_strs hxo hk.g (by omega) ?_
          walk_at "g"
          exact fun d hd => (let ⟨t, h1, h2⟩ := a2 d hd; ⟨t, h1, congrArg Sl.dat h2, rfl⟩)
  clear hD1 hts
  rintro ρ' M' ⟨ts, ys, rfl, hts, hD1, rfl⟩
  have htl := hts.1
  refine ws_mid (fun ρ' M' => ρ' = [some (.raw (.ref p)), some (.raw (.ref q)), some (.dat (bnd ks)), some (.bl c), some (.dat (bnd ns)), some (.str rel), some (.int wd), some (.dat (.list (ts.map Term.enc))), none, some (.str form), none, none, none] ∧ (form = ("compare" : Str) ∨ form = ("is" : Str) ∨ form = ("count" : Str)) ∧ M' = um M0 p (.lst ys)) ?_ ?_
  · have inL : ∀ (M : MH) (Q : Sl → MH → Prop), Q (.bl (decide (form ∈ [("fact" : Str), "not"]))) M → W2 K (rInD K) (.dat (.str form)) (.dat (.list [.str "fact", .str "not"])) M Q := fun M Q q => w2_inT (ks := [("fact" : Str), "not"]) (lsv_strs (ks := [("fact" : Str), "not"])) gf (by decide +kernel) (by decide) q
    walk_at "g"
    refine inL _ _ ⟨_, rfl, ?_⟩
    rcases hf with rfl | rfl | hf
    · rw [if_pos (by decide +kernel)]
      walk_at "g"
      exact qq (.fact rel ts) ys ⟨hgr, hts⟩ hD1
    · rw [if_pos (by decide +kernel)]
      walk_at "g"
      exact qq (.neg rel ts) ys ⟨hgr, hts⟩ hD1
    · rw [if_neg (by rcases hf with rfl | rfl | rfl <;> decide +kernel)]
      exact ws_next ⟨rfl, hf, rfl⟩
  rintro ρ' M' ⟨rfl, hf, rfl⟩
  refine ws_mid (fun ρ' M' => ∃ (t1 t2 : Term) (ys : List Sl), ρ' = [some (.raw (.ref p)), some (.raw (.ref q)), some (.dat (bnd ks)), some (.bl c), some (.dat (bnd ns)), some (.str rel), some (.int wd), some (.dat (.list (ts.map Term.enc))), none, some (.str form), none, some (.dat (.list [t1.enc, t2.enc])), none] ∧ t1.ok ∧ t2.ok ∧ DrawL ys ∧ M' = um M0 p (.lst ys)) ?_ ?_
  · walk_at "g"
    refine a_gen1 hD1 ⟨ks, rfl, hk⟩ fun d zs hP hD2 => ?_
    obtain ⟨t1, rfl, h1⟩ := hP
    walk_at "g"
    refine a_gen1 hD2 ⟨ks, rfl, hk⟩ fun d zs hP hD3 => ?_
    obtain ⟨t2, rfl, h2⟩ := hP
    walk_at "g"
    exact ⟨t1, t2, _, rfl, h1, h2, hD3, rfl⟩
  clear hD1
  rintro ρ' M' ⟨t1, t2, ys, rfl, ht1, ht2, hD1, rfl⟩
  refine ws_mid (fun ρ' M' => ∃ (t1 t2 : Term) (ys : List Sl), ρ' = [some (.raw (.ref p)), some (.raw (.ref q)), some (.dat (bnd ks)), some (.bl c), some (.dat (bnd ns)), some (.str rel), some (.int wd), some (.dat (.list (ts.map Term.enc))), none, some (.str form), none, some (.dat (.list [t1.enc, t2.enc])), none] ∧ t1.ok ∧ t2.ok ∧ DrawL ys ∧ M' = um M0 p (.lst ys)) ?_ ?_
  · refine ws_if (WT.imp (Q := fun b M' => ∃ ys, DrawL ys ∧ M' = um M0 p (.lst ys)) ?_ fun b M' ⟨ys, hD2, e⟩ => ?_)
    · cases c with
      | true =>
        walk_at "g"
        exact ⟨ys, hD1, rfl⟩
      | false =>
        walk_at "g"
        refine a_next hD1 (by decide) (by decide) fun v ys h0 h1 hD2 => ?_
        walk_at "g"
        exact ⟨ys, hD2, rfl⟩
    · subst e
      cases b with
      | false => exact ws_next ⟨t1, t2, ys, rfl, ht1, ht2, hD2, rfl⟩
      | true =>
        refine ws_set (w_termL (ts := [t1, t2]) (M1 := um M0 p (.lst ys)) (by decide) ⟨by simp, fun z hz => ?_⟩ (w_var rfl ⟨rfl, rfl⟩) (fun x D o hx hD => ?_) fun us hus hl => ?_)
        · simp only [List.mem_cons, List.not_mem_nil, or_false] at hz
          rcases hz with rfl | rfl
          · exact ht1
          · exact ht2
        · walk_at "g"
          refine ⟨ks, x, rfl, ?_, hk, ⟨_, settled_ok ?_, rfl, rfl⟩⟩ <;>
          · simp only [List.mem_cons, List.not_mem_nil, or_false] at hx
            rcases hx with rfl | rfl
            · exact ht1
            · exact ht2
        · match us, hl with
          | [u1, u2], _ => exact ⟨u1, u2, ys, rfl, hus.2 u1 (by simp), hus.2 u2 (by simp), hD2, rfl⟩
  clear hD1 ht1 ht2
  rintro ρ' M' ⟨t1, t2, ys, rfl, ht1, ht2, hD1, rfl⟩
  refine ws_mid (fun ρ' M' => ∃ x ys, ρ' = [some (.raw (.ref p)), some (.raw (.ref q)), some (.dat (bnd ks)), some (.bl c), some (.dat (bnd ns)), some (.str rel), some (.int wd), some (.dat (.list (ts.map Term.enc))), none, some (.str form), none, some (.dat (.list [t1.enc, t2.enc])), some (.str x)] ∧ goodS x = true ∧ DrawL ys ∧ M' = um M0 p (.lst ys)) ?_ ?_
  · walk_at "g"
    refine a_gen0 hD1 rfl fun d zs hP hD2 => ?_
    obtain ⟨x, rfl, hx⟩ := isName_of hP
    exact ⟨x, _, rfl, hx, hD2, rfl⟩
  clear hD1
  rintro ρ' M' ⟨x, ys, rfl, hx, hD1, rfl⟩
  have two : ∀ d ∈ [t1.enc, t2.enc], ∃ t : Term, t.ok ∧ d = t.enc := fun d hd => by
    simp only [List.mem_cons, List.not_mem_nil, or_false] at hd
    rcases hd with rfl | rfl
    · exact ⟨t1, ht1, rfl⟩
    · exact ⟨t2, ht2, rfl⟩
  rcases hf with rfl | rfl | rfl
  · walk_at "f"
    refine a_next hD1 (by decide) (by decide) fun v ys h0 h1 hD2 => ?_
    walk_at "f"
    intro o ho
    obtain ⟨op, rfl, hop⟩ : ∃ op : Str, o = .str op ∧ op ∈ opsC := by
      simp only [List.mem_cons, List.not_mem_nil, or_false] at ho
      rcases ho with h | h | h | h | h | h <;> exact ⟨_, h, by simp [opsC]⟩
    walk_at "f"
    intro d hd
    obtain ⟨u1, hu1, rfl⟩ := two d hd
    walk_at "f"
    intro d hd
    obtain ⟨u2, hu2, rfl⟩ := two d hd
    walk_at "f"
    exact qq (.compare op u1 u2) ys ⟨hop, hu1, hu2⟩ hD2
  · walk_at "f"
    refine a_next hD1 (by decide) (by decide) fun v ys h0 h1 hD2 => ?_
    walk_at "f"
    intro o ho
    obtain ⟨op, rfl, hop⟩ : ∃ op : Str, o = .str op ∧ op ∈ opsI := by
      simp only [List.mem_cons, List.not_mem_nil, or_false] at ho
      rcases ho with h | h | h <;> exact ⟨_, h, by simp [opsI]⟩
    walk_at "f"
    intro d hd
    obtain ⟨u1, hu1, rfl⟩ := two d hd
    walk_at "f"
    intro d hd
    obtain ⟨u2, hu2, rfl⟩ := two d hd
    walk_at "f"
    exact qq (.is x op u1 u2) ys ⟨hx, hop, hu1, hu2⟩ hD2
  · refine ws_mid (fun ρ' M' => ρ' = [some (.raw (.ref p)), some (.raw (.ref q)), some (.dat (bnd ks)), some (.bl c), some (.dat (bnd ns)), some (.str rel), some (.int wd), some (.dat (.list (ts.map Term.enc))), none, some (.str "count"), none, some (.dat (.list [t1.enc, t2.enc])), some (.str x)] ∧ M' = um M0 p (.lst ys)) ?_ ?_
    · walk_at "g"
      exact ⟨rfl, rfl⟩
    rintro ρ' M' ⟨rfl, rfl⟩
    refine ws_mid (fun ρ' M' => ρ' = [some (.raw (.ref p)), some (.raw (.ref q)), some (.dat (bnd ks)), some (.bl c), some (.dat (bnd ns)), some (.str rel), some (.int wd), some (.dat (.list (ts.map Term.enc))), none, some (.str "count"), none, some (.dat (.list [t1.enc, t2.enc])), some (.str x)] ∧ M' = um M0 p (.lst ys)) ?_ ?_
    · walk_at "g"
      exact ⟨rfl, rfl⟩
    rintro ρ' M' ⟨rfl, rfl⟩
    refine ws_mid (fun ρ' M' => ∃ ts, ρ' = [some (.raw (.ref p)), some (.raw (.ref q)), some (.dat (bnd ks)), some (.bl c), some (.dat (bnd ns)), some (.str rel), some (.int wd), some (.dat (.list (ts.map Term.enc))), none, some (.str "count"), none, some (.dat (.list [t1.enc, t2.enc])), some (.str x)] ∧ okTs ts ∧ M' = um M0 p (.lst ys)) ?_ ?_
    · cases c with
      | false =>
        walk_at "g"
        exact ⟨ts, rfl, hts, rfl⟩
      | true =>
        walk_at "g"
        refine w_termL (ts := ts) (M1 := um M0 p (.lst ys)) (by decide) hts (w_var rfl ⟨rfl, rfl⟩) (fun z D o hz hD => ?_) fun us hus hl => ⟨us, rfl, hus, rfl⟩
        have a2 := any2 z (hts.2 z hz)
        walk_at "g"
        refine w2_eq (Term.shaped (hts.2 z hz)) (Term.shaped (t := .variable x) hx) ?_
        walk_at "g"
        exact fun d hd => (let ⟨t, h1, h2⟩ := a2 d hd; ⟨t, h1, congrArg Sl.dat h2, rfl⟩)
    clear hts htl
    rintro ρ' M' ⟨ts, rfl, hts, rfl⟩
    have htl := hts.1
    walk_at "f"
    exact qq (.count x rel ts) ys ⟨hx, hgr, hts⟩ hD1
end
end
section
local macro_rules | `(tactic| walk_at "fl") => `(tactic| with_reducible first | exact sl_r _ | exact sl_f _ | exact sl_u _ | exact sl_n _)
section
variable {w : World} {K : PySem.W.Frag} {mg : Str → Option Value} {base : Heap} {a : AD} {d : FD}
def A_lbody : ASp := fun ss M Q => ∃ p q xs Ws c n, ss = [.raw (.ref p), .raw (.ref q), .bl c, .int n] ∧ M p = some (.lst xs) ∧ DrawL xs ∧ M q = some (.dK (kvW Ws)) ∧ okW Ws ∧ 0 ≤ n ∧ n ≤ 60 ∧ ∀ (b : List Lit) ys, okB b → (b.length : Int) ≤ n → DrawL ys → Q (.dat (encB b)) (Ab.um M p (.lst ys))
theorem ok_lbody (T : Txt K mg a d) : FnOk P w K mg base CX0 5 a.law_body d.law_body ["_law_state", "_law_widths_here", "_law_careful", "_law_most"] (conc K A_lbody) := by
  have G_law_next : FnOk P w K mg base CX0 1 a.law_next d.law_next ["_law_state", "_law_limit"] (conc K A_next) := ok_next T
  have G_law_literal : FnOk P w K mg base CX0 4 a.law_literal d.law_literal ["_law_state", "_law_widths_here", "_law_bound", "_law_careful"] (conc K A_llit) := ok_llit T
  have G_law_binds : FnOk P w K mg base CX0 1 a.law_binds d.law_binds ["_law_literal_here"] (conc K A_binds) := ok_binds T
  refine ab_ok T.F_law_body sc_law_body (fun ss M Q ⟨p, q, xs, Ws, c, n, e, _⟩ => by subst e; rfl) fun cdv Ar outer s H E hr => ?_
  have hu64 := hr.units
  have hu65 := room65 hr
  refine ⟨_, (pss_cons (ps_set (i := 4) sc_law_body.nd rfl (Or.inl rfl) (pe_lst pa_nil))
  (pss_cons (ps_set (i := 5) sc_law_body.nd rfl (Or.inr rfl) (pe_lst pa_nil))
  (pss_cons (ps_set (i := 6) sc_law_body.nd rfl (Or.inl rfl) pe_int)
  (pss_cons (ps_for PassesOwn.never rfl (pi_range1 rfl T.n_range (pa_cons (pe_call G_law_next (hr.mono (by omega)) (by rfl) T.g_law_next T.F_law_next.kp T.b_law_next .nil pass0 (pa_cons (pv 0) (pa_cons (pe_op op_add (pv 3) pe_int) pa_nil))) pa_nil)) (pg_name (i := 7) sc_law_body.nd rfl (Or.inl rfl)) (pss_cons (ps_set (i := 8) sc_law_body.nd rfl (Or.inl rfl) (pe_call G_law_literal (hr.mono (by omega)) (by rfl) T.g_law_literal T.F_law_literal.kp T.b_law_literal .nil pass0 (pa_cons (pv 0) (pa_cons (pv 1) (pa_cons (pv 5) (pa_cons (pv 2) pa_nil))))))
  (pss_one (ps_if (PW.pt (pw_or (pt_cmpR (r := rNeD K) (op_neD hu64) (pe_ix (r := rIxT K) ix_tup (pv 8) pe_int (fun _ _ => rfl)) pe_str (nomark _)) (pw_or1 (pt_cmpR op_lt (pv 6) pe_int (nomark _))))) (pss_cons (ps_expr (pe_bm PySem.F.plainAttrs_list PySem.F.slot_list_append PySem.F.type_list_append mt_append (pv 4) (pa_cons (pv 8) pa_nil)))
  (pss_cons (ps_set (i := 6) sc_law_body.nd rfl (Or.inl rfl) (pe_op op_add (pv 6) (pe_callTy (r := rInt1) call_int1 (by rfl) T.n_int (by decide +kernel) (pa_cons (pe_cmpR (r := rEqD K) (op_eqD hu64) (pe_ix (r := rIxT K) ix_tup (pv 8) pe_int (fun _ _ => rfl)) pe_str (nomark _)) pa_nil))))
  (pss_one (ps_set (i := 5) sc_law_body.nd rfl (Or.inr rfl) (pe_op (r := rCatL K) op_catL (pv 5) (pe_lc (own := [("_law_name", 9)]) rfl sc_law_body.nd (pi_list (pe_call G_law_binds (hr.mono (by omega)) (by rfl) T.g_law_binds T.F_law_binds.kp T.b_law_binds .nil pass0 (pa_cons (pv 8) pa_nil))) (blkOk_by (own := [("_law_name", 9)]) (N := ["_law_state", "_law_widths_here", "_law_careful", "_law_most", "_law_body_here", "_law_bound", "_law_facts", "_law_k", "_law_literal_here", "_law_name"]) (sc := (defScope s_law_body)) (by decide +kernel)) (fun _ _ _ _ _ => (pg_name (i := 9) sc_law_body.nd rfl (Or.inl rfl))) (fun _ _ _ _ _ => pts_one (pt_cmpR (r := rNotInD K) (op_notInD hu65) (pv 9) (pv 5) (by rfl))) (fun _ _ _ _ _ => (pv 9)))))))) pss_nil))))
  (pss_one (ps_ret (pe_callTy (r := rTupS K) call_tuple_of (by rfl) T.n_tuple (by decide +kernel) (pa_cons (pv 4) pa_nil)))))))), ?_⟩
  rintro ss M Q ⟨p, q, xs, Ws, c, n, rfl, hM, hD, hW, oW, n0, n1, qq⟩
  obtain ⟨M0, rfl⟩ : ∃ M0, M = um M0 p (.lst xs) := ⟨M, (um_id hM).symm⟩
  simp only [um_um] at qq
  walk_at "k"
  have hpq : q ≠ p := fun z => by rw [z, hM] at hW; cases hW
  show WS K _ [some (.raw (.ref p)), some (.raw (.ref q)), some (.bl c), some (.int n), none, none, none, none, none, none] (um M0 p (.lst xs)) _
  refine ws_seq (ws_set (w_lstM (wa_nil ⟨by decide, fun D hD0 => ?_⟩)))
  have hDp : D ≠ p := fun z => by rw [z, um_same] at hD0; cases hD0
  have hD1 : M0 D = none := by rw [um_ne hDp] at hD0; exact hD0
  have hDq : D ≠ q := fun z => by rw [z, hW] at hD0; cases hD0
  rw [um_comm hDp.symm]
  have hW0 : ∀ u vs, Ab.um (Ab.um M0 D u) p (.lst vs) q = some (.dK (kvW Ws)) := fun u vs => by rw [um_ne hpq, um_ne hDq.symm]; rw [um_ne hpq] at hW; exact hW
  refine ws_seq (ws_set (w_lstD (wa_nil ⟨[], rfl, by simp, ?_⟩)))
  refine ws_seq (ws_set (w_int ?_))
  refine ws_mid (fun ρ' M' => ∃ (b : List Lit) (ys : List Sl) (z5 z6 z7 z8 z9 : Option Sl), ρ' = [some (.raw (.ref p)), some (.raw (.ref q)), some (.bl c), some (.int n), some (.raw (.ref D)), z5, z6, z7, z8, z9] ∧ okB b ∧ (b.length : Int) ≤ n ∧ DrawL ys ∧ M' = um (um M0 D (.lst (b.map fun l => .dat (Lit.enc l)))) p (.lst ys)) ?_ ?_
  · refine ws_forRn ?_
    walk_at "f"
    refine ⟨p, n + 1, xs, rfl, um_same, hD, by omega, Int.le_trans (b := 100) (by omega) (by decide), fun v zs v0 v1 hD2 => ?_⟩
    rw [um_um]
    refine wa_nil ⟨v, rfl, Int.le_trans (b := 0) (by decide) v0, Int.lt_trans (b := 100) (by omega) (by decide), fun i ρ' M' => ∃ (b : List Lit) (bs : List Str) (f : Int) (ys : List Sl) (z7 z8 z9 : Option Sl), ρ' = [some (.raw (.ref p)), some (.raw (.ref q)), some (.bl c), some (.int n), some (.raw (.ref D)), some (.dat (bnd bs)), some (.int f), z7, z8, z9] ∧ (∀ l ∈ b, l.ok) ∧ b.length ≤ i ∧ (∀ z ∈ bs, goodS z = true) ∧ bs.length ≤ 1000 * i ∧ DrawL ys ∧ M' = um (um M0 D (.lst (b.map fun l => .dat (Lit.enc l)))) p (.lst ys), ⟨[], [], 0, zs, none, none, none, rfl, fun _ h => (nomatch h), by simp, fun _ h => (nomatch h), by simp, hD2, rfl⟩, fun i ρ' M' hi hJ => ?_, fun ρ' M' hJ => ?_⟩
    · obtain ⟨b, bs, f, ys, z7, z8, z9, rfl, hb, hbl, hg, hbs, hD3, rfl⟩ := hJ
      refine wg_name ?_
      refine ws_seq (ws_set ?_)
      walk_at "g"
      refine ⟨p, q, ys, Ws, bs, c, rfl, um_same, hD3, hW0 _ _, oW, ⟨hg, by omega⟩, fun l us hl hD4 => ?_⟩
      rw [um_um]
      refine ws_if (WT.imp (Q := fun _ M' => M' = um (um M0 D (.lst (b.map fun l => .dat (Lit.enc l)))) p (.lst us)) ?_ fun bb M' e => ?_)
      · walk_at "g"
        refine w2_ixHd ?_
        walk_at "g"
        refine w2_neS (goodS_ok l.form_good) (by decide +kernel) ⟨_, rfl, ?_⟩
        refine ite_n (fun h => rfl) (fun h => ?_)
        walk_at "g"
        rfl
      · subst e
        cases bb with
        | false => exact ws_next ⟨b, bs, f, us, _, _, _, rfl, hb, by omega, hg, by omega, hD4, rfl⟩
        | true =>
          walk_at "f"
          refine w_bm ?_
          walk_at "f"
          have hDl : um (um M0 D (.lst (b.map fun l => .dat (Lit.enc l)))) p (.lst us) D = some (.lst (b.map fun l => .dat (Lit.enc l))) := by rw [um_ne hDp, um_same]
          refine ⟨ty_lst (lsv_ref hDl), ?_⟩
          walk_at "f"
          refine wm_append hDl (by rw [List.length_map]; omega) ?_
          rw [um_comm hDp.symm, um_um]
          walk_at "f"
          refine w2_ixHd ?_
          walk_at "f"
          refine w2_eqS (goodS_ok l.form_good) (by decide +kernel) ?_
          walk_at "f"
          have hbg := bindsF_good hl
          have hb1 := bindsF_len hl
          refine w_lcF (enc := PyData.str) (xs := bindsF l) (M1 := um (um M0 D (.lst ((b ++ [l]).map fun l => .dat (Lit.enc l)))) p (.lst us)) (by decide) ?_ (by omega) (fun z => !decide (z ∈ bs)) PyData.str (fun z D2 o hz hD5 => ?_) (fun z D2 o hz hf hD5 => ?_) ?_
          · walk_at "f"
            exact ⟨l, rfl, hl, rfl, by rw [List.map_append]; rfl⟩
          · walk_at "f"
            refine w2_notInT (ks := bs) lsv_strs (hbg z hz) hg (by omega) ?_
            exact ⟨_, rfl, rfl, rfl⟩
          · walk_at "f"
            exact ⟨rfl, rfl⟩
          · have fl := List.length_filter_le (fun z => !decide (z ∈ bs)) (bindsF l)
            refine w2_cat lsv_dat lsv_dat (by rw [List.length_map, List.length_map]; omega) ?_
            refine ⟨b ++ [l], bs ++ (bindsF l).filter fun z => !decide (z ∈ bs), _, us, _, _, _, by rw [← List.map_append]; rfl, fun y hy => ?_, by rw [List.length_append]; simp; omega, fun y hy => ?_, by rw [List.length_append]; omega, hD4, rfl⟩
            · rcases List.mem_append.mp hy with h | h
              · exact hb y h
              · rw [List.mem_singleton.mp h]; exact hl
            · rcases List.mem_append.mp hy with h | h
              · exact hg y h
              · exact hbg y (List.mem_filter.mp h).1
    · obtain ⟨b, bs, f, ys, z7, z8, z9, rfl, hb, hbl, hg, hbs, hD3, rfl⟩ := hJ
      exact ⟨b, ys, _, _, _, _, _, rfl, ⟨by omega, hb⟩, by omega, hD3, rfl⟩
  · rintro ρ' M' ⟨b, ys, z5, z6, z7, z8, z9, rfl, hb, hbn, hD2, rfl⟩
    refine ws_ret (w_dropA D ?_)
    walk_at "f"
    refine wl_tuple (ds := b.map Lit.enc) (lsv_ref (by rw [um_ne hDp, um_same, List.map_map]; rfl)) ?_
    walk_at "f"
    rw [del_umum hD1 hDp.symm]
    exact qq b ys hb hbn hD2
end
end
section
local macro_rules | `(tactic| walk_at "fl") => `(tactic| with_reducible first | exact sl_r _ | exact sl_f _ | exact sl_u _ | exact sl_n _)
section
variable {w : World} {K : PySem.W.Frag} {mg : Str → Option Value} {base : Heap} {a : AD} {d : FD}
def A_loose : ASp := fun ss M Q => ∃ ts ks any, ss = [.dat (encT ts), .dat (bnd ks), .bl any] ∧ okTs ts ∧ okK ks ∧ Q (.dat (encOP (termsP ks any ts))) M
theorem ok_loose (T : Txt K mg a d) : FnOk P w K mg base CX0 1 a.law_loose d.law_loose ["_law_terms", "_law_bound", "_law_lets_any"] (conc K A_loose) := by
  refine ab_ok T.F_law_loose sc_law_loose (fun ss M Q ⟨ts, ks, any, e, _⟩ => by subst e; rfl) fun cdv Ar outer s H E hr => ?_
  have hu64 := hr.units
  have hu65 := room65 hr
  refine ⟨_, (pss_cons (ps_for PassesOwn.never rfl (pi_tup (pv 0)) (pg_name (i := 3) sc_law_loose.nd rfl (Or.inl rfl)) (pss_cons (ps_if (PW.pt (pw_and (pt_cmpR (r := rEqD K) (op_eqD hu64) (pe_ix (r := rIxT K) ix_tup (pv 3) pe_int (fun _ _ => rfl)) pe_str (nomark _)) (pw_and1 (pt_not (pt_val (pv 2)))))) (pss_one (ps_ret (pe_tup (pa_cons pe_str pa_nil)))) pss_nil)
  (pss_one (ps_if (PW.pt (pw_and (pt_cmpR (r := rEqD K) (op_eqD hu64) (pe_ix (r := rIxT K) ix_tup (pv 3) pe_int (fun _ _ => rfl)) pe_str (nomark _)) (pw_and1 (pt_cmpR (r := rNotInD K) (op_notInD hu65) (pe_ix (r := rIxT K) ix_tup (pv 3) pe_int (fun _ _ => rfl)) (pv 1) (by rfl))))) (pss_one (ps_ret (pe_tup (pa_cons pe_str (pa_cons (pe_ix (r := rIxT K) ix_tup (pv 3) pe_int (fun _ _ => rfl)) pa_nil))))) pss_nil))))
  (pss_one (ps_ret pe_non))), ?_⟩
  rintro ss M Q ⟨ts, ks, any, rfl, ht, hk, q⟩
  have kl := hk.l
  walk_at "k"
  show WS K _ [some (.dat (encT ts)), some (.dat (bnd ks)), some (.bl any), none] M _
  refine ws_seq (ws_forT (xs := ts) (enc := Term.enc) (M1 := M) (w_var rfl ⟨rfl, rfl⟩) (fun pre ρ' M' => ∃ z, ρ' = [some (.dat (encT ts)), some (.dat (bnd ks)), some (.bl any), z] ∧ M' = M ∧ termsP ks any pre = none) ⟨none, rfl, rfl, rfl⟩ ?_ ?_)
  · rintro pre t post ρ' M' hx ⟨z, rfl, rfl, hp⟩
    have hto : t.ok := ht.2 t (by rw [hx]; simp)
    have step : termsP ks any ts = (termP ks any t).or (termsP ks any post) := by
      unfold termsP at hp ⊢
      rw [hx, List.findSome?_append, hp, Option.none_or, List.findSome?_cons]
      cases termP ks any t <;> rfl
    have stepN : termP ks any t = none → termsP ks any (pre ++ [t]) = none := fun e => by
      unfold termsP at hp ⊢
      rw [List.findSome?_append, hp, Option.none_or, List.findSome?_cons, e]
      rfl
    refine wg_name ?_
    cases t with
    | any =>
      have e : Term.any.enc = .tuple [.str "any"] := rfl
      rw [e]
      walk_at "f"
      cases any with
      | true =>
        walk_at "f"
        exact ⟨_, rfl, rfl, stepN rfl⟩
      | false =>
        walk_at "f"
        rw [step] at q
        exact q
    | value v =>
      have e : (Term.value v).enc = .tuple [.str "value", v.enc] := rfl
      rw [e]
      walk_at "f"
      exact ⟨_, rfl, rfl, stepN rfl⟩
    | «variable» y =>
      have e : (Term.variable y).enc = .tuple [.str "variable", .str y] := rfl
      rw [e]
      walk_at "f"
      refine w2_notInT (ks := ks) lsv_strs hto hk.g (by omega) ?_
      refine ⟨_, rfl, ?_⟩
      by_cases hy : y ∈ ks
      · have e : termP ks any (.variable y) = none := if_pos hy
        rw [if_neg (by simp [hy])]
        walk_at "f"
        exact ⟨_, rfl, rfl, stepN e⟩
      · have e : termP ks any (.variable y) = some [("unbound" : Str), y] := if_neg hy
        rw [if_pos (by simp [hy])]
        walk_at "f"
        rw [step, e] at q
        exact q
  · rintro ρ' M' ⟨z, rfl, rfl, hp⟩
    walk_at "f"
    rw [hp] at q
    exact q
def A_problem (K : PySem.W.Frag) : ASp := fun ss M Q => ∃ s Ws l ks, ss = [s, .dat (Lit.enc l), .dat (bnd ks)] ∧ DcV K s M (kvW Ws) ∧ l.ok ∧ okK ks ∧ Q (.dat (encOP (litP (valG Ws) ks l))) M
theorem ok_problem (T : Txt K mg a d) : FnOk P w K mg base CX0 2 a.law_literal_problem d.law_literal_problem ["_law_widths_here", "_law_literal_here", "_law_bound"] (conc K (A_problem K)) := by
  have G_law_loose : FnOk P w K mg base CX0 1 a.law_loose d.law_loose ["_law_terms", "_law_bound", "_law_lets_any"] (conc K A_loose) := ok_loose T
  refine ab_ok T.F_law_literal_problem sc_law_literal_problem (fun ss M Q ⟨s, Ws, l, ks, e, _⟩ => by subst e; rfl) fun cdv Ar outer s H E hr => ?_
  have hu64 := hr.units
  have hu65 := room65 hr
  refine ⟨_, (pss_cons (ps_if (pt_cmpR (r := rEqD K) (op_eqD hu64) (pe_ix (r := rIxT K) ix_tup (pv 1) pe_int (fun _ _ => rfl)) pe_str (nomark _)) (pss_one (ps_ret (pe_call G_law_loose (hr.mono (by omega)) (by rfl) T.g_law_loose T.F_law_loose.kp T.b_law_loose .nil pass0 (pa_cons (pe_slice (r := rSlA K) sl_tupA (pv 1) (po_some pe_int) po_none) (pa_cons (pv 2) (pa_cons pe_bl pa_nil)))))) pss_nil)
  (pss_cons (ps_if (pt_cmpR (r := rEqD K) (op_eqD hu64) (pe_ix (r := rIxT K) ix_tup (pv 1) pe_int (fun _ _ => rfl)) pe_str (nomark _)) (pss_one (ps_ret (pe_call G_law_loose (hr.mono (by omega)) (by rfl) T.g_law_loose T.F_law_loose.kp T.b_law_loose .nil pass0 (pa_cons (pe_slice (r := rSlA K) sl_tupA (pv 1) (po_some pe_int) po_none) (pa_cons (pv 2) (pa_cons pe_bl pa_nil)))))) pss_nil)
  (pss_cons (ps_asg (pe_slice (r := rSlA K) sl_tupA (pv 1) (po_some (pe_op op_sub (pe_callB (r := rLenS K) call_len_seq (by rfl) T.n_len PySem.boot_len (pa_cons (pv 1) pa_nil)) pe_int)) po_none) (pg_tupK (K := K) (n := 2) rfl rfl (pgs_cons (pg_name (i := 3) sc_law_literal_problem.nd rfl (Or.inl rfl)) (pgs_cons (pg_name (i := 4) sc_law_literal_problem.nd rfl (Or.inl rfl)) pgs_nil))))
  (pss_cons (ps_if (pt_cmp (pc_dnotin (hu1 hu64) (pv 3) (pv 0))) (pss_one (ps_ret (pe_tup (pa_cons pe_str (pa_cons (pv 3) pa_nil))))) pss_nil)
  (pss_cons (ps_if (pt_cmpR (r := rNeD K) (op_neD hu64) (pe_dget (hu1 hu64) (pv 0) (pv 3) (fun _ _ => rfl)) (pe_callB (r := rLenS K) call_len_seq (by rfl) T.n_len PySem.boot_len (pa_cons (pv 4) pa_nil)) (nomark _)) (pss_one (ps_ret (pe_tup (pa_cons pe_str (pa_cons (pv 3) pa_nil))))) pss_nil)
  (pss_cons (ps_if (pt_cmpR (r := rEqD K) (op_eqD hu64) (pe_ix (r := rIxT K) ix_tup (pv 1) pe_int (fun _ _ => rfl)) pe_str (nomark _)) (pss_one (ps_ret (pe_call G_law_loose (hr.mono (by omega)) (by rfl) T.g_law_loose T.F_law_loose.kp T.b_law_loose .nil pass0 (pa_cons (pv 4) (pa_cons (pv 2) (pa_cons pe_bl pa_nil)))))) pss_nil)
  (pss_cons (ps_if (PW.pt (pw_and (pt_cmpR (r := rEqD K) (op_eqD hu64) (pe_ix (r := rIxT K) ix_tup (pv 1) pe_int (fun _ _ => rfl)) pe_str (nomark _)) (pw_and1 (pt_cmpR (r := rInTp K) (op_inTp hu65) (pe_tup (pa_cons pe_str (pa_cons (pe_ix (r := rIxT K) ix_tup (pv 1) pe_int (fun _ _ => rfl)) pa_nil))) (pv 4) (by rfl))))) (pss_one (ps_ret (pe_tup (pa_cons pe_str (pa_cons (pe_ix (r := rIxT K) ix_tup (pv 1) pe_int (fun _ _ => rfl)) pa_nil))))) pss_nil)
  (pss_one (ps_ret pe_non))))))))), ?_⟩
  rintro ss M Q ⟨sw, Ws, l, ks, rfl, hW, hl, hk, q⟩
  walk_at "k"
  cases l with
  | fact r ts =>
    show WS K _ [some sw, some (.dat (.tuple [.str "fact", .str r, encT ts])), some (.dat (bnd ks)), none, none] M _
    walk_at "f"
    refine ws_asg ?_
    walk_at "g"
    refine wg_tup (ds := [.str r, encT ts]) rfl rfl (wgs_cons (wg_name (wgs_cons (wg_name (wgs_nil ?_)))))
    show WS K _ [some sw, some (.dat (.tuple [.str "fact", .str r, encT ts])), some (.dat (bnd ks)), some (.str r), some (.dat (encT ts))] M _
    walk_at "f"
    cases e : valG Ws r with
    | none =>
      have e2 : atomP (valG Ws) r ts = some [("no relation" : Str), r] := by unfold atomP; rw [e]
      refine w_dnotIn (w_var rfl (w_var rfl ⟨kvW Ws, .inr r, hW, rfl, ?_⟩))
      refine ⟨true, by rw [show valG (kvW Ws) (.inr r) = none from kvW_none e]; rfl, ?_⟩
      rw [if_pos rfl]
      walk_at "f"
      exact cast (congrArg (fun z => Q (.dat (encOP z)) M) (show litP (valG Ws) ks (.fact r ts) = _ by exact e2)) q
    | some n =>
      refine w_dnotIn (w_var rfl (w_var rfl ⟨kvW Ws, .inr r, hW, rfl, ?_⟩))
      refine ⟨false, by rw [kvW_at e]; rfl, ?_⟩
      rw [if_neg Bool.false_ne_true]
      walk_at "f"
      refine w_dget (w_var rfl (w_var rfl ⟨kvW Ws, .inr r, .int n, hW, rfl, kvW_at e, ?_⟩))
      walk_at "f"
      rw [List.length_map]
      refine ite_n (fun h => ?_) (fun h => ?_)
      · have e2 : atomP (valG Ws) r ts = some [("width" : Str), r] := by unfold atomP; rw [e]; exact if_neg h
        walk_at "f"
        exact cast (congrArg (fun z => Q (.dat (encOP z)) M) (show litP (valG Ws) ks (.fact r ts) = _ by exact e2)) q
      · have e2 : atomP (valG Ws) r ts = none := by unfold atomP; rw [e]; exact if_pos h
        walk_at "f"
        exact cast (congrArg (fun z => Q (.dat (encOP z)) M) (show atomP (valG Ws) r ts = none from e2)) q
  | neg r ts =>
    show WS K _ [some sw, some (.dat (.tuple [.str "not", .str r, encT ts])), some (.dat (bnd ks)), none, none] M _
    walk_at "f"
    refine ws_asg ?_
    walk_at "g"
    refine wg_tup (ds := [.str r, encT ts]) rfl rfl (wgs_cons (wg_name (wgs_cons (wg_name (wgs_nil ?_)))))
    show WS K _ [some sw, some (.dat (.tuple [.str "not", .str r, encT ts])), some (.dat (bnd ks)), some (.str r), some (.dat (encT ts))] M _
    walk_at "f"
    cases e : valG Ws r with
    | none =>
      have e2 : atomP (valG Ws) r ts = some [("no relation" : Str), r] := by unfold atomP; rw [e]
      refine w_dnotIn (w_var rfl (w_var rfl ⟨kvW Ws, .inr r, hW, rfl, ?_⟩))
      refine ⟨true, by rw [show valG (kvW Ws) (.inr r) = none from kvW_none e]; rfl, ?_⟩
      rw [if_pos rfl]
      walk_at "f"
      exact cast (congrArg (fun z => Q (.dat (encOP z)) M) (show litP (valG Ws) ks (.neg r ts) = _ by show (atomP (valG Ws) r ts).or _ = _; rw [e2]; first | done | rfl)) q
    | some n =>
      refine w_dnotIn (w_var rfl (w_var rfl ⟨kvW Ws, .inr r, hW, rfl, ?_⟩))
      refine ⟨false, by rw [kvW_at e]; rfl, ?_⟩
      rw [if_neg Bool.false_ne_true]
      walk_at "f"
      refine w_dget (w_var rfl (w_var rfl ⟨kvW Ws, .inr r, .int n, hW, rfl, kvW_at e, ?_⟩))
      walk_at "f"
      rw [List.length_map]
      refine ite_n (fun h => ?_) (fun h => ?_)
      · have e2 : atomP (valG Ws) r ts = some [("width" : Str), r] := by unfold atomP; rw [e]; exact if_neg h
        walk_at "f"
        exact cast (congrArg (fun z => Q (.dat (encOP z)) M) (show litP (valG Ws) ks (.neg r ts) = _ by show (atomP (valG Ws) r ts).or _ = _; rw [e2]; first | done | rfl)) q
      · have e2 : atomP (valG Ws) r ts = none := by unfold atomP; rw [e]; exact if_pos h
        walk_at "f"
        refine ⟨ts, ks, true, rfl, hl.2, hk, ?_⟩
        exact cast (congrArg (fun z => Q (.dat (encOP z)) M) (show (atomP (valG Ws) r ts).or (termsP ks true ts) = termsP ks true ts by rw [e2]; rfl)) q
  | compare op s t =>
    show WS K _ [some sw, some (.dat (.tuple [.str "compare", .str op, s.enc, t.enc])), some (.dat (bnd ks)), none, none] M _
    walk_at "f"
    refine ⟨[s, t], ks, false, rfl, ⟨by simp, fun z hz => ?_⟩, hk, q⟩
    rcases List.mem_cons.mp hz with rfl | hz
    · exact hl.2.1
    · rw [List.mem_singleton.mp hz]; exact hl.2.2
  | is x op s t =>
    show WS K _ [some sw, some (.dat (.tuple [.str "is", .str x, .str op, s.enc, t.enc])), some (.dat (bnd ks)), none, none] M _
    walk_at "f"
    refine ⟨[s, t], ks, false, rfl, ⟨by simp, fun z hz => ?_⟩, hk, q⟩
    rcases List.mem_cons.mp hz with rfl | hz
    · exact hl.2.2.1
    · rw [List.mem_singleton.mp hz]; exact hl.2.2.2
  | count x r ts =>
    show WS K _ [some sw, some (.dat (.tuple [.str "count", .str x, .str r, encT ts])), some (.dat (bnd ks)), none, none] M _
    walk_at "f"
    refine ws_asg ?_
    walk_at "g"
    refine wg_tup (ds := [.str r, encT ts]) rfl rfl (wgs_cons (wg_name (wgs_cons (wg_name (wgs_nil ?_)))))
    show WS K _ [some sw, some (.dat (.tuple [.str "count", .str x, .str r, encT ts])), some (.dat (bnd ks)), some (.str r), some (.dat (encT ts))] M _
    walk_at "f"
    cases e : valG Ws r with
    | none =>
      have e2 : atomP (valG Ws) r ts = some [("no relation" : Str), r] := by unfold atomP; rw [e]
      refine w_dnotIn (w_var rfl (w_var rfl ⟨kvW Ws, .inr r, hW, rfl, ?_⟩))
      refine ⟨true, by rw [show valG (kvW Ws) (.inr r) = none from kvW_none e]; rfl, ?_⟩
      rw [if_pos rfl]
      walk_at "f"
      exact cast (congrArg (fun z => Q (.dat (encOP z)) M) (show litP (valG Ws) ks (.count x r ts) = _ by show (atomP (valG Ws) r ts).or _ = _; rw [e2]; first | done | rfl)) q
    | some n =>
      refine w_dnotIn (w_var rfl (w_var rfl ⟨kvW Ws, .inr r, hW, rfl, ?_⟩))
      refine ⟨false, by rw [kvW_at e]; rfl, ?_⟩
      rw [if_neg Bool.false_ne_true]
      walk_at "f"
      refine w_dget (w_var rfl (w_var rfl ⟨kvW Ws, .inr r, .int n, hW, rfl, kvW_at e, ?_⟩))
      walk_at "f"
      rw [List.length_map]
      refine ite_n (fun h => ?_) (fun h => ?_)
      · have e2 : atomP (valG Ws) r ts = some [("width" : Str), r] := by unfold atomP; rw [e]; exact if_neg h
        walk_at "f"
        exact cast (congrArg (fun z => Q (.dat (encOP z)) M) (show litP (valG Ws) ks (.count x r ts) = _ by show (atomP (valG Ws) r ts).or _ = _; rw [e2]; first | done | rfl)) q
      · have e2 : atomP (valG Ws) r ts = none := by unfold atomP; rw [e]; exact if_pos h
        have e3 : litP (valG Ws) ks (.count x r ts) = if x ∈ varsF ts then some [("own total" : Str), x] else none := by show (atomP (valG Ws) r ts).or _ = _; rw [e2]; rfl
        rw [e3] at q
        walk_at "f"
        refine w2_inTp (d := (Term.variable x).enc) (ds := ts.map Term.enc) (Term.shaped (t := .variable x) hl.1) (encT_shaped hl.2.2) ?_
        rw [any_var]
        walk_at "f"
        refine ite_d (fun h => ?_) (fun h => ?_)
        · rw [if_pos h] at q
          walk_at "f"
          exact q
        · rw [if_neg h] at q
          walk_at "f"
          exact q
def A_once : ASp := fun ss M Q => ∃ vs, ss = [.dat (bnd vs)] ∧ okK vs ∧ Q (.dat (bnd (onceF vs))) M
theorem ok_once (T : Txt K mg a d) : FnOk P w K mg base CX0 1 a.law_each_once d.law_each_once ["_law_names"] (conc K A_once) := by
  refine ab_ok T.F_law_each_once sc_law_each_once (fun ss M Q ⟨vs, e, _⟩ => by subst e; rfl) fun cdv Ar outer s H E hr => ?_
  have hu64 := hr.units
  have hu65 := room65 hr
  refine ⟨_, (pss_one (ps_ret (pe_lc (own := [("_law_k", 1)]) rfl sc_law_each_once.nd (pi_range1 rfl T.n_range (pa_cons (pe_callB (r := rLenS K) call_len_seq (by rfl) T.n_len PySem.boot_len (pa_cons (pv 0) pa_nil)) pa_nil)) (blkOk_by (own := [("_law_k", 1)]) (N := ["_law_names", "_law_k"]) (sc := (defScope s_law_each_once)) (by decide +kernel)) (fun _ _ _ _ _ => (pg_name (i := 1) sc_law_each_once.nd rfl (Or.inl rfl))) (fun _ _ _ _ _ => pts_one (pt_cmpR (r := rNotInD K) (op_notInD hu65) (pe_ix (r := rIxL K) ix_list (pv 0) (pv 1) (fun _ _ => rfl)) (pe_slice (r := rSlL K) sl_list (pv 0) po_none (po_some (pv 1))) (by rfl))) (fun _ _ _ _ _ => (pe_ix (r := rIxL K) ix_list (pv 0) (pv 1) (fun _ _ => rfl)))))), ?_⟩
  rintro ss M Q ⟨vs, rfl, hk, q⟩
  have kl := hk.l
  walk_at "k"
  show WS K _ [some (.dat (bnd vs)), none] M _
  refine ws_ret ?_
  refine w_lcRF (n := vs.length) (M1 := M) (by decide) ?_ (by omega) (fun i => (onceG vs i).map PyData.str) (fun i D o hi hD => ?_) (fun i D o d hi hf hD => ?_) ?_
  · walk_at "g"
    exact ⟨rfl, rfl⟩
  · have hki : okK (vs.take i) := ⟨fun z hz => hk.g z (List.mem_of_mem_take hz), by rw [List.length_take]; omega⟩
    have kli := hki.l
    refine wt_test (w_op (w_op (w_var rfl (w_var rfl (w2_ixTn hi ?_)))))
    refine w_sl (w_var rfl (wo_none (wo_some (w_var rfl ⟨_, rfl, wsl_take ?_⟩))))
    refine w2_notInT (ks := vs.take i) lsv_strs (hk.g _ (List.getElem_mem hi)) hki.g (by omega) ?_
    refine ⟨_, rfl, ?_, rfl⟩
    rw [onceG_at hi]
    by_cases h : vs[i] ∈ vs.take i
    · rw [if_pos h, decide_eq_true h]; rfl
    · rw [if_neg h, decide_eq_false h]; rfl
  · refine w_op (w_var rfl (w_var rfl (w2_ixTn hi ?_)))
    rw [onceG_at hi] at hf
    by_cases h : vs[i] ∈ vs.take i
    · rw [if_pos h] at hf; cases hf
    · rw [if_neg h] at hf
      cases hf
      exact ⟨rfl, rfl⟩
  · have e : bnd (onceF vs) = .list ((List.range vs.length).filterMap fun i => (onceG vs i).map PyData.str) := by
      show PyData.list ((onceF vs).map .str) = _
      unfold onceF
      rw [List.map_filterMap]
    rw [← e]
    exact q
def A_bproblem (K : PySem.W.Frag) : ASp := fun ss M Q => ∃ s Ws b, ss = [s, .dat (encB b)] ∧ DcV K s M (kvW Ws) ∧ okB b ∧ b.length ≤ 60 ∧ (∀ p bs, bodyE (valG Ws) [] b = .inl p → Q (.dat (.tuple [encP p, bnd bs])) M) ∧ (∀ ks, bodyE (valG Ws) [] b = .inr ks → Q (.dat (.tuple [.none, bnd ks])) M)
theorem ok_bproblem (T : Txt K mg a d) : FnOk P w K mg base CX0 3 a.law_body_problem d.law_body_problem ["_law_widths_here", "_law_body_here"] (conc K (A_bproblem K)) := by
  have G_law_literal_problem : FnOk P w K mg base CX0 2 a.law_literal_problem d.law_literal_problem ["_law_widths_here", "_law_literal_here", "_law_bound"] (conc K (A_problem K)) := ok_problem T
  have G_law_each_once : FnOk P w K mg base CX0 1 a.law_each_once d.law_each_once ["_law_names"] (conc K A_once) := ok_once T
  have G_law_binds : FnOk P w K mg base CX0 1 a.law_binds d.law_binds ["_law_literal_here"] (conc K A_binds) := ok_binds T
  refine ab_ok T.F_law_body_problem sc_law_body_problem (fun ss M Q ⟨s, Ws, b, e, _⟩ => by subst e; rfl) fun cdv Ar outer s H E hr => ?_
  have hu64 := hr.units
  have hu65 := room65 hr
  refine ⟨_, (pss_cons (ps_set (i := 2) sc_law_body_problem.nd rfl (Or.inr rfl) (pe_lst pa_nil))
  (pss_cons (ps_for PassesOwn.never rfl (pi_tup (pv 1)) (pg_name (i := 3) sc_law_body_problem.nd rfl (Or.inl rfl)) (pss_cons (ps_set (i := 4) sc_law_body_problem.nd rfl (Or.inl rfl) (pe_call G_law_literal_problem (hr.mono (by omega)) (by rfl) T.g_law_literal_problem T.F_law_literal_problem.kp T.b_law_literal_problem .nil pass0 (pa_cons (pv 0) (pa_cons (pv 3) (pa_cons (pv 2) pa_nil)))))
  (pss_cons (ps_if (pt_cmpR op_notN (pv 4) pe_non (nomark _)) (pss_one (ps_ret (pe_tup (pa_cons (pv 4) (pa_cons (pv 2) pa_nil))))) pss_nil)
  (pss_one (ps_set (i := 2) sc_law_body_problem.nd rfl (Or.inr rfl) (pe_op (r := rCatL K) op_catL (pv 2) (pe_lc (own := [("_law_name", 5)]) rfl sc_law_body_problem.nd (pi_list (pe_call G_law_each_once (hr.mono (by omega)) (by rfl) T.g_law_each_once T.F_law_each_once.kp T.b_law_each_once .nil pass0 (pa_cons (pe_call G_law_binds (hr.mono (by omega)) (by rfl) T.g_law_binds T.F_law_binds.kp T.b_law_binds .nil pass0 (pa_cons (pv 3) pa_nil)) pa_nil))) (blkOk_by (own := [("_law_name", 5)]) (N := ["_law_widths_here", "_law_body_here", "_law_bound", "_law_literal_here", "_law_problem", "_law_name"]) (sc := (defScope s_law_body_problem)) (by decide +kernel)) (fun _ _ _ _ _ => (pg_name (i := 5) sc_law_body_problem.nd rfl (Or.inl rfl))) (fun _ _ _ _ _ => pts_one (pt_cmpR (r := rNotInD K) (op_notInD hu65) (pv 5) (pv 2) (by rfl))) (fun _ _ _ _ _ => (pv 5)))))))))
  (pss_one (ps_ret (pe_tup (pa_cons pe_non (pa_cons (pv 2) pa_nil))))))), ?_⟩
  rintro ss M Q ⟨sw, Ws, b, rfl, hW, hb, hbl, q1, q2⟩
  walk_at "k"
  show WS K _ [some sw, some (.dat (encB b)), none, none, none, none] M _
  refine ws_seq (ws_set (w_lstD (wa_nil ⟨[], rfl, by simp, ?_⟩)))
  refine ws_seq (ws_forT (xs := b) (enc := Lit.enc) (M1 := M) (w_var rfl ⟨rfl, rfl⟩) (fun pre ρ' M' => ∃ ks z3 z4 z5, ρ' = [some sw, some (.dat (encB b)), some (.dat (bnd ks)), z3, z4, z5] ∧ M' = M ∧ (∀ post, b = pre ++ post → bodyE (valG Ws) [] b = bodyE (valG Ws) ks post) ∧ ks.length ≤ 1000 * pre.length ∧ ∀ z ∈ ks, goodS z = true) ⟨[], none, none, none, rfl, rfl, fun post e => by rw [e]; rfl, by simp, fun z hz => (nomatch hz)⟩ ?_ ?_)
  · rintro pre l post ρ' M' hx ⟨ks, z3, z4, z5, rfl, rfl, hbe, hn, hg⟩
    have hl : l.ok := hb.2 l (by rw [hx]; simp)
    have hpl : pre.length + 1 ≤ b.length := by rw [hx, List.length_append, List.length_cons]; omega
    have hbl2 := bindsF_len hl
    have hbg := bindsF_good hl
    have hbe1 := hbe (l :: post) hx
    have hk : okK ks := ⟨hg, by omega⟩
    refine wg_name ?_
    walk_at "g"
    refine ws_seq (ws_set ?_)
    walk_at "g"
    refine ⟨sw, Ws, l, ks, rfl, hW, hl, hk, ?_⟩
    cases e : litP (valG Ws) ks l with
    | some p =>
      have hbe2 : bodyE (valG Ws) [] b = .inl p := by rw [hbe1]; unfold bodyE; rw [e]
      have q3 := q1 p ks hbe2
      show WS K _ [some sw, some (.dat (encB b)), some (.dat (bnd ks)), some (.dat (Lit.enc l)), some (.dat (encP p)), z5] M' _
      walk_at "f"
      exact q3
    | none =>
      have hbe2 : bodyE (valG Ws) [] b = bodyE (valG Ws) (addK ks (bindsF l)) post := by rw [hbe1]; conv => lhs; unfold bodyE; rw [e]
      show WS K _ [some sw, some (.dat (encB b)), some (.dat (bnd ks)), some (.dat (Lit.enc l)), some (.dat .none), z5] M' _
      walk_at "f"
      have ol := onceF_len (bindsF l)
      refine w_lcF (enc := PyData.str) (xs := onceF (bindsF l)) (M1 := M') (by decide) ?_ (by omega) (fun z => !decide (z ∈ ks)) PyData.str (fun z D2 o hz hD5 => ?_) (fun z D2 o hz hf hD5 => ?_) ?_
      · walk_at "f"
        refine ⟨l, rfl, hl, ?_⟩
        walk_at "f"
        exact ⟨bindsF l, rfl, ⟨hbg, by omega⟩, rfl, rfl⟩
      · walk_at "f"
        refine w2_notInT (ks := ks) lsv_strs (hbg z (onceF_mem hz)) hg (by omega) ?_
        exact ⟨_, rfl, rfl, rfl⟩
      · walk_at "f"
        exact ⟨rfl, rfl⟩
      · have fl := List.length_filter_le (fun z => !decide (z ∈ ks)) (onceF (bindsF l))
        have al := addK_len (bindsF l) ks
        refine w2_cat lsv_dat lsv_dat (by rw [List.length_map, List.length_map]; omega) ?_
        refine ⟨addK ks (bindsF l), _, _, _, by rw [← List.map_append, ← addK_once]; rfl, rfl, fun post' e' => ?_, by rw [List.length_append, List.length_cons, List.length_nil]; omega, addK_good hg hbg⟩
        have : post' = post := by
          rw [hx, List.append_assoc] at e'
          exact (List.cons.inj (List.append_cancel_left e')).2.symm
        rw [this]
        exact hbe2
  · rintro ρ' M' ⟨ks, z3, z4, z5, rfl, rfl, hbe, hn, hg⟩
    have q3 := q2 ks (hbe [] (by simp))
    walk_at "f"
    exact q3
end
end
section
local macro_rules | `(tactic| walk_at "fl") => `(tactic| with_reducible first | exact sl_r _ | exact sl_f _ | exact sl_u _ | exact sl_n _)
section
variable {w : World} {K : PySem.W.Frag} {mg : Str → Option Value} {base : Heap} {a : AD} {d : FD}
abbrev kvRu (rul : List (Str × Rul)) : List (Key × Sl) := rul.map fun p => (.inr p.1, .dat p.2.enc)
def A_widths : ASp := fun ss M Q => ∃ wd dr du kw rel rul, ss = [.raw (.ref wd)] ∧ M wd = some (.dK kw) ∧ valG kw (.inr "relations") = some (.raw (.ref dr)) ∧ valG kw (.inr "rules") = some (.raw (.ref du)) ∧ M dr = some (.dK (kvW rel)) ∧ M du = some (.dK (kvRu rul)) ∧ wd ≠ du ∧ (rul.map (·.1)).Nodup ∧ rul.length ≤ 1000 ∧ rel.length ≤ 1000 ∧
  ∀ p, M p = none → Q (.raw (.ref p)) (Ab.um M p (.dK (kvW (widthsF rel rul))))
theorem ok_widths (T : Txt K mg a d) : FnOk P w K mg base CX0 1 a.law_widths d.law_widths ["_law_world"] (conc K A_widths) := by
  refine ab_ok T.F_law_widths sc_law_widths (fun ss M Q ⟨wd, dr, du, kw, rel, rul, e, _⟩ => by subst e; rfl) fun cdv Ar outer s H E hr => ?_
  have hu64 := hr.units
  refine ⟨_, (pss_cons (ps_set (i := 1) sc_law_widths.nd rfl (Or.inl rfl) pe_dnewK)
  (pss_cons (ps_lock (ps_for PassesOwn.never rfl (pi_keys (pe_dget (hu1 hu64) (pv 0) pe_str (fun _ _ => rfl))) (pg_name (i := 2) sc_law_widths.nd rfl (Or.inl rfl)) (pss_one (ps_dput (hu1 hu64) (pv 1) (pe_ix (r := rIxT K) ix_tup (pe_dget (hu1 hu64) (pe_dget (hu1 hu64) (pv 0) pe_str (fun _ _ => rfl)) (pv 2) (fun _ _ => rfl)) pe_int (fun _ _ => rfl)) (pe_callB (r := rLenS K) call_len_seq (by rfl) T.n_len PySem.boot_len (pa_cons (pe_ix (r := rIxT K) ix_tup (pe_dget (hu1 hu64) (pe_dget (hu1 hu64) (pv 0) pe_str (fun _ _ => rfl)) (pv 2) (fun _ _ => rfl)) pe_int (fun _ _ => rfl)) pa_nil)) rfl))))
  (pss_cons (ps_expr (pe_bm PySem.F.plainAttrs_dict PySem.F.slot_dict_update PySem.F.type_dict_update (r := rUpdate) mt_update (pv 1) (pa_cons (pe_dget (hu1 hu64) (pv 0) pe_str (fun _ _ => rfl)) pa_nil)))
  (pss_one (ps_ret (pv 1)))))), ?_⟩
  rintro ss M Q ⟨wd, dr, du, kw, rel, rul, rfl, hw, hv1, hv2, hr1, hu1, hne, nd, ru, rl, q⟩
  walk_at "k"
  show WS K _ [some (.raw (.ref wd)), none, none] M _
  refine ws_seq (ws_set (w_dnew fun p hp => ?_))
  have pw : wd ≠ p := fun z => by rw [z, hp] at hw; cases hw
  have pr : dr ≠ p := fun z => by rw [z, hp] at hr1; cases hr1
  have pu : du ≠ p := fun z => by rw [z, hp] at hu1; cases hu1
  have hu2 : ∀ x, Ab.um M p x du = some (.dK (kvRu rul)) := fun x => by rw [um_ne pu]; exact hu1
  refine ws_mid (fun ρ' M' => (∃ z, ρ' = [some (.raw (.ref wd)), some (.raw (.ref p)), z]) ∧ M' = Ab.um M p (.dK (kvW (putW [] rul)))) ?_ ?_
  · refine ws_lock (hu2 _) fun od v => ?_
    have hw2 : ∀ x y, Ab.um (Ab.um M p x) du y wd = some (.dK kw) := fun x y => by rw [um_ne hne, um_ne pw]; exact hw
    refine ws_for (wi_keys (w_dget (w_var rfl (w_str ⟨kw, .inr "rules", _, dcv_ref (hw2 _ _), rfl, hv2, du, od, v, kvRu rul, rfl, um_same, fun i ρ' M' => (∃ z, ρ' = [some (.raw (.ref wd)), some (.raw (.ref p)), z]) ∧ M' = Ab.um (Ab.um M p (.dK (kvW (putW [] (rul.take i))))) du (.frz od v (.dK (kvRu rul))), ⟨⟨none, rfl⟩, rfl⟩, fun i ρ' M' _ h => ?_, fun i ρ' M' hi h => ?_, fun ρ' M' h => ?_⟩))))
    · rw [h.2]
      exact um_same
    · obtain ⟨⟨z, rfl⟩, rfl⟩ := h
      have hi' : i < rul.length := by rw [List.length_map] at hi; exact hi
      have gi : ((kvRu rul).map fun q => kS q.1).getD i .non = .str rul[i].1 := by
        rw [List.getD_eq_getElem?_getD, List.map_map, List.getElem?_map, List.getElem?_eq_getElem hi']
        rfl
      have vu : valG (kvRu rul) (.inr rul[i].1) = some (.dat rul[i].2.enc) := by
        have := valG_inr (fun u : Rul => Sl.dat u.enc) rul[i].1 rul
        have e0 : valG rul rul[i].1 = some rul[i].2 := valG_nodup nd (List.getElem_mem hi')
        rw [e0] at this
        exact this
      dsimp only
      rw [gi]
      refine wg_name ?_
      have tl : (rul.take i).length ≤ rul.length := by rw [List.length_take]; omega
      have pl := putW_len (rul.take i)
      have el : rul.take (i + 1) = rul.take i ++ [rul[i]] := List.take_succ_eq_append_getElem hi'
      have at_ : ∀ (ρ2 : Rho) (Q2 : Sl → MH → Prop) (x y : MO), ρ2 = [some (.raw (.ref wd)), some (.raw (.ref p)), some (.str rul[i].1)] → y = .frz od v (.dK (kvRu rul)) → Q2 (.dat rul[i].2.enc) (um (um M p x) du y) → W K (tDGet (tDGet (tVar 0) (tC (.str "rules"))) (tVar 2)) ρ2 (um (um M p x) du y) Q2 := fun ρ2 Q2 x y e1 e2 q2 => by
        subst e1 e2
        exact w_dget (w_dget (w_var rfl (w_str ⟨kw, .inr "rules", _, dcv_ref (hw2 _ _), rfl, hv2, w_var rfl ⟨kvRu rul, .inr rul[i].1, _, dcv_frz um_same, rfl, vu, q2⟩⟩)))
      generalize rul[i] = u at gi vu at_ el
      refine ws_dput (w_cb (wa_cons (w_op (at_ _ _ _ _ rfl rfl (w_int (w2_ixT rfl (wa_nil (wl_lenT tpv_dat ?_))))))))
      refine w_var rfl (w_op (at_ _ _ _ _ rfl rfl (w_int (w2_ixT rfl ?_))))
      refine ⟨p, kvW (putW [] (rul.take i)), .inr u.2.rel, rfl, rfl, by rw [um_ne pu.symm, um_same], by unfold kvW; rw [List.length_map]; omega, ?_⟩
      rw [um_comm pu, um_um, el, putW_snoc, List.length_map, List.length_map, ← kvW_put]
      exact ⟨⟨_, rfl⟩, rfl⟩
    · obtain ⟨⟨z, rfl⟩, rfl⟩ := h
      refine ⟨um_same, ⟨_, rfl⟩, ?_⟩
      rw [um_um, um_id (hu2 _), List.length_map, List.take_length]
  · rintro ρ' M' ⟨⟨z, rfl⟩, rfl⟩
    have pl := putW_len rul
    walk_at "f"
    refine w_bm (w_var rfl ⟨ty_dct um_same, ?_⟩)
    refine wa_cons (w_dget (w_var rfl (w_str ⟨kw, .inr "relations", _, dcv_ref (by rw [um_ne pw]; exact hw), rfl, hv1, ?_⟩)))
    refine wa_nil (wm_updateM um_same (by rw [um_ne pr]; exact hr1) pr (by unfold kvW; rw [List.length_map, List.length_map]; omega) ?_)
    rw [um_um, kvW_merge]
    walk_at "f"
    exact q p hp
end
end
section
local macro_rules | `(tactic| walk_at "fl") => `(tactic| with_reducible first | exact sl_r _ | exact sl_f _ | exact sl_u _ | exact sl_n _)
section
variable {w : World} {K : PySem.W.Frag} {mg : Str → Option Value} {base : Heap} {a : AD} {d : FD}
def A_relsof : ASp := fun ss M Q => ∃ b, ss = [.dat (encB b)] ∧ okB b ∧ ∀ p, M p = none → Q (.raw (.ref p)) (Ab.um M p (.lst ((relsOf b).map fun e => .dat (encE e))))
theorem ok_relations_of (T : Txt K mg a d) : FnOk P w K mg base CX0 1 a.relations_of d.relations_of ["body"] (conc K A_relsof) := by
  refine ab_ok T.F_relations_of sc_relations_of (fun ss M Q ⟨b, e, _⟩ => by subst e; rfl) fun cdv Ar outer s H E hr => ?_
  have hu64 := hr.units
  have hu65 := room65 hr
  refine ⟨_, (pss_cons (ps_set (i := 1) sc_relations_of.nd rfl (Or.inl rfl) (pe_lst pa_nil))
  (pss_cons (ps_for PassesOwn.never rfl (pi_tup (pv 0)) (pg_name (i := 2) sc_relations_of.nd rfl (Or.inl rfl)) (pss_one (ps_if (pt_cmpR (r := rInTp K) (op_inTp hu65) (pe_ix (r := rIxT K) ix_tup (pv 2) pe_int (fun _ _ => rfl)) (pe_tup (pa_cons pe_str (pa_cons pe_str pa_nil))) (by rfl)) (pss_one (ps_expr (pe_bm PySem.F.plainAttrs_list PySem.F.slot_list_append PySem.F.type_list_append mt_append (pv 1) (pa_cons (pe_tup (pa_cons (pe_ix (r := rIxT K) ix_tup (pv 2) pe_int (fun _ _ => rfl)) (pa_cons (pe_cmpR (r := rEqD K) (op_eqD hu64) (pe_ix (r := rIxT K) ix_tup (pv 2) pe_int (fun _ _ => rfl)) pe_str (nomark _)) pa_nil))) pa_nil)))) (pss_one (ps_if (pt_cmpR (r := rEqD K) (op_eqD hu64) (pe_ix (r := rIxT K) ix_tup (pv 2) pe_int (fun _ _ => rfl)) pe_str (nomark _)) (pss_one (ps_expr (pe_bm PySem.F.plainAttrs_list PySem.F.slot_list_append PySem.F.type_list_append mt_append (pv 1) (pa_cons (pe_tup (pa_cons (pe_ix (r := rIxT K) ix_tup (pv 2) pe_int (fun _ _ => rfl)) (pa_cons pe_bl pa_nil))) pa_nil)))) pss_nil)))))
  (pss_one (ps_ret (pv 1))))), ?_⟩
  rintro ss M Q ⟨b, rfl, hb, q⟩
  walk_at "k"
  show WS K _ [some (.dat (encB b)), none, none] M _
  refine ws_seq (ws_set (w_lstM (wa_nil ⟨by decide, fun p hp => ?_⟩)))
  have bl := hb.1
  refine ws_seq (ws_forT (xs := b) (enc := Lit.enc) (M1 := Ab.um M p (.lst [])) (w_var rfl ⟨rfl, rfl⟩) (fun pre ρ' M' => (∃ z, ρ' = [some (.dat (encB b)), some (.raw (.ref p)), z]) ∧ M' = Ab.um M p (.lst ((relsOf pre).map fun e => .dat (encE e)))) ⟨⟨none, rfl⟩, rfl⟩ ?_ ?_)
  · rintro pre l post ρ' M' hx ⟨⟨z, rfl⟩, rfl⟩
    have hpl : pre.length + 1 ≤ b.length := by rw [hx, List.length_append, List.length_cons]; omega
    have rl := relsOf_len pre
    rw [relsOf_snoc]
    have app : ∀ (e : Str × Bool) (te : TE) (ρ2 : Rho) (C bk ct : Rho → MH → Prop) (rt : Sl → MH → Prop), ρ2[1]? = some (some (.raw (.ref p))) → (∀ Q2 : Sl → MH → Prop, Q2 (.dat (encE e)) (Ab.um M p (.lst ((relsOf pre).map fun e => .dat (encE e)))) → W K te ρ2 (Ab.um M p (.lst ((relsOf pre).map fun e => .dat (encE e)))) Q2) →
        C ρ2 (Ab.um M p (.lst ((relsOf pre ++ [e]).map fun e => .dat (encE e)))) → WS K (tDrop (tBM K "list" rAppend (tVar 1) (tCons te tNil))) ρ2 (Ab.um M p (.lst ((relsOf pre).map fun e => .dat (encE e)))) ⟨C, rt, bk, ct⟩ := fun e te ρ2 C bk ct rt e1 hte hC => by
      refine ws_drop (w_bm (w_var e1 ⟨ty_lst (lsv_ref um_same), wa_cons (hte _ (wa_nil (wm_append um_same (by rw [List.length_map]; omega) ?_)))⟩))
      rw [um_um]
      rw [List.map_append] at hC
      exact hC
    have inF : ∀ (z : Str) (M : MH) (Q : Sl → MH → Prop), goodS z = true → Q (.bl (decide (z ∈ [("fact" : Str), "not"]))) M → W2 K (rInTp K) (.dat (.str z)) (.dat (.tuple [.str "fact", .str "not"])) M Q := fun z M Q hz q => w2_inTT (ks := [("fact" : Str), "not"]) hz (by decide +kernel) (by decide) q
    refine wg_name ?_
    cases l with
    | fact r ts =>
      show WS K _ [some (.dat (encB b)), some (.raw (.ref p)), some (.dat (.tuple [.str "fact", .str r, encT ts]))] _ _
      walk_at "f"
      refine inF _ _ _ (by decide +kernel) ⟨_, rfl, ?_⟩
      rw [if_pos (by decide +kernel)]
      refine app (r, false) _ _ _ _ _ _ rfl (fun Q2 q2 => ?_) ⟨⟨_, rfl⟩, rfl⟩
      walk_at "g"
      exact q2
    | neg r ts =>
      show WS K _ [some (.dat (encB b)), some (.raw (.ref p)), some (.dat (.tuple [.str "not", .str r, encT ts]))] _ _
      walk_at "f"
      refine inF _ _ _ (by decide +kernel) ⟨_, rfl, ?_⟩
      rw [if_pos (by decide +kernel)]
      refine app (r, true) _ _ _ _ _ _ rfl (fun Q2 q2 => ?_) ⟨⟨_, rfl⟩, rfl⟩
      walk_at "g"
      exact q2
    | compare op s t =>
      show WS K _ [some (.dat (encB b)), some (.raw (.ref p)), some (.dat (.tuple [.str "compare", .str op, s.enc, t.enc]))] _ _
      walk_at "f"
      refine inF _ _ _ (by decide +kernel) ⟨_, rfl, ?_⟩
      rw [if_neg (by decide +kernel)]
      walk_at "f"
      exact ⟨⟨_, rfl⟩, by rw [show relF (.compare op s t) = none from rfl, List.append_nil]⟩
    | is x op s t =>
      show WS K _ [some (.dat (encB b)), some (.raw (.ref p)), some (.dat (.tuple [.str "is", .str x, .str op, s.enc, t.enc]))] _ _
      walk_at "f"
      refine inF _ _ _ (by decide +kernel) ⟨_, rfl, ?_⟩
      rw [if_neg (by decide +kernel)]
      walk_at "f"
      exact ⟨⟨_, rfl⟩, by rw [show relF (.is x op s t) = none from rfl, List.append_nil]⟩
    | count x r ts =>
      show WS K _ [some (.dat (encB b)), some (.raw (.ref p)), some (.dat (.tuple [.str "count", .str x, .str r, encT ts]))] _ _
      walk_at "f"
      refine inF _ _ _ (by decide +kernel) ⟨_, rfl, ?_⟩
      rw [if_neg (by decide +kernel)]
      refine ws_if (wt_test (w_op (w_op (w_var rfl (w_int (w2_ixT rfl (w_str (w2_eqS (by decide +kernel) (by decide +kernel) ⟨_, rfl, ?_⟩))))))))
      rw [if_pos (by decide +kernel)]
      refine app (r, true) _ _ _ _ _ _ rfl (fun Q2 q2 => ?_) ⟨⟨_, rfl⟩, rfl⟩
      walk_at "g"
      exact q2
  · rintro ρ' M' ⟨⟨z, rfl⟩, rfl⟩
    walk_at "f"
    exact q p hp
def A_makes : ASp := fun ss M Q => ∃ b, ss = [.dat (encB b)] ∧ okB b ∧ ∀ M', (∀ x u, M x = some u → M' x = some u) → Q (.bl (makesE [] b)) M'
theorem ok_makes (T : Txt K mg a d) : FnOk P w K mg base CX0 2 a.makes d.makes ["body"] (conc K A_makes) := by
  have G_variables_of : FnOk P w K mg base CX0 1 a.variables_of d.variables_of ["terms"] (conc K A_vars) := ok_variables_of T
  refine ab_ok T.F_makes sc_makes (fun ss M Q ⟨b, e, _⟩ => by subst e; rfl) fun cdv Ar outer s H E hr => ?_
  have hu64 := hr.units
  have hu65 := room65 hr
  refine ⟨_, (pss_cons (ps_set (i := 1) sc_makes.nd rfl (Or.inl rfl) (pe_lst pa_nil))
  (pss_cons (ps_for PassesOwn.never rfl (pi_tup (pv 0)) (pg_name (i := 2) sc_makes.nd rfl (Or.inl rfl)) (pss_one (ps_if (pt_cmpR (r := rEqD K) (op_eqD hu64) (pe_ix (r := rIxT K) ix_tup (pv 2) pe_int (fun _ _ => rfl)) pe_str (nomark _)) (pss_one (ps_expr (pe_bm PySem.F.plainAttrs_list PySem.F.slot_list_extend PySem.F.type_list_extend mt_extend (pv 1) (pa_cons (pe_call G_variables_of (hr.mono (by omega)) (by rfl) T.g_variables_of T.F_variables_of.kp T.b_variables_of .nil pass0 (pa_cons (pe_ix (r := rIxT K) ix_tup (pv 2) pe_int (fun _ _ => rfl)) pa_nil)) pa_nil)))) (pss_one (ps_if (pt_cmpR (r := rEqD K) (op_eqD hu64) (pe_ix (r := rIxT K) ix_tup (pv 2) pe_int (fun _ _ => rfl)) pe_str (nomark _)) (pss_one (ps_expr (pe_bm PySem.F.plainAttrs_list PySem.F.slot_list_append PySem.F.type_list_append mt_append (pv 1) (pa_cons (pe_ix (r := rIxT K) ix_tup (pv 2) pe_int (fun _ _ => rfl)) pa_nil)))) (pss_one (ps_if (pt_cmpR (r := rEqD K) (op_eqD hu64) (pe_ix (r := rIxT K) ix_tup (pv 2) pe_int (fun _ _ => rfl)) pe_str (nomark _)) (pss_one (ps_if (pt_cmpR (r := rNotInD K) (op_notInD hu65) (pe_ix (r := rIxT K) ix_tup (pv 2) pe_int (fun _ _ => rfl)) (pv 1) (by rfl)) (pss_one (ps_ret pe_bl)) pss_nil)) pss_nil)))))))
  (pss_one (ps_ret pe_bl)))), ?_⟩
  rintro ss M Q ⟨b, rfl, hb, q⟩
  walk_at "k"
  show WS K _ [some (.dat (encB b)), none, none] M _
  refine ws_seq (ws_set (w_lstM (wa_nil ⟨by decide, fun p hp => ?_⟩)))
  have bl := hb.1
  have ext : ∀ x y u, M y = some u → Ab.um M p x y = some u := fun x y u hy => by rw [um_ne fun z => by rw [z, hp] at hy; cases hy]; exact hy
  refine ws_seq (ws_forT (xs := b) (enc := Lit.enc) (M1 := Ab.um M p (.lst [])) (w_var rfl ⟨rfl, rfl⟩) (fun pre ρ' M' => ∃ k z, ρ' = [some (.dat (encB b)), some (.raw (.ref p)), z] ∧ M' = Ab.um M p (.lst ((k.map PyData.str).map .dat)) ∧ (∀ post, b = pre ++ post → makesE [] b = makesE k post) ∧ k.length ≤ 1000 * pre.length ∧ ∀ z ∈ k, goodS z = true) ⟨[], none, rfl, rfl, fun post e => by rw [e]; rfl, by simp, fun _ h => nomatch h⟩ ?_ ?_)
  · rintro pre l post ρ' M' hx ⟨k, z, rfl, rfl, hm, hk, hg⟩
    have hl : l.ok := hb.2 l (by rw [hx]; simp)
    have hpl : pre.length + 1 ≤ b.length := by rw [hx, List.length_append, List.length_cons]; omega
    have hm1 := hm (l :: post) hx
    have hbl := bindsF_len hl
    have hbg := bindsF_good hl
    have next : ∀ k', makesE k (l :: post) = makesE k' post → ∀ post', b = (pre ++ [l]) ++ post' → makesE [] b = makesE k' post' := fun k' e post' e' => by
      have : post' = post := by
        rw [hx, List.append_assoc] at e'
        exact (List.cons.inj (List.append_cancel_left e')).2.symm
      rw [this, hm1, e]
    refine wg_name ?_
    cases l with
    | fact r ts =>
      show WS K _ [some (.dat (encB b)), some (.raw (.ref p)), some (.dat (.tuple [.str "fact", .str r, encT ts]))] _ _
      walk_at "f"
      refine w_bm (w_var rfl ⟨ty_lst (lsv_ref um_same), ?_⟩)
      walk_at "f"
      refine ⟨ts, rfl, hl.2, ?_⟩
      walk_at "f"
      have vl := varsF_len ts
      have tl := hl.2.1
      refine wm_extendD um_same (by rw [List.length_map, List.length_map, List.length_map]; omega) ?_
      rw [um_um]
      exact ⟨k ++ varsF ts, _, rfl, by rw [List.map_append, List.map_append], next _ rfl, by rw [List.length_append, List.length_append]; simp; omega, fun z hz => (List.mem_append.mp hz).elim (hg z) (hbg z)⟩
    | neg r ts =>
      show WS K _ [some (.dat (encB b)), some (.raw (.ref p)), some (.dat (.tuple [.str "not", .str r, encT ts]))] _ _
      walk_at "f"
      exact ⟨k, _, rfl, rfl, next k (show makesE (k ++ []) post = _ by rw [List.append_nil]), by rw [List.length_append]; simp; omega, hg⟩
    | compare op s t =>
      show WS K _ [some (.dat (encB b)), some (.raw (.ref p)), some (.dat (.tuple [.str "compare", .str op, s.enc, t.enc]))] _ _
      walk_at "f"
      exact ⟨k, _, rfl, rfl, next k (show makesE (k ++ []) post = _ by rw [List.append_nil]), by rw [List.length_append]; simp; omega, hg⟩
    | is x op s t =>
      show WS K _ [some (.dat (encB b)), some (.raw (.ref p)), some (.dat (.tuple [.str "is", .str x, .str op, s.enc, t.enc]))] _ _
      walk_at "f"
      refine w2_notInT (ks := k) (lsv_ref (M := Ab.um M p (.lst ((k.map PyData.str).map .dat))) (xs := k.map fun y => Sl.str y) (by rw [um_same, List.map_map]; rfl)) hl.1 hg (by omega) ⟨_, rfl, ?_⟩
      have e0 : makesE k (.is x op s t :: post) = if x ∈ k then makesE k post else true := rfl
      by_cases hx2 : x ∈ k
      · rw [if_neg (by simp [hx2])]
        rw [if_pos hx2] at e0
        exact ws_next ⟨k, _, rfl, rfl, next k e0, by rw [List.length_append]; simp; omega, hg⟩
      · rw [if_pos (by simp [hx2])]
        rw [if_neg hx2] at e0
        rw [hm1, e0] at q
        walk_at "f"
        exact q _ (ext _)
    | count x r ts =>
      show WS K _ [some (.dat (encB b)), some (.raw (.ref p)), some (.dat (.tuple [.str "count", .str x, .str r, encT ts]))] _ _
      walk_at "f"
      refine w_bm (w_var rfl ⟨ty_lst (lsv_ref um_same), ?_⟩)
      walk_at "f"
      refine wm_append um_same (by rw [List.length_map, List.length_map]; omega) ?_
      rw [um_um]
      exact ⟨k ++ [x], _, rfl, by rw [List.map_append, List.map_append]; rfl, next _ rfl, by rw [List.length_append, List.length_append]; simp; omega, fun z hz => (List.mem_append.mp hz).elim (hg z) (fun h => by rw [List.mem_singleton.mp h]; exact hl.1)⟩
  · rintro ρ' M' ⟨k, z, rfl, rfl, hm, hk, hg⟩
    have e := hm [] (by simp)
    walk_at "f"
    rw [e] at q
    exact q _ (ext _)
end
end
section
local macro_rules | `(tactic| walk_at "fl") => `(tactic| with_reducible first | exact sl_r _ | exact sl_f _ | exact sl_u _ | exact sl_n _)
section
variable {w : World} {K : PySem.W.Frag} {mg : Str → Option Value} {base : Heap} {a : AD} {d : FD}
def A_edges (C : Addr) : ASp := fun ss M Q => ∃ A c, ss = [.raw (.ref (SA.o A))] ∧ SeAt C M A c ∧ CtOk c ∧ Ct.small c ∧ ∀ M' g fa, GrAt M' g fa (edgesF (c.rul.map (·.2))) → GrFr M M' g fa → Q (.raw (.ref g)) M'
theorem ok_edges (T : Txt K mg a d) : FnOk P w K mg base CX0 2 a.edges d.edges ["state"] (conc K (A_edges a.State)) := by
  have cl := T.cl_State
  have n3 := T.na_State_rules
  have G_relations_of : FnOk P w K mg base CX0 1 a.relations_of d.relations_of ["body"] (conc K A_relsof) := ok_relations_of T
  refine ab_ok T.F_edges sc_edges (fun ss M Q ⟨A, c, e, _⟩ => by subst e; rfl) fun cdv Ar outer s H E hr => ?_
  have hu64 := hr.units
  refine ⟨_, (pss_cons (ps_set (i := 1) sc_edges.nd rfl (Or.inl rfl) pe_dnewK)
  (pss_cons (ps_lock (ps_for PassesOwn.never rfl (pi_values (pe_fld (pv 0) rfl)) (pg_tupK (K := K) (n := 3) rfl rfl (pgs_cons (pg_name (i := 2) sc_edges.nd rfl (Or.inl rfl)) (pgs_cons (pg_name (i := 3) sc_edges.nd rfl (Or.inl rfl)) (pgs_cons (pg_name (i := 4) sc_edges.nd rfl (Or.inl rfl)) pgs_nil)))) (pss_one (ps_expr (pe_bm PySem.F.plainAttrs_list PySem.F.slot_list_extend PySem.F.type_list_extend mt_extend (pe_dsetd (pv 1) (pv 2) (pe_lst pa_nil) ⟨rfl, rfl, rfl, rfl⟩) (pa_cons (pe_call G_relations_of (hr.mono (by omega)) (by rfl) T.g_relations_of T.F_relations_of.kp T.b_relations_of .nil pass0 (pa_cons (pv 4) pa_nil)) pa_nil))))))
  (pss_one (ps_ret (pv 1))))), ?_⟩
  rintro ss M Q ⟨A, c, rfl, h, hc, hs, q⟩
  walk_at "k"
  show WS K _ [some (.raw (.ref A.o)), none, none, none, none] M _
  refine ws_seq (ws_set (w_dnew fun g hg => ?_))
  have h0 := h.um (x := .dK []) (h.new hg)
  have ug : A.u ≠ g := fun z => by have := h.hu; rw [z, hg] at this; cases this
  have og : A.o ≠ g := fun z => by have := h.ho; rw [z, hg] at this; cases this
  have uo := h.oo.2.2.1
  have s2 := hs.2.1
  have hkl : (kvU c).length = c.rul.length := by unfold kvU; rw [List.length_map]
  refine ws_mid (fun ρ' M' => (∃ z2 z3 z4, ρ' = [some (.raw (.ref A.o)), some (.raw (.ref g)), z2, z3, z4]) ∧ ∃ fa, GrAt M' g fa (edgesF (c.rul.map (·.2))) ∧ GrFr M M' g fa) ?_ ?_
  · refine ws_lock h0.hu fun od v => ?_
    refine ws_for (wi_vals (w_fldI rfl (show Ab.um (Ab.um M g (.dK [])) A.u _ A.o = some (.ins a.State A.dx (sfld A)) by rw [um_ne uo.symm]; exact h0.ho) cl n3 (sl_u _) ⟨A.u, od, v, kvU c, rfl, um_same, fun i ρ' M' => (∃ z2 z3 z4, ρ' = [some (.raw (.ref A.o)), some (.raw (.ref g)), z2, z3, z4]) ∧ M' A.u = some (.frz od v (.dK (kvU c))) ∧ ∃ fa, GrAt M' g fa (edgesF ((c.rul.map (·.2)).take i)) ∧ (∀ n, valG fa n ≠ some A.u) ∧ ∀ b u, M b = some u → (b ≠ A.u → M' b = some u) ∧ b ≠ g ∧ ∀ n, valG fa n ≠ some b, ⟨⟨none, none, none, rfl⟩, um_same, [], ⟨by rw [um_ne ug.symm, um_same]; rfl, rfl, fun n a e => (by cases e), fun n n' a e => (by cases e)⟩, fun n e => (by cases e), fun b u hb => ?_⟩, fun i ρ' M' _ hJ => hJ.2.1, fun i ρ' M' hi hJ => ?_, fun ρ' M' hJ => ?_⟩))
    · have bg : b ≠ g := fun z => by rw [z, hg] at hb; cases hb
      exact ⟨fun bu => by rw [um_ne bu, um_ne bg]; exact hb, bg, fun n e => (by cases e)⟩
    · obtain ⟨⟨z2, z3, z4, rfl⟩, hfz, fa, hG, hnu, hfr⟩ := hJ
      have hi' : i < c.rul.length := by rw [← hkl]; exact hi
      have gi : ((kvU c).map fun q => q.2).getD i .non = .dat (c.rul[i]).2.enc := by
        unfold kvU
        rw [List.getD_eq_getElem?_getD, List.map_map, List.getElem?_map, List.getElem?_eq_getElem hi']
        rfl
      have hul : ∀ u ∈ (c.rul.map (·.2)).take i, okB u.b := fun u hu => by
        obtain ⟨p, hp, rfl⟩ := List.mem_map.mp (List.mem_of_mem_take hu)
        exact (hc.rul p hp).2.2.2
      have ub := (hc.rul _ (List.getElem_mem hi')).2.2.2
      have el : (c.rul.map (·.2)).take (i + 1) = (c.rul.map (·.2)).take i ++ [c.rul[i].2] := by
        rw [List.take_succ_eq_append_getElem (by rw [List.length_map]; exact hi'), List.getElem_map]
      obtain ⟨el1, el2⟩ := edgesF_len _ hul
      have tl : ((c.rul.map (·.2)).take i).length ≤ 64 := by rw [List.length_take, List.length_map]; omega
      dsimp only
      rw [gi, el, edgesF_snoc]
      generalize edgesF ((c.rul.map (·.2)).take i) = G at hG el1 el2
      generalize (c.rul[i]).2 = u at ub
      refine wg_tup (ds := [.str u.rel, encT u.hd, encB u.b]) rfl rfl (wgs_cons (wg_name (wgs_cons (wg_name (wgs_cons (wg_name (wgs_nil ?_)))))))
      show WS K _ [some (.raw (.ref A.o)), some (.raw (.ref g)), some (.str u.rel), some (.dat (encT u.hd)), some (.dat (encB u.b))] M' _
      have dset : W K (tDSetd (tVar 1) (tVar 2) (tLst tNil)) [some (.raw (.ref A.o)), some (.raw (.ref g)), some (.str u.rel), some (.dat (encT u.hd)), some (.dat (encB u.b))] M' fun s N => ∃ a0 fa' G' es, s = .raw (.ref a0) ∧ GrAt N g fa' G' ∧ FzE M N A.u g (.frz od v (.dK (kvU c))) fa' ∧ valG fa' u.rel = some a0 ∧ valG G' u.rel = some es ∧ es.length ≤ 64000 ∧ putG G' u.rel (es ++ relsOf u.b) = addE G u := by
        refine w_dsetd (w_var rfl ⟨g, rfl, ⟨_, hG.at_⟩, w_var rfl (w_lstM (wa_nil ⟨by decide, fun p hp => ?_⟩))⟩)
        have fp := hG.fresh hp
        have hF : FzE M M' A.u g (.frz od v (.dK (kvU c))) fa := ⟨hfz, hnu, hfr⟩
        have hG1 := hG.umP (x := lsE []) fp.1 fp.2
        have hF1 := hF.fresh (x := lsE []) hp
        have ev : valG (kvA fa) (.inr u.rel) = (valG fa u.rel).map fun p => Sl.raw (.ref p) := valG_inr (fun p : Addr => Sl.raw (.ref p)) u.rel fa
        have fl : fa.length = G.length := by rw [← List.length_map (f := (·.1)), hG.keys, List.length_map]
        refine ⟨kvA fa, .inr u.rel, hG1.at_, rfl, by rw [List.length_map]; omega, fun x hx => ?_, fun hx => ?_⟩
        · rw [ev] at hx
          cases ea : valG fa u.rel with
          | none => rw [ea] at hx; cases hx
          | some a0 =>
            rw [ea] at hx
            cases hx
            obtain ⟨es, e1, e2⟩ := hG1.rows _ a0 ea
            exact ⟨a0, fa, G, es, rfl, hG1, hF1, ea, e1, by have := el1 _ _ e1; omega, by unfold addE; rw [e1]; rfl⟩
        · rw [ev] at hx
          have ea : valG fa u.rel = none := by
            cases ea : valG fa u.rel with
            | none => rfl
            | some a0 => rw [ea] at hx; cases hx
          have eG := hG.miss ea
          have hG2 := hG.new ea hp []
          rw [show kvA (putG fa u.rel p) = putG (kvA fa) (.inr u.rel) (.raw (.ref p)) from (putG_inr (fun p : Addr => Sl.raw (.ref p)) u.rel p fa).symm] at hG2
          refine ⟨p, putG fa u.rel p, putG G u.rel [], [], rfl, hG2, hF.new ug hp, by rw [valG_put, if_pos rfl], by rw [valG_put, if_pos rfl], by decide, ?_⟩
          unfold addE
          rw [eG, putG_two fun z => ?_]
          · rfl
          · obtain ⟨x, hx⟩ := valG_of z
            rw [eG] at hx
            cases hx
      refine ws_drop (w_bm (dset.imp fun s N ⟨a0, fa', G', es, es0, hG2, hF2, ea, eG, esl, ep⟩ => ?_))
      subst es0
      obtain ⟨es2, e1, e2⟩ := hG2.rows _ a0 ea
      rw [eG] at e1
      cases e1
      refine ⟨ty_lst (lsv_ref e2), wa_cons (w_call (wa_cons (w_var rfl (wa_nil ⟨u.b, rfl, ub, fun p2 hp2 => ?_⟩))))⟩
      have fp2 := hG2.fresh hp2
      have rl := relsOf_len u.b
      have ubl := ub.1
      refine wa_nil (wm_extend (by rw [um_ne (fun z => fp2.2 u.rel (by rw [← z]; exact ea))]; exact e2) um_same (by rw [List.length_map, List.length_map]; omega) ?_)
      rw [← List.map_append]
      have hG3 := (hG2.umP (x := lsE (relsOf u.b)) fp2.1 fp2.2).old ea (es ++ relsOf u.b)
      have hF3 := (hF2.fresh (x := lsE (relsOf u.b)) hp2).row (x := lsE (es ++ relsOf u.b)) ea
      rw [ep] at hG3
      exact ⟨⟨_, _, _, rfl⟩, hF3.z, fa', hG3, hF3.n, hF3.e⟩
    · obtain ⟨⟨z2, z3, z4, rfl⟩, hfz, fa, hG, hnu, hfr⟩ := hJ
      rw [hkl, show c.rul.length = (c.rul.map (·.2)).length by rw [List.length_map], List.take_length] at hG
      refine ⟨hfz, ⟨_, _, _, rfl⟩, fa, hG.umP ug hnu, ⟨fun b u hb => ⟨?_, (hfr b u hb).2⟩⟩⟩
      by_cases bu : b = A.u
      · subst bu
        rw [um_same, ← hb, h.hu]
      · rw [um_ne bu]
        exact (hfr b u hb).1 bu
  · rintro ρ' M' ⟨⟨z2, z3, z4, rfl⟩, fa, hG, hfr⟩
    walk_at "f"
    exact q M' g fa hG hfr
end
end
section
local macro_rules | `(tactic| walk_at "fl") => `(tactic| with_reducible first | exact sl_r _ | exact sl_f _ | exact sl_u _ | exact sl_n _)
section
variable {w : World} {K : PySem.W.Frag} {mg : Str → Option Value} {base : Heap} {a : AD} {d : FD}
def A_reached : ASp := fun ss M Q => ∃ g fa G r, ss = [.raw (.ref g), .str r] ∧ GrRd M g fa G ∧ GrOk G ∧ goodS r = true ∧ ∀ (M' : MH) (F : Addr) (fs : List Str), (∀ b u, M b = some u → M' b = some u) → M' F = some (.lst ((fs.map PyData.str).map .dat)) → (∀ x ∈ fs, goodS x = true) → fs.length ≤ 100000 → (∀ x, x ∈ fs ↔ Rch G r x) → Q (.raw (.ref F)) M'
theorem ok_reached (T : Txt K mg a d) : FnOk P w K mg base CX0 1 a.reached d.reached ["graph", "relation"] (conc K A_reached) := by
  refine ab_ok T.F_reached sc_reached (fun ss M Q ⟨g, fa, G, r, e, _⟩ => by subst e; rfl) fun cdv Ar outer s H E hr => ?_
  have hu64 := hr.units
  have hu65 := room65 hr
  refine ⟨_, (pss_cons (ps_set (i := 2) sc_reached.nd rfl (Or.inl rfl) (pe_lst pa_nil))
  (pss_cons (ps_set (i := 3) sc_reached.nd rfl (Or.inl rfl) (pe_lst (pa_cons (pv 1) pa_nil)))
  (pss_cons (ps_while PassesOwn.never (pt_truth (pv 3) (by intro _; rfl)) (pss_one (ps_for PassesOwn.never rfl (pi_list (pe_dget2 (hu1 hu64) (pv 0) (pe_bm0 PySem.F.plainAttrs_list PySem.F.slot_list_pop PySem.F.type_list_pop mt_pop (pv 3)) (pe_lst pa_nil) ⟨rfl, rfl, rfl, rfl⟩)) (pg_tupK (K := K) (n := 2) rfl rfl (pgs_cons (pg_name (i := 4) sc_reached.nd rfl (Or.inl rfl)) (pgs_cons (pg_name (i := 5) sc_reached.nd rfl (Or.inl rfl)) pgs_nil))) (pss_one (ps_if (pt_cmpR (r := rNotInD K) (op_notInD hu65) (pv 4) (pv 2) (by rfl)) (pss_cons (ps_expr (pe_bm PySem.F.plainAttrs_list PySem.F.slot_list_append PySem.F.type_list_append mt_append (pv 2) (pa_cons (pv 4) pa_nil)))
  (pss_one (ps_expr (pe_bm PySem.F.plainAttrs_list PySem.F.slot_list_append PySem.F.type_list_append mt_append (pv 3) (pa_cons (pv 4) pa_nil))))) pss_nil)))))
  (pss_one (ps_ret (pv 2)))))), ?_⟩
  rintro ss M Q ⟨g, fa, G, r, rfl, hG, oG, gr, q⟩
  walk_at "k"
  show WS K _ [some (.raw (.ref g)), some (.str r), none, none, none, none] M _
  refine ws_seq (ws_set (w_lstM (wa_nil ⟨by decide, fun F hF => ?_⟩)))
  refine ws_seq (ws_set (w_lstM (wa_cons (w_var rfl (wa_nil ⟨by simp, fun D hD => ?_⟩)))))
  have fd : F ≠ D := fun z => by rw [← z, um_same] at hD; cases hD
  have hD0 : M D = none := by rw [um_ne fd.symm] at hD; exact hD
  have fF := hG.fresh hF
  have fD := hG.fresh hD0
  have ext : ∀ (x y : MO) b u, M b = some u → Ab.um (Ab.um M F x) D y b = some u := fun x y b u hb => by
    have b1 : b ≠ D := fun z => by rw [z, hD0] at hb; cases hb
    have b2 : b ≠ F := fun z => by rw [z, hF] at hb; cases hb
    rw [um_ne b1, um_ne b2]
    exact hb
  have hGN : ∀ x y : MO, GrRd (Ab.um (Ab.um M F x) D y) g fa G := fun x y => (hG.umP fF.1 fF.2).umP fD.1 fD.2
  refine ws_mid (fun ρ' M' => ∃ fs z4 z5, ρ' = [some (.raw (.ref g)), some (.str r), some (.raw (.ref F)), some (.raw (.ref D)), z4, z5] ∧ M' = Ab.um (Ab.um M F (.lst ((fs.map PyData.str).map .dat))) D (.lst (([] : List Str).map fun y => .str y)) ∧ Srch G r fs []) ?_ ?_
  · refine ws_while (fun m ρ' M' => ∃ fs td z4 z5, ρ' = [some (.raw (.ref g)), some (.str r), some (.raw (.ref F)), some (.raw (.ref D)), z4, z5] ∧ M' = Ab.um (Ab.um M F (.lst ((fs.map PyData.str).map .dat))) D (.lst (td.map fun y => .str y)) ∧ Srch G r fs td ∧ m + 2 * fs.length = 2 * (tgts G).length + td.length ∧ td.length ≤ fs.length + 1) ⟨2 * (tgts G).length + 1, [], [r], none, none, rfl, rfl, Srch.start G r, by simp, by simp⟩ ?_
    rintro m ρ' M' ⟨fs, td, z4, z5, rfl, rfl, hS, hm, ht⟩
    refine wt_truL (w_var rfl ⟨D, _, rfl, um_same, ?_⟩)
    rcases List.eq_nil_or_concat td with rfl | ⟨td0, x, rfl⟩
    · rw [if_neg (by simp)]
      exact ⟨fs, z4, z5, rfl, rfl, hS⟩
    rw [List.concat_eq_append] at hS hm ht ⊢
    rw [if_pos (by simp)]
    have hI := hS.pop
    have htl : (td0 ++ [x]).length = td0.length + 1 := by simp
    have hes : ∃ s, (valG (kvA fa) (.inr x)).getD (.dat (.list [])) = s ∧ ∀ u v : MO, LsV K s (Ab.um (Ab.um M F u) D v) (((valG G x).getD []).map fun e => .dat (encE e)) := by
      have ev : valG (kvA fa) (.inr x) = (valG fa x).map fun p => Sl.raw (.ref p) := valG_inr (fun p : Addr => Sl.raw (.ref p)) x fa
      cases ea : valG fa x with
      | none =>
        rw [ev, ea, hG.miss ea]
        exact ⟨_, rfl, fun u v => lsv_dat⟩
      | some a0 =>
        rw [ev, ea]
        refine ⟨_, rfl, fun u v => ?_⟩
        obtain ⟨es, e1, e2⟩ := (hGN u v).rows x a0 ea
        rw [e1]
        exact lsv_ref e2
    obtain ⟨sx, hsx, hls⟩ := hes
    have hE : ∀ p ∈ (valG G x).getD [], Edge G x p.1 := fun p hp => by
      cases e : valG G x with
      | none => rw [e] at hp; cases hp
      | some es => rw [e] at hp; exact ⟨es, p.2, e, hp⟩
    have hfin : ∀ fs' td', SrchI G r x ((valG G x).getD []) fs' td' → Srch G r fs' td' := fun fs' td' h => h.done
    generalize (valG G x).getD [] = es at hls hE hfin
    refine ws_for (wi_list (w_dget2 (w_var rfl ⟨⟨_, (hGN _ _).dcv⟩, w_bm0 (w_var rfl ⟨ty_lst (lsv_ref um_same), wm_pop (xs := td0.map fun y => .str y) (s := .str x) (by rw [um_same, List.map_append]; rfl) ?_⟩)⟩)))
    rw [um_um]
    refine w_lstD (wa_nil ⟨[], rfl, by simp, kvA fa, .inr x, (hGN _ _).dcv, rfl, ?_⟩)
    rw [hsx]
    refine ⟨_, hls _ _, fun i ρ' M' => ∃ fs' td' z4 z5, ρ' = [some (.raw (.ref g)), some (.str r), some (.raw (.ref F)), some (.raw (.ref D)), z4, z5] ∧ M' = Ab.um (Ab.um M F (.lst ((fs'.map PyData.str).map .dat))) D (.lst (td'.map fun y => .str y)) ∧ SrchI G r x (es.take i) fs' td' ∧ fs'.length + td0.length = fs.length + td'.length ∧ fs.length ≤ fs'.length, ⟨fs, td0, z4, z5, rfl, rfl, hI, rfl, Nat.le_refl _⟩, fun i ρ' M' _ hJ => ?_, fun i ρ' M' hi hJ => ?_, fun ρ' M' hJ => ?_⟩
    · obtain ⟨fs', td', z4, z5, rfl, rfl, _⟩ := hJ
      exact hls _ _
    · obtain ⟨fs', td', z4, z5, rfl, rfl, hI', hc, hle⟩ := hJ
      have hi' : i < es.length := by rw [List.length_map] at hi; exact hi
      have gi : (es.map fun e => Sl.dat (encE e)).getD i .non = .dat (encE es[i]) := by
        rw [List.getD_eq_getElem?_getD, List.getElem?_map, List.getElem?_eq_getElem hi']
        rfl
      have he := hE es[i] (List.getElem_mem hi')
      have el : es.take (i + 1) = es.take i ++ [es[i]] := List.take_succ_eq_append_getElem hi'
      dsimp only
      rw [gi, el]
      generalize es[i] = e at he
      have gf : ∀ z ∈ fs', goodS z = true := fun z hz => oG.g z (hI'.rc z hz).tgt
      have fl : fs'.length ≤ 100000 := Nat.le_trans (nodup_le hI'.nd fun z hz => (hI'.rc z hz).tgt) oG.l
      have ge := oG.g _ he.tgt
      refine wg_tup (ds := [.str e.1, .bool e.2]) rfl rfl (wgs_cons (wg_name (wgs_cons (wg_name (wgs_nil ?_)))))
      show WS K _ [some (.raw (.ref g)), some (.str r), some (.raw (.ref F)), some (.raw (.ref D)), some (.str e.1), some (.bl e.2)] _ _
      walk_at "f"
      refine w2_notInT (ks := fs') (lsv_ref (by rw [um_ne fd, um_same, List.map_map]; rfl)) ge gf (by omega) ⟨_, rfl, ?_⟩
      by_cases hx : e.1 ∈ fs'
      · rw [if_neg (by simp [hx])]
        exact ws_next ⟨fs', td', _, _, rfl, rfl, hI'.skip hx, hc, hle⟩
      · rw [if_pos (by simp [hx])]
        have hFm : ∀ u v : MO, Ab.um (Ab.um M F u) D v F = some u := fun u v => by rw [um_ne fd, um_same]
        refine ws_seq (ws_drop (w_bm (w_var rfl ⟨ty_lst (lsv_ref (hFm _ _)), wa_cons (w_var rfl (wa_nil (wm_append (hFm _ _) (by rw [List.length_map, List.length_map]; omega) ?_)))⟩)))
        rw [um_comm fd.symm, um_um]
        refine ws_drop (w_bm (w_var rfl ⟨ty_lst (lsv_ref um_same), wa_cons (w_var rfl (wa_nil (wm_append um_same (by rw [List.length_map]; omega) ?_)))⟩))
        rw [um_um]
        exact ⟨fs' ++ [e.1], td' ++ [e.1], _, _, rfl, by rw [List.map_append, List.map_append, List.map_append]; rfl, hI'.add he hx, by rw [List.length_append, List.length_append]; simp; omega, by rw [List.length_append]; omega⟩
    · obtain ⟨fs', td', z4, z5, rfl, rfl, hI', hc, hle⟩ := hJ
      rw [List.length_map, List.take_length] at hI'
      have hS' := hfin _ _ hI'
      have := hS'.le
      exact ⟨2 * (tgts G).length + td'.length - 2 * fs'.length, by omega, fs', td', z4, z5, rfl, rfl, hS', by omega, by omega⟩
  · rintro ρ' M' ⟨fs, z4, z5, rfl, rfl, hS⟩
    walk_at "f"
    exact q _ F fs (ext _ _) (by rw [um_ne fd, um_same]) (fun x hx => oG.g x (hS.rc x hx).tgt) (Nat.le_trans hS.le oG.l) hS.fin
end
end
section
local macro_rules | `(tactic| walk_at "fl") => `(tactic| with_reducible first | exact sl_r _ | exact sl_f _ | exact sl_u _ | exact sl_n _)
section
variable {w : World} {K : PySem.W.Frag} {mg : Str → Option Value} {base : Heap} {a : AD} {d : FD}
def RingAt (G : Gr) (n : Str) (es : List (Str × Bool)) : Prop := ∃ p ∈ es, p.2 = true ∧ (p.1 = n ∨ Rch G p.1 n)
def Ring (G : Gr) : Prop := ∃ n es, valG G n = some es ∧ RingAt G n es
def A_ring (C : Addr) : ASp := fun ss M Q => ∃ A c, ss = [.raw (.ref (SA.o A))] ∧ SeAt C M A c ∧ CtOk c ∧ Ct.small c ∧ ∀ (M' : MH) (b : Bool), (∀ x u, M x = some u → M' x = some u) → (b = true ↔ Ring (edgesF (c.rul.map (·.2)))) → Q (.bl b) M'
theorem ok_has_ring (T : Txt K mg a d) : FnOk P w K mg base CX0 3 a.has_ring d.has_ring ["state"] (conc K (A_ring a.State)) := by
  have G_edges : FnOk P w K mg base CX0 2 a.edges d.edges ["state"] (conc K (A_edges a.State)) := ok_edges T
  have G_reached : FnOk P w K mg base CX0 1 a.reached d.reached ["graph", "relation"] (conc K A_reached) := ok_reached T
  refine ab_ok T.F_has_ring sc_has_ring (fun ss M Q ⟨A, c, e, _⟩ => by subst e; rfl) fun cdv Ar outer s H E hr => ?_
  have hu64 := hr.units
  have hu65 := room65 hr
  refine ⟨_, (pss_cons (ps_set (i := 1) sc_has_ring.nd rfl (Or.inl rfl) (pe_call G_edges (hr.mono (by omega)) (by rfl) T.g_edges T.F_edges.kp T.b_edges .nil pass0 (pa_cons (pv 0) pa_nil)))
  (pss_cons (ps_lock (ps_for PassesOwn.never rfl (pi_keys (pv 1)) (pg_name (i := 2) sc_has_ring.nd rfl (Or.inl rfl)) (pss_one (ps_for PassesOwn.never rfl (pi_list (pe_dget (hu1 hu64) (pv 1) (pv 2) (fun _ _ => rfl))) (pg_tupK (K := K) (n := 2) rfl rfl (pgs_cons (pg_name (i := 3) sc_has_ring.nd rfl (Or.inl rfl)) (pgs_cons (pg_name (i := 4) sc_has_ring.nd rfl (Or.inl rfl)) pgs_nil))) (pss_one (ps_if (PW.pt (pw_and (pt_val (pv 4)) (pw_and1 (PW.pt (pw_or (pt_cmpR (r := rEqD K) (op_eqD hu64) (pv 3) (pv 2) (nomark _)) (pw_or1 (pt_cmpR (r := rInD K) (op_inD hu65) (pv 2) (pe_call G_reached (hr.mono (by omega)) (by rfl) T.g_reached T.F_reached.kp T.b_reached .nil pass0 (pa_cons (pv 1) (pa_cons (pv 3) pa_nil))) (by rfl)))))))) (pss_one (ps_ret pe_bl)) pss_nil))))))
  (pss_one (ps_ret pe_bl)))), ?_⟩
  rintro ss M Q ⟨A, c, rfl, h, hc, hs, q⟩
  walk_at "k"
  show WS K _ [some (.raw (.ref A.o)), none, none, none, none] M _
  refine ws_seq (ws_set (w_call (wa_cons (w_var rfl (wa_nil ⟨A, c, rfl, h, hc, hs, fun M1 g fa hG hF => ?_⟩)))))
  have oG : GrOk (edgesF (c.rul.map (·.2))) := edgesF_ok (fun u hu => by
    obtain ⟨p, hp, rfl⟩ := List.mem_map.mp hu
    exact (hc.rul p hp).2.2.2) (by rw [List.length_map]; have := hs.2.1; omega)
  have kG : ∀ n ∈ (edgesF (c.rul.map (·.2))).map (·.1), goodS n = true := fun n hn => by
    obtain ⟨u, hu, rfl⟩ := edgesF_keys _ n hn
    obtain ⟨p, hp, rfl⟩ := List.mem_map.mp hu
    exact (hc.rul p hp).2.1
  generalize edgesF (c.rul.map (·.2)) = G at hG oG q kG
  have ext : ∀ (N : MH) (x y : MO), (∀ b u, Ab.um M1 g x b = some u → N b = some u) → ∀ b u, M b = some u → Ab.um N g y b = some u := fun N x y e b u hb => by
    obtain ⟨h1, h2, _⟩ := hF.e b u hb
    rw [um_ne h2]
    exact e b u (by rw [um_ne h2]; exact h1)
  refine ws_mid (fun ρ' M' => (∀ x u, M x = some u → M' x = some u) ∧ ¬Ring G) ?_ ?_
  · refine ws_lock hG.at_ fun od v => ?_
    have hR := hG.held od v
    refine ws_for (wi_keys (w_var rfl ⟨g, od, v, kvA fa, rfl, um_same, fun i ρ' M' => (∃ z2 z3 z4, ρ' = [some (.raw (.ref A.o)), some (.raw (.ref g)), z2, z3, z4]) ∧ (∀ b u, Ab.um M1 g (.frz od v (.dK (kvA fa))) b = some u → M' b = some u) ∧ ∀ n ∈ (fa.map (·.1)).take i, ∀ es, valG G n = some es → ¬RingAt G n es, ⟨⟨none, none, none, rfl⟩, fun b u hb => hb, fun n hn => (nomatch hn)⟩, fun i ρ' M' _ hJ => hJ.2.1 _ _ um_same, fun i ρ' M' hi hJ => ?_, fun ρ' M' hJ => ?_⟩))
    · obtain ⟨⟨z2, z3, z4, rfl⟩, e, hn⟩ := hJ
      have hi' : i < (fa.map (·.1)).length := by rw [List.length_map] at hi ⊢; exact hi
      have gi : ((kvA fa).map fun q => kS q.1).getD i .non = .str (fa.map (·.1))[i] := by
        rw [List.getD_eq_getElem?_getD, List.map_map, List.getElem?_map, List.getElem?_eq_getElem (by rw [List.length_map] at hi'; exact hi'), List.getElem_map]
        rfl
      have hm : (fa.map (·.1))[i] ∈ fa.map (·.1) := List.getElem_mem hi'
      have el : (fa.map (·.1)).take (i + 1) = (fa.map (·.1)).take i ++ [(fa.map (·.1))[i]] := List.take_succ_eq_append_getElem hi'
      dsimp only
      rw [gi, el]
      generalize (fa.map (·.1))[i] = n at hm
      have gn := kG n (by rw [← hG.keys]; exact hm)
      obtain ⟨a0, ea⟩ := valG_of hm
      have hR' := hR.ext e
      obtain ⟨es, e1, e2⟩ := hR'.rows n a0 ea
      have ev : valG (kvA fa) (.inr n) = some (.raw (.ref a0)) := by
        have := valG_inr (fun p : Addr => Sl.raw (.ref p)) n fa
        rw [ea] at this
        exact this
      refine wg_name ?_
      refine ws_for (wi_list (w_dget (w_var rfl (w_var rfl ⟨kvA fa, .inr n, _, hR'.dcv, rfl, ev, _, lsv_ref e2, fun j ρ' M'' => (∃ z3 z4, ρ' = [some (.raw (.ref A.o)), some (.raw (.ref g)), some (.str n), z3, z4]) ∧ (∀ b u, M' b = some u → M'' b = some u) ∧ ¬RingAt G n (es.take j), ⟨⟨z3, z4, rfl⟩, fun b u hb => hb, fun ⟨p, hp, _⟩ => (nomatch hp)⟩, fun j ρ' M'' _ hJ => lsv_ref (hJ.2.1 _ _ e2), fun j ρ' M'' hj hJ => ?_, fun ρ' M'' hJ => ?_⟩))))
      · obtain ⟨⟨z3, z4, rfl⟩, e', hn'⟩ := hJ
        have hj' : j < es.length := by rw [List.length_map] at hj; exact hj
        have gj : (es.map fun e => Sl.dat (encE e)).getD j .non = .dat (encE es[j]) := by
          rw [List.getD_eq_getElem?_getD, List.getElem?_map, List.getElem?_eq_getElem hj']
          rfl
        have hmp : es[j] ∈ es := List.getElem_mem hj'
        have el : es.take (j + 1) = es.take j ++ [es[j]] := List.take_succ_eq_append_getElem hj'
        dsimp only
        rw [gj, el]
        generalize es[j] = p at hmp
        have gp := oG.g p.1 (Edge.tgt ⟨es, p.2, e1, hmp⟩)
        have yes : (p.2 = true ∧ (p.1 = n ∨ Rch G p.1 n)) → Ring G := fun hp => ⟨n, es, e1, p, hmp, hp⟩
        have no : ¬(p.2 = true ∧ (p.1 = n ∨ Rch G p.1 n)) → ¬RingAt G n (es.take j ++ [p]) := fun hp ⟨p', hm', h'⟩ => by
          rcases List.mem_append.mp hm' with h1 | h1
          · exact hn' ⟨p', h1, h'⟩
          · rw [List.mem_singleton.mp h1] at h'
            exact hp h'
        have e3 : ∀ b u, Ab.um M1 g (.frz od v (.dK (kvA fa))) b = some u → M'' b = some u := fun b u hb => e' b u (e b u hb)
        refine wg_tup (ds := [.str p.1, .bool p.2]) rfl rfl (wgs_cons (wg_name (wgs_cons (wg_name (wgs_nil ?_)))))
        show WS K _ [some (.raw (.ref A.o)), some (.raw (.ref g)), some (.str n), some (.str p.1), some (.bl p.2)] _ _
        cases hb2 : p.2 with
        | false =>
          walk_at "f"
          exact ⟨⟨_, _, rfl⟩, e', no fun hp => by rw [hb2] at hp; cases hp.1⟩
        | true =>
          walk_at "f"
          by_cases hpn : p.1 = n
          · rw [if_pos (decide_eq_true hpn)]
            walk_at "f"
            exact ⟨e3 _ _ um_same, q _ true (ext _ _ _ e3) ⟨fun _ => yes ⟨hb2, .inl hpn⟩, fun _ => rfl⟩⟩
          · rw [if_neg (by rw [decide_eq_false hpn]; exact Bool.false_ne_true)]
            walk_at "f"
            refine ⟨g, fa, G, p.1, rfl, hR.ext e3, oG, gp, fun M3 F fs e4 hF3 gf fl hiff => ?_⟩
            refine w2_inT (ks := fs) (lsv_ref (by rw [hF3, List.map_map]; rfl)) gn gf (by omega) ⟨_, rfl, ?_⟩
            have e5 : ∀ b u, Ab.um M1 g (.frz od v (.dK (kvA fa))) b = some u → M3 b = some u := fun b u hb => e4 b u (e3 b u hb)
            by_cases hin : n ∈ fs
            · rw [if_pos (decide_eq_true hin)]
              walk_at "f"
              exact ⟨e5 _ _ um_same, q _ true (ext _ _ _ e5) ⟨fun _ => yes ⟨hb2, .inr ((hiff n).mp hin)⟩, fun _ => rfl⟩⟩
            · rw [if_neg (by rw [decide_eq_false hin]; exact Bool.false_ne_true)]
              exact ws_next ⟨⟨_, _, rfl⟩, fun b u hb => e4 b u (e' b u hb), no fun hp => hp.2.elim hpn fun hr => hin ((hiff n).mpr hr)⟩
      · obtain ⟨⟨z3, z4, rfl⟩, e', hn'⟩ := hJ
        rw [List.length_map, List.take_length] at hn'
        refine ⟨⟨_, _, _, rfl⟩, fun b u hb => e' b u (e b u hb), fun n' hn1 es' e3 => ?_⟩
        rcases List.mem_append.mp hn1 with h1 | h1
        · exact hn n' h1 es' e3
        · rw [List.mem_singleton.mp h1] at e3 ⊢
          rw [e1] at e3
          cases e3
          exact hn'
    · obtain ⟨_, e, hn⟩ := hJ
      refine ⟨e _ _ um_same, ext _ _ _ e, fun ⟨n, es, e1, e2⟩ => ?_⟩
      refine hn n ?_ es e1 e2
      rw [List.length_map, ← List.length_map (f := (·.1)) (as := fa), List.take_length, hG.keys]
      exact List.mem_map.mpr ⟨_, valG_mem e1, rfl⟩
  · rintro ρ' M' ⟨e, hn⟩
    walk_at "f"
    exact q _ false e ⟨fun z => (nomatch z), fun z => absurd z hn⟩
end
end
section
local macro_rules | `(tactic| walk_at "fl") => `(tactic| with_reducible first | exact sl_r _ | exact sl_f _ | exact sl_u _ | exact sl_n _)
section
variable {w : World} {K : PySem.W.Frag} {mg : Str → Option Value} {base : Heap} {a : AD} {d : FD}
def Grw (rul : List (Str × Rul)) (n : Str) : Prop := ∃ u, valG rul n = some u ∧ makesE [] u.b = true ∧ ∃ p ∈ relsOf u.b, p.1 = u.rel ∨ Rch (edgesF (rul.map (·.2))) p.1 u.rel
open Classical in
noncomputable def growF (rul : List (Str × Rul)) : Option Str := (sortT (rul.map (·.1))).find? fun n => decide (Grw rul n)
theorem growF_at {rul : List (Str × Rul)} {pre post : List Str} {n : Str} (hx : sortT (rul.map (·.1)) = pre ++ n :: post) (hp : ∀ m ∈ pre, ¬Grw rul m) (hg : Grw rul n) : growF rul = some n := by
  classical
  unfold growF
  rw [hx, List.find?_append, List.find?_eq_none.mpr fun m hm z => hp m hm (of_decide_eq_true z), Option.none_or]
  exact List.find?_cons_of_pos (p := fun n => decide (Grw rul n)) (decide_eq_true hg)
theorem growF_no {rul : List (Str × Rul)} (hp : ∀ m ∈ sortT (rul.map (·.1)), ¬Grw rul m) : growF rul = none := by
  classical
  exact List.find?_eq_none.mpr fun m hm z => hp m hm (of_decide_eq_true z)
abbrev encN : Option Str → PyData
  | none => .none
  | some n => .str n
def A_grow (C : Addr) : ASp := fun ss M Q => ∃ A c, ss = [.raw (.ref (SA.o A))] ∧ SeAt C M A c ∧ CtOk c ∧ Ct.small c ∧ ∀ (M' : MH), (∀ x u, M x = some u → M' x = some u) → Q (.dat (encN (growF c.rul))) M'
theorem ok_growing (T : Txt K mg a d) : FnOk P w K mg base CX0 3 a.growing d.growing ["state"] (conc K (A_grow a.State)) := by
  have cl := T.cl_State
  have n3 := T.na_State_rules
  have G_edges : FnOk P w K mg base CX0 2 a.edges d.edges ["state"] (conc K (A_edges a.State)) := ok_edges T
  have G_reached : FnOk P w K mg base CX0 1 a.reached d.reached ["graph", "relation"] (conc K A_reached) := ok_reached T
  have G_makes : FnOk P w K mg base CX0 2 a.makes d.makes ["body"] (conc K A_makes) := ok_makes T
  have G_relations_of : FnOk P w K mg base CX0 1 a.relations_of d.relations_of ["body"] (conc K A_relsof) := ok_relations_of T
  refine ab_ok T.F_growing sc_growing (fun ss M Q ⟨A, c, e, _⟩ => by subst e; rfl) fun cdv Ar outer s H E hr => ?_
  have hu64 := hr.units
  have hu65 := room65 hr
  refine ⟨_, (pss_cons (ps_set (i := 1) sc_growing.nd rfl (Or.inl rfl) (pe_call G_edges (hr.mono (by omega)) (by rfl) T.g_edges T.F_edges.kp T.b_edges .nil pass0 (pa_cons (pv 0) pa_nil)))
  (pss_cons (ps_for PassesOwn.never rfl (pi_list (pe_callB (r := rSortedDk) (call_sortedD rfl) (by rfl) T.n_sorted (by decide +kernel) (pa_cons (pe_fld (pv 0) rfl) pa_nil))) (pg_name (i := 2) sc_growing.nd rfl (Or.inl rfl)) (pss_cons (ps_asg (pe_dget (hu1 hu64) (pe_fld (pv 0) rfl) (pv 2) (fun _ _ => rfl)) (pg_tupK (K := K) (n := 3) rfl rfl (pgs_cons (pg_name (i := 3) sc_growing.nd rfl (Or.inl rfl)) (pgs_cons (pg_name (i := 4) sc_growing.nd rfl (Or.inl rfl)) (pgs_cons (pg_name (i := 5) sc_growing.nd rfl (Or.inl rfl)) pgs_nil)))))
  (pss_one (ps_if (pt_val (pe_call G_makes (hr.mono (by omega)) (by rfl) T.g_makes T.F_makes.kp T.b_makes .nil pass0 (pa_cons (pv 5) pa_nil))) (pss_one (ps_for PassesOwn.never rfl (pi_list (pe_call G_relations_of (hr.mono (by omega)) (by rfl) T.g_relations_of T.F_relations_of.kp T.b_relations_of .nil pass0 (pa_cons (pv 5) pa_nil))) (pg_tupK (K := K) (n := 2) rfl rfl (pgs_cons (pg_name (i := 6) sc_growing.nd rfl (Or.inl rfl)) (pgs_cons (pg_name (i := 4) sc_growing.nd rfl (Or.inl rfl)) pgs_nil))) (pss_one (ps_if (PW.pt (pw_or (pt_cmpR (r := rEqD K) (op_eqD hu64) (pv 6) (pv 3) (nomark _)) (pw_or1 (pt_cmpR (r := rInD K) (op_inD hu65) (pv 3) (pe_call G_reached (hr.mono (by omega)) (by rfl) T.g_reached T.F_reached.kp T.b_reached .nil pass0 (pa_cons (pv 1) (pa_cons (pv 6) pa_nil))) (by rfl))))) (pss_one (ps_ret (pv 2))) pss_nil)))) pss_nil))))
  (pss_one (ps_ret pe_non)))), ?_⟩
  rintro ss M Q ⟨A, c, rfl, h, hc, hs, q⟩
  walk_at "k"
  show WS K _ [some (.raw (.ref A.o)), none, none, none, none, none, none] M _
  refine ws_seq (ws_set (w_call (wa_cons (w_var rfl (wa_nil ⟨A, c, rfl, h, hc, hs, fun M1 g fa hG hF => ?_⟩)))))
  have oG : GrOk (edgesF (c.rul.map (·.2))) := edgesF_ok (fun u hu => by
    obtain ⟨p, hp, rfl⟩ := List.mem_map.mp hu
    exact (hc.rul p hp).2.2.2) (by rw [List.length_map]; have := hs.2.1; omega)
  have x1 : ∀ b u, M b = some u → M1 b = some u := fun b u hb => (hF.e b u hb).1
  have h1 := h.ext x1
  have kU : (kvU c).map (·.1) = (c.rul.map (·.1)).map Sum.inr := by unfold kvU; rw [List.map_map, List.map_map]; rfl
  have hR := hG.rd
  refine ws_mid (fun ρ' M' => (∀ x u, M x = some u → M' x = some u) ∧ ∀ n ∈ sortT (c.rul.map (·.1)), ¬Grw c.rul n) ?_ ?_
  · refine ws_forD (xs := sortT (c.rul.map (·.1))) (enc := PyData.str) (M1 := M1) (w_sortedN (w_fldI rfl h1.ho cl n3 (sl_u _) ⟨dcv_ref h1.hu, kU, by rw [List.length_map]; exact hs.2.1, rfl, rfl⟩))
      (fun pre ρ' M' => (∃ z2 z3 z4 z5 z6, ρ' = [some (.raw (.ref A.o)), some (.raw (.ref g)), z2, z3, z4, z5, z6]) ∧ (∀ x u, M1 x = some u → M' x = some u) ∧ ∀ n ∈ pre, ¬Grw c.rul n) ⟨⟨_, _, _, _, _, rfl⟩, fun _ _ h => h, fun _ h => (nomatch h)⟩ ?_ ?_
    · rintro pre n post ρ' M' hx ⟨⟨z2, z3, z4, z5, z6, rfl⟩, e, hp⟩
      have hm : n ∈ c.rul.map (·.1) := by rw [← sortT_mem, hx]; simp
      have fst : Grw c.rul n → growF c.rul = some n := growF_at hx hp
      have nxt : ¬Grw c.rul n → ∀ m ∈ pre ++ [n], ¬Grw c.rul m := fun hg m hm => by
        rcases List.mem_append.mp hm with h1 | h1
        · exact hp m h1
        · rw [List.mem_singleton.mp h1]; exact hg
      obtain ⟨u, hu⟩ := valG_of hm
      have hu2 : valG (kvU c) (.inr n) = some (.dat u.enc) := by
        have := valG_inr (fun u : Rul => Sl.dat u.enc) n c.rul
        rw [hu] at this
        exact this
      obtain ⟨_, gu, _, ub⟩ := hc.rul _ (valG_mem hu)
      have h2 := h1.ext e
      refine wg_name ?_
      refine ws_seq (ws_asg (w_dget (w_fldI rfl h2.ho cl n3 (sl_u _) (w_var rfl ⟨kvU c, .inr n, _, dcv_ref h2.hu, rfl, hu2, ?_⟩))))
      refine wg_tup (ds := [.str u.rel, encT u.hd, encB u.b]) rfl rfl (wgs_cons (wg_name (wgs_cons (wg_name (wgs_cons (wg_name (wgs_nil ?_)))))))
      show WS K _ [some (.raw (.ref A.o)), some (.raw (.ref g)), some (.str n), some (.str u.rel), some (.dat (encT u.hd)), some (.dat (encB u.b)), z6] M' _
      walk_at "f"
      refine ⟨u.b, rfl, ub, fun M2 e2 => ⟨_, rfl, ?_⟩⟩
      cases hmk : makesE [] u.b with
      | false =>
        rw [if_neg Bool.false_ne_true]
        exact ws_next ⟨⟨_, _, _, _, _, rfl⟩, fun x w hx => e2 _ _ (e _ _ hx), nxt fun ⟨u', e3, e4, _⟩ => by rw [hu] at e3; cases e3; rw [hmk] at e4; cases e4⟩
      | true =>
        rw [if_pos rfl]
        refine ws_for (wi_list (w_call (wa_cons (w_var rfl (wa_nil ⟨u.b, rfl, ub, fun p hp2 => ?_⟩)))))
        have e3 : ∀ x w, M1 x = some w → Ab.um M2 p (.lst ((relsOf u.b).map fun e => .dat (encE e))) x = some w := fun x w hx => by
          have h3 := e2 _ _ (e _ _ hx)
          rw [um_ne fun z => by rw [z, hp2] at h3; cases h3]
          exact h3
        generalize hM3 : Ab.um M2 p (.lst ((relsOf u.b).map fun e => .dat (encE e))) = M3 at e3
        have lp : M3 p = some (.lst ((relsOf u.b).map fun e => .dat (encE e))) := by rw [← hM3]; exact um_same
        refine ⟨_, lsv_ref lp, fun j ρ' M'' => (∃ z4 z6, ρ' = [some (.raw (.ref A.o)), some (.raw (.ref g)), some (.str n), some (.str u.rel), z4, some (.dat (encB u.b)), z6]) ∧ (∀ b u, M3 b = some u → M'' b = some u) ∧ ∀ p ∈ (relsOf u.b).take j, ¬(p.1 = u.rel ∨ Rch (edgesF (c.rul.map (·.2))) p.1 u.rel), ⟨⟨_, _, rfl⟩, fun b u hb => hb, fun _ hp => (nomatch hp)⟩, fun j ρ' M'' _ hJ => lsv_ref (hJ.2.1 _ _ lp), fun j ρ' M'' hj hJ => ?_, fun ρ' M'' hJ => ?_⟩
        · obtain ⟨⟨z4, z6, rfl⟩, e', hn'⟩ := hJ
          have hj' : j < (relsOf u.b).length := by rw [List.length_map] at hj; exact hj
          have gj : ((relsOf u.b).map fun e => Sl.dat (encE e)).getD j .non = .dat (encE (relsOf u.b)[j]) := by
            rw [List.getD_eq_getElem?_getD, List.getElem?_map, List.getElem?_eq_getElem hj']
            rfl
          have hmp : (relsOf u.b)[j] ∈ relsOf u.b := List.getElem_mem hj'
          have el : (relsOf u.b).take (j + 1) = (relsOf u.b).take j ++ [(relsOf u.b)[j]] := List.take_succ_eq_append_getElem hj'
          dsimp only
          rw [gj, el]
          generalize (relsOf u.b)[j] = p0 at hmp
          have gp := relsOf_good ub.2 p0 hmp
          have e4 : ∀ x w, M1 x = some w → M'' x = some w := fun x w hx => e' _ _ (e3 _ _ hx)
          have yes : (p0.1 = u.rel ∨ Rch (edgesF (c.rul.map (·.2))) p0.1 u.rel) → growF c.rul = some n := fun hp => fst ⟨u, hu, hmk, p0, hmp, hp⟩
          have no : ¬(p0.1 = u.rel ∨ Rch (edgesF (c.rul.map (·.2))) p0.1 u.rel) → ∀ p' ∈ (relsOf u.b).take j ++ [p0], ¬(p'.1 = u.rel ∨ Rch (edgesF (c.rul.map (·.2))) p'.1 u.rel) := fun hp p' hm' => by
            rcases List.mem_append.mp hm' with h1 | h1
            · exact hn' p' h1
            · rw [List.mem_singleton.mp h1]; exact hp
          refine wg_tup (ds := [.str p0.1, .bool p0.2]) rfl rfl (wgs_cons (wg_name (wgs_cons (wg_name (wgs_nil ?_)))))
          show WS K _ [some (.raw (.ref A.o)), some (.raw (.ref g)), some (.str n), some (.str u.rel), some (.bl p0.2), some (.dat (encB u.b)), some (.str p0.1)] _ _
          walk_at "f"
          by_cases hpn : p0.1 = u.rel
          · rw [if_pos (decide_eq_true hpn)]
            walk_at "f"
            have := q M'' fun x w hx => e4 _ _ (x1 _ _ hx)
            rw [yes (.inl hpn)] at this
            exact this
          · rw [if_neg (by rw [decide_eq_false hpn]; exact Bool.false_ne_true)]
            walk_at "f"
            refine ⟨g, fa, _, p0.1, rfl, hR.ext e4, oG, gp, fun M4 F fs e5 hF4 gf fl hiff => ?_⟩
            refine w2_inT (ks := fs) (lsv_ref (by rw [hF4, List.map_map]; rfl)) gu gf (by omega) ⟨_, rfl, ?_⟩
            by_cases hin : u.rel ∈ fs
            · rw [if_pos (decide_eq_true hin)]
              walk_at "f"
              have := q M4 fun x w hx => e5 _ _ (e4 _ _ (x1 _ _ hx))
              rw [yes (.inr ((hiff _).mp hin))] at this
              exact this
            · rw [if_neg (by rw [decide_eq_false hin]; exact Bool.false_ne_true)]
              exact ws_next ⟨⟨_, _, rfl⟩, fun b u hb => e5 b u (e' b u hb), no fun hp => hp.elim hpn fun hr => hin ((hiff _).mpr hr)⟩
        · obtain ⟨⟨z4, z6, rfl⟩, e', hn'⟩ := hJ
          rw [List.length_map, List.take_length] at hn'
          exact ⟨⟨_, _, _, _, _, rfl⟩, fun x w hx => e' _ _ (e3 _ _ hx), nxt fun ⟨u', e3, _, p, hp, h4⟩ => by rw [hu] at e3; cases e3; exact hn' p hp h4⟩
    · rintro ρ' M' ⟨_, e, hp⟩
      exact ⟨fun x w hx => e _ _ (x1 _ _ hx), hp⟩
  · rintro ρ' M' ⟨e, hp⟩
    walk_at "f"
    have := q M' e
    rw [growF_no hp] at this
    exact this
end
end
section
local macro_rules | `(tactic| walk_at "fl") => `(tactic| with_reducible first | exact sl_r _ | exact sl_f _ | exact sl_u _ | exact sl_n _)
section
variable {w : World} {K : PySem.W.Frag} {mg : Str → Option Value} {base : Heap} {a : AD} {d : FD}
def wBad (o : Option Int) (l : Nat) : Prop := (∃ n, o = some n ∧ n ≠ (l : Int)) ∨ ¬(1 ≤ l ∧ l ≤ 4)
abbrev ruleI (n rel : Str) (ts : List Term) (b : List Lit) : List Chg := [.comes (.rule n rel ts b)]
/-- the state behind -/
abbrev aftC (c : Ct) (n rel : Str) (ts : List Term) (b : List Lit) : Ct := (chgs (puts c.items).tidy (ruleI n rel ts b)).tidy
open Classical in
noncomputable def ruleP (c c' : Ct) (n rel : Str) (ts : List Term) (b : List Lit) : Option (List Str) :=
  match valG c.rul n with
  | some _ => some ["exists", "rule", n]
  | none => match valG c.rel rel with
    | some _ => some ["base", rel]
    | none => if wBad (colsF c rel) ts.length then some ["width", rel] else
      match bodyE (colsF c') [] b with
      | .inl p => some p
      | .inr ks => match termsP ks false ts with
        | some p => some p
        | none => if Ring (edgesF (c'.rul.map (·.2))) then some ["ring"] else
          match growF c'.rul with
          | some m => some ["grows", m]
          | none => none
def A_rule (C R : Addr) : ASpX := fun ss M Q X => ∃ A c n rel ts b, ss = [.raw (.ref (SA.o A)), .str n, .str rel, .dat (encT ts), .dat (encB b)] ∧ SeAt C M A c ∧ CtOk c ∧ Ct.small c ∧ InitOk c.items ∧ (Item.rule n rel ts b).ok ∧
  (∀ i, i ≤ 1 → CtOk (chgs (puts c.items).tidy ((ruleI n rel ts b).take i)) ∧ Ct.small (chgs (puts c.items).tidy ((ruleI n rel ts b).take i))) ∧ CtOk (aftC c n rel ts b) ∧ Ct.small (aftC c n rel ts b) ∧
  (∀ p, ruleP c (aftC c n rel ts b) n rel ts b = some p → XP R "problem" M X (encP p)) ∧ (∀ M', ruleP c (aftC c n rel ts b) n rel ts b = none → (∀ x u, M x = some u → M' x = some u) → Q .non M')
theorem ok_check_rule (T : Txt K mg a d) : FnOk P w K mg base (L2.CX P w) 10 a.check_rule d.check_rule ["state", "name", "relation", "terms", "body"] (concX K (A_rule a.State a.Refused)) := by
  have cl := T.cl_State
  have n1 := T.na_State_relations
  have n3 := T.na_State_rules
  have G_columns : FnOk P w K mg base CX0 1 a.columns d.columns ["state", "relation"] (conc K (A_cols a.State)) := ok_columns T
  have G_State_change : FnOk P w K mg base CX0 9 a.State_change d.State_change ["self", "changes"] (conc K (A_change a.State K)) := ok_change T
  have G_check_terms : FnOk P w K mg base (L2.CX P w) 3 a.check_terms d.check_terms ["terms", "known", "lets_any"] (concX K (A_terms K a.Refused)) := ok_check_terms T
  have G_check_body : FnOk P w K mg base (L2.CX P w) 5 a.check_body d.check_body ["state", "body"] (concX K (A_body a.State a.Refused)) := ok_check_body T
  have G_has_ring : FnOk P w K mg base CX0 3 a.has_ring d.has_ring ["state"] (conc K (A_ring a.State)) := ok_has_ring T
  have G_growing : FnOk P w K mg base CX0 3 a.growing d.growing ["state"] (conc K (A_grow a.State)) := ok_growing T
  refine ab_okX T.F_check_rule sc_check_rule (fun ss M Q X ⟨A, c, n, rel, ts, b, e, _⟩ => by subst e; rfl) fun cdv Ar outer s H E hr => ?_
  have hu64 := hr.units
  have hu65 := room65 hr
  refine ⟨_, (pss_cons (ps_if (pt_cmp (pc_din (hu1 hu64) (pv 1) (pe_fld (pv 0) rfl))) (pss_one (ps_raise rfl (takes_of rfl rfl rfl rfl) (SupX.pmk_one T.X_Refused.o T.X_Refused.i T.X_Refused.ti (T.X_Refused.fn w base) (hr.mono (by omega)) T.X_Refused.bi pass0 (by rfl) T.g_Refused (pe_tup (pa_cons pe_str (pa_cons pe_str (pa_cons (pv 1) pa_nil))))))) pss_nil)
  (pss_cons (ps_if (pt_cmp (pc_din (hu1 hu64) (pv 2) (pe_fld (pv 0) rfl))) (pss_one (ps_raise rfl (takes_of rfl rfl rfl rfl) (SupX.pmk_one T.X_Refused.o T.X_Refused.i T.X_Refused.ti (T.X_Refused.fn w base) (hr.mono (by omega)) T.X_Refused.bi pass0 (by rfl) T.g_Refused (pe_tup (pa_cons pe_str (pa_cons (pv 2) pa_nil)))))) pss_nil)
  (pss_cons (ps_set (i := 5) sc_check_rule.nd rfl (Or.inl rfl) (pe_call G_columns (hr.mono (by omega)) (by rfl) T.g_columns T.F_columns.kp T.b_columns .nil pass0 (pa_cons (pv 0) (pa_cons (pv 2) pa_nil))))
  (pss_cons (ps_if (PW.pt (pw_or (PW.pt (pw_and (pt_cmpR op_notN (pv 5) pe_non (nomark _)) (pw_and1 (pt_cmpR (r := rNeD K) (op_neD hu64) (pv 5) (pe_callB (r := rLenS K) call_len_seq (by rfl) T.n_len PySem.boot_len (pa_cons (pv 3) pa_nil)) (nomark _))))) (pw_or1 (pt_not (pt_chain op_le op_le pe_int (pe_callB (r := rLenS K) call_len_seq (by rfl) T.n_len PySem.boot_len (pa_cons (pv 3) pa_nil)) (pe_glob (v := .int 4) (by rfl) T.c_MOST_COLUMNS ⟨_, rfl⟩)))))) (pss_one (ps_raise rfl (takes_of rfl rfl rfl rfl) (SupX.pmk_one T.X_Refused.o T.X_Refused.i T.X_Refused.ti (T.X_Refused.fn w base) (hr.mono (by omega)) T.X_Refused.bi pass0 (by rfl) T.g_Refused (pe_tup (pa_cons pe_str (pa_cons (pv 2) pa_nil)))))) pss_nil)
  (pss_cons (ps_set (i := 6) sc_check_rule.nd rfl (Or.inl rfl) (pe_meth (pv 0) T.cl_State T.m_State_change G_State_change (hr.mono (by omega)) T.b_State_change .nil pass0 (pa_cons (pe_lst (pa_cons (pe_tup (pa_cons pe_str (pa_cons (pe_tup (pa_cons pe_str (pa_cons (pv 1) (pa_cons (pv 2) (pa_cons (pv 3) (pa_cons (pv 4) pa_nil)))))) pa_nil))) pa_nil)) pa_nil)))
  (pss_cons (ps_expr (pe_callSD G_check_terms (hr.mono (by omega)) (by rfl) T.g_check_terms T.F_check_terms.kp T.b_check_terms .nil (fun σ => passAt (takes_of rfl rfl rfl rfl) σ) (pa_cons (pv 3) (pa_cons (pe_callSD G_check_body (hr.mono (by omega)) (by rfl) T.g_check_body T.F_check_body.kp T.b_check_body .nil (fun σ => passAt (takes_of rfl rfl rfl rfl) σ) (pa_cons (pv 6) (pa_cons (pv 4) pa_nil))) (pa_cons pe_bl pa_nil)))))
  (pss_cons (ps_if (pt_val (pe_call G_has_ring (hr.mono (by omega)) (by rfl) T.g_has_ring T.F_has_ring.kp T.b_has_ring .nil pass0 (pa_cons (pv 6) pa_nil))) (pss_one (ps_raise rfl (takes_of rfl rfl rfl rfl) (SupX.pmk_one T.X_Refused.o T.X_Refused.i T.X_Refused.ti (T.X_Refused.fn w base) (hr.mono (by omega)) T.X_Refused.bi pass0 (by rfl) T.g_Refused (pe_tup (pa_cons pe_str pa_nil))))) pss_nil)
  (pss_cons (ps_set (i := 7) sc_check_rule.nd rfl (Or.inl rfl) (pe_call G_growing (hr.mono (by omega)) (by rfl) T.g_growing T.F_growing.kp T.b_growing .nil pass0 (pa_cons (pv 6) pa_nil)))
  (pss_one (ps_if (pt_cmpR op_notN (pv 7) pe_non (nomark _)) (pss_one (ps_raise rfl (takes_of rfl rfl rfl rfl) (SupX.pmk_one T.X_Refused.o T.X_Refused.i T.X_Refused.ti (T.X_Refused.fn w base) (hr.mono (by omega)) T.X_Refused.bi pass0 (by rfl) T.g_Refused (pe_tup (pa_cons pe_str (pa_cons (pv 7) pa_nil)))))) pss_nil)))))))))), ?_⟩
  rintro ss M Q X ⟨A, c, n, rel, ts, b, rfl, h, hc, hs, hi, hit, hst, hc', hs', px, q⟩
  walk_at "k"
  show WS _ _ [some (.raw (.ref A.o)), some (.str n), some (.str rel), some (.dat (encT ts)), some (.dat (encB b)), none, none, none] M _
  obtain ⟨gn, gr, hts, hb⟩ := hit
  have tsl := hts.1
  generalize hc2 : aftC c n rel ts b = c' at hc' hs' px q
  unfold ruleP at px q
  have hv := valG_inr (fun u : Rul => Sl.dat u.enc) n c.rul
  walk_at "e"
  refine w_din (w_var rfl (w_fldI rfl h.ho cl n3 (sl_u _) ⟨kvU c, .inr n, dcv_ref h.hu, rfl, ?_⟩))
  cases e1 : valG c.rul n with
  | some x =>
    rw [e1] at px q hv
    refine ⟨true, by rw [show valG (kvU c) (.inr n) = _ from hv]; rfl, ?_⟩
    rw [if_pos rfl]
    refine ws_raiseF ?_
    walk_at "e"
    exact fun d hd => (px [("exists" : Str), "rule", n] rfl).at hd
  | none =>
    rw [e1] at px q hv
    refine ⟨false, by rw [show valG (kvU c) (.inr n) = _ from hv]; rfl, ?_⟩
    rw [if_neg Bool.false_ne_true]
    dsimp only at px q
    have hv2 := valG_inr (fun i : Int => Sl.int i) rel c.rel
    walk_at "e"
    refine w_din (w_var rfl (w_fldI rfl h.ho cl n1 (sl_r _) ⟨kvR c, .inr rel, dcv_ref h.hr, rfl, ?_⟩))
    cases e2 : valG c.rel rel with
    | some x =>
      rw [e2] at px q hv2
      refine ⟨true, by rw [show valG (kvR c) (.inr rel) = _ from hv2]; rfl, ?_⟩
      rw [if_pos rfl]
      refine ws_raiseF ?_
      walk_at "e"
      exact fun d hd => (px [("base" : Str), rel] rfl).at hd
    | none =>
      rw [e2] at px q hv2
      refine ⟨false, by rw [show valG (kvR c) (.inr rel) = _ from hv2]; rfl, ?_⟩
      rw [if_neg Bool.false_ne_true]
      dsimp only at px q
      walk_at "f"
      refine ⟨A, c, rel, rfl, h, hc, hs, gr, ?_⟩
      refine ws_mid (fun ρ' M' => M' = M ∧ ρ' = [some (.raw (.ref A.o)), some (.str n), some (.str rel), some (.dat (encT ts)), some (.dat (encB b)), some (.dat (encO (colsF c rel))), none, none] ∧ ¬wBad (colsF c rel) ts.length) ?_ ?_
      · have rz : wBad (colsF c rel) ts.length → XP a.Refused "problem" M X (encP ["width", rel]) := fun bad => px _ (if_pos bad)
        cases hw : colsF c rel with
        | none =>
          rw [hw] at rz
          dsimp only [encO]
          walk_at "f"
          rw [List.length_map]
          refine ite_d (fun l1 => ?_) (fun l1 => ?_)
          · walk_at "f"
            by_cases l2 : (ts.length : Int) ≤ 4
            · rw [decide_eq_true l2]
              walk_at "f"
              exact ⟨rfl, rfl, fun z => z.elim (fun ⟨k, e, _⟩ => (nomatch e)) fun z => z ⟨by omega, by omega⟩⟩
            · rw [decide_eq_false l2]
              rw [if_pos (by rfl)]
              refine ws_raiseF ?_
              walk_at "f"
              exact fun d hd => (rz (.inr fun z => by omega)).at hd
          · walk_at "f"
            refine ws_raiseF ?_
            walk_at "f"
            exact fun d hd => (rz (.inr fun z => by omega)).at hd
        | some k =>
          rw [hw] at rz
          dsimp only [encO]
          walk_at "f"
          rw [List.length_map]
          by_cases hk : k = (ts.length : Int)
          · rw [if_neg (by simp [hk])]
            walk_at "f"
            rw [List.length_map]
            refine ite_d (fun l1 => ?_) (fun l1 => ?_)
            · walk_at "f"
              by_cases l2 : (ts.length : Int) ≤ 4
              · rw [decide_eq_true l2]
                walk_at "f"
                exact ⟨rfl, rfl, fun z => z.elim (fun ⟨k', e, e2⟩ => (by cases e; exact e2 hk)) fun z => z ⟨by omega, by omega⟩⟩
              · rw [decide_eq_false l2]
                rw [if_pos (by rfl)]
                refine ws_raiseF ?_
                walk_at "f"
                exact fun d hd => (rz (.inr fun z => by omega)).at hd
            · walk_at "f"
              refine ws_raiseF ?_
              walk_at "f"
              exact fun d hd => (rz (.inr fun z => by omega)).at hd
          · rw [if_pos (by simp [hk]), if_pos rfl]
            refine ws_raiseF ?_
            walk_at "f"
            exact fun d hd => (rz (.inl ⟨k, rfl, hk⟩)).at hd
      rintro ρ' M' ⟨rfl, rfl, nb⟩
      rw [if_neg nb] at px q
      refine ws_seq (ws_set (w_meth (w_var rfl ⟨A.o, A.dx, sfld A, rfl, h.ho, by kernel_rfl, wa_cons (w_lstD ?_)⟩)))
      walk_at "f"
      refine ⟨A, c, _, ruleI n rel ts b, rfl, lsv_dat (ds := [(Chg.comes (.rule n rel ts b)).enc]), h, hc, hs, hi, fun x hx => ?_, hst, fun M1 A1 h1 f1 => ?_⟩
      · rw [List.mem_singleton.mp hx]
        exact ⟨gn, gr, hts, hb⟩
      have h2 : SeAt a.State M1 A1 c' := by rw [← hc2]; exact h1
      have x1 : ∀ b u, M' b = some u → M1 b = some u := fun b u hb => (f1 b u hb).1
      refine ws_mid (fun ρ' N => (∀ x u, M1 x = some u → N x = some u) ∧ ρ' = [some (.raw (.ref A.o)), some (.str n), some (.str rel), some (.dat (encT ts)), some (.dat (encB b)), some (.dat (encO (colsF c rel))), some (.raw (.ref A1.o)), none] ∧ ∃ ks, bodyE (colsF c') [] b = .inr ks ∧ termsP ks false ts = none) ?_ ?_
      · walk_at "f"
        refine w_callX ?_
        walk_at "f"
        refine w_callX ?_
        walk_at "f"
        refine ⟨A1, c', b, rfl, h2, hc', hs', hb, fun p e => (px p (by rw [e])).ext x1, fun ks N e xN => ?_⟩
        walk_at "f"
        obtain ⟨tx1, tx2⟩ := bodyE_txt (cols := colsF c') (b := b) (ks := []) hb.2 fun _ h => nomatch h
        refine ⟨_, ks, false, ts, rfl, .inr rfl, hts, (tx2 ks e).2, by have := (tx2 ks e).1; rw [List.length_nil] at this; have := hb.1; omega, fun p e2 => (px p (by rw [e]; dsimp only; rw [e2])).ext fun x u hx => xN _ _ (x1 _ _ hx), fun e2 => ?_⟩
        exact ⟨xN, rfl, ks, e, e2⟩
      rintro ρ' N ⟨xN, rfl, ks, eb, et⟩
      rw [eb] at px q
      dsimp only at px q
      rw [et] at px q
      dsimp only at px q
      have h3 := h2.ext xN
      have x2 : ∀ b u, M' b = some u → N b = some u := fun b u hb => xN _ _ (x1 _ _ hb)
      walk_at "f"
      refine ⟨A1, c', rfl, h3, hc', hs', fun N2 r x3 hr2 => ⟨_, rfl, ?_⟩⟩
      have x4 : ∀ b u, M' b = some u → N2 b = some u := fun b u hb => x3 _ _ (x2 _ _ hb)
      by_cases hg : Ring (edgesF (c'.rul.map (·.2)))
      · rw [if_pos hg] at px
        rw [if_pos (hr2.mpr hg)]
        refine ws_raiseF ?_
        walk_at "f"
        exact fun d hd => ((px [("ring" : Str)] rfl).ext x4).at hd
      · rw [if_neg hg] at px q
        rw [if_neg fun z => hg (hr2.mp z)]
        walk_at "f"
        refine ⟨A1, c', rfl, h3.ext x3, hc', hs', fun N3 x5 => ?_⟩
        have x6 : ∀ b u, M' b = some u → N3 b = some u := fun b u hb => x5 _ _ (x4 _ _ hb)
        cases hgr : growF c'.rul with
        | none =>
          rw [hgr] at q
          dsimp only [encN]
          walk_at "f"
          exact q N3 rfl x6
        | some m =>
          rw [hgr] at px
          dsimp only [encN]
          walk_at "f"
          refine ws_raiseF ?_
          walk_at "f"
          exact fun d hd => ((px [("grows" : Str), m] rfl).ext x6).at hd
end
end
section
local macro_rules | `(tactic| walk_at "fl") => `(tactic| with_reducible first | exact sl_r _ | exact sl_f _ | exact sl_u _ | exact sl_n _)
section
variable {w : World} {K : PySem.W.Frag} {mg : Str → Option Value} {base : Heap} {a : AD} {d : FD}
theorem ok_lrelsof (T : Txt K mg a d) : FnOk P w K mg base CX0 1 a.law_relations_of d.law_relations_of ["_law_body_here"] (conc K A_relsof) := by
  refine ab_ok T.F_law_relations_of sc_law_relations_of (fun ss M Q ⟨b, e, _⟩ => by subst e; rfl) fun cdv Ar outer s H E hr => ?_
  have hu64 := hr.units
  have hu65 := room65 hr
  refine ⟨_, (pss_cons (ps_set (i := 1) sc_law_relations_of.nd rfl (Or.inl rfl) (pe_lst pa_nil))
  (pss_cons (ps_for PassesOwn.never rfl (pi_tup (pv 0)) (pg_name (i := 2) sc_law_relations_of.nd rfl (Or.inl rfl)) (pss_one (ps_if (pt_cmpR (r := rInD K) (op_inD hu65) (pe_ix (r := rIxT K) ix_tup (pv 2) pe_int (fun _ _ => rfl)) (pe_lst (pa_cons pe_str (pa_cons pe_str (pa_cons pe_str pa_nil)))) (by rfl)) (pss_one (ps_expr (pe_bm PySem.F.plainAttrs_list PySem.F.slot_list_append PySem.F.type_list_append mt_append (pv 1) (pa_cons (pe_tup (pa_cons (pe_ix (r := rIxT K) ix_tup (pv 2) (pe_op op_sub (pe_callB (r := rLenS K) call_len_seq (by rfl) T.n_len PySem.boot_len (pa_cons (pv 2) pa_nil)) pe_int) (fun _ _ => rfl)) (pa_cons (pe_cmpR (r := rNeD K) (op_neD hu64) (pe_ix (r := rIxT K) ix_tup (pv 2) pe_int (fun _ _ => rfl)) pe_str (nomark _)) pa_nil))) pa_nil)))) pss_nil)))
  (pss_one (ps_ret (pv 1))))), ?_⟩
  rintro ss M Q ⟨b, rfl, hb, q⟩
  walk_at "k"
  show WS K _ [some (.dat (encB b)), none, none] M _
  refine ws_seq (ws_set (w_lstM (wa_nil ⟨by decide, fun p hp => ?_⟩)))
  have bl := hb.1
  refine ws_seq (ws_forT (xs := b) (enc := Lit.enc) (M1 := Ab.um M p (.lst [])) (w_var rfl ⟨rfl, rfl⟩) (fun pre ρ' M' => (∃ z, ρ' = [some (.dat (encB b)), some (.raw (.ref p)), z]) ∧ M' = Ab.um M p (.lst ((relsOf pre).map fun e => .dat (encE e)))) ⟨⟨none, rfl⟩, rfl⟩ ?_ ?_)
  · rintro pre l post ρ' M' hx ⟨⟨z, rfl⟩, rfl⟩
    have hpl : pre.length + 1 ≤ b.length := by rw [hx, List.length_append, List.length_cons]; omega
    have rl := relsOf_len pre
    rw [relsOf_snoc]
    have app : ∀ (e : Str × Bool) (te : TE) (ρ2 : Rho) (C bk ct : Rho → MH → Prop) (rt : Sl → MH → Prop), ρ2[1]? = some (some (.raw (.ref p))) → (∀ Q2 : Sl → MH → Prop, Q2 (.dat (encE e)) (Ab.um M p (.lst ((relsOf pre).map fun e => .dat (encE e)))) → W K te ρ2 (Ab.um M p (.lst ((relsOf pre).map fun e => .dat (encE e)))) Q2) →
        C ρ2 (Ab.um M p (.lst ((relsOf pre ++ [e]).map fun e => .dat (encE e)))) → WS K (tDrop (tBM K "list" rAppend (tVar 1) (tCons te tNil))) ρ2 (Ab.um M p (.lst ((relsOf pre).map fun e => .dat (encE e)))) ⟨C, rt, bk, ct⟩ := fun e te ρ2 C bk ct rt e1 hte hC => by
      refine ws_drop (w_bm (w_var e1 ⟨ty_lst (lsv_ref um_same), wa_cons (hte _ (wa_nil (wm_append um_same (by rw [List.length_map]; omega) ?_)))⟩))
      rw [um_um]
      rw [List.map_append] at hC
      exact hC
    have inF : ∀ (z : Str) (M : MH) (Q : Sl → MH → Prop), goodS z = true → Q (.bl (decide (z ∈ [("fact" : Str), "not", "count"]))) M → W2 K (rInD K) (.dat (.str z)) (.dat (.list [.str "fact", .str "not", .str "count"])) M Q := fun z M Q hz q => w2_inT (ks := [("fact" : Str), "not", "count"]) (lsv_dat (ds := [.str "fact", .str "not", .str "count"])) hz (by decide +kernel) (by decide) q
    refine wg_name ?_
    cases l with
    | fact r ts =>
      show WS K _ [some (.dat (encB b)), some (.raw (.ref p)), some (.dat (.tuple [.str "fact", .str r, encT ts]))] _ _
      walk_at "f"
      refine inF _ _ _ (by decide +kernel) ⟨_, rfl, ?_⟩
      rw [if_pos (by decide +kernel)]
      refine app (r, false) _ _ _ _ _ _ rfl (fun Q2 q2 => ?_) ⟨⟨_, rfl⟩, rfl⟩
      walk_at "f"
      exact q2
    | neg r ts =>
      show WS K _ [some (.dat (encB b)), some (.raw (.ref p)), some (.dat (.tuple [.str "not", .str r, encT ts]))] _ _
      walk_at "f"
      refine inF _ _ _ (by decide +kernel) ⟨_, rfl, ?_⟩
      rw [if_pos (by decide +kernel)]
      refine app (r, true) _ _ _ _ _ _ rfl (fun Q2 q2 => ?_) ⟨⟨_, rfl⟩, rfl⟩
      walk_at "f"
      exact q2
    | compare op s t =>
      show WS K _ [some (.dat (encB b)), some (.raw (.ref p)), some (.dat (.tuple [.str "compare", .str op, s.enc, t.enc]))] _ _
      walk_at "f"
      refine inF _ _ _ (by decide +kernel) ⟨_, rfl, ?_⟩
      rw [if_neg (by decide +kernel)]
      exact ws_next ⟨⟨_, rfl⟩, by rw [show relF (.compare op s t) = none from rfl, List.append_nil]⟩
    | is x op s t =>
      show WS K _ [some (.dat (encB b)), some (.raw (.ref p)), some (.dat (.tuple [.str "is", .str x, .str op, s.enc, t.enc]))] _ _
      walk_at "f"
      refine inF _ _ _ (by decide +kernel) ⟨_, rfl, ?_⟩
      rw [if_neg (by decide +kernel)]
      exact ws_next ⟨⟨_, rfl⟩, by rw [show relF (.is x op s t) = none from rfl, List.append_nil]⟩
    | count x r ts =>
      show WS K _ [some (.dat (encB b)), some (.raw (.ref p)), some (.dat (.tuple [.str "count", .str x, .str r, encT ts]))] _ _
      walk_at "f"
      refine inF _ _ _ (by decide +kernel) ⟨_, rfl, ?_⟩
      rw [if_pos (by decide +kernel)]
      refine app (r, true) _ _ _ _ _ _ rfl (fun Q2 q2 => ?_) ⟨⟨_, rfl⟩, rfl⟩
      walk_at "f"
      exact q2
  · rintro ρ' M' ⟨⟨z, rfl⟩, rfl⟩
    walk_at "f"
    exact q p hp
def A_lmakes : ASp := fun ss M Q => ∃ b, ss = [.dat (encB b)] ∧ okB b ∧ Q (.bl (makesE [] b)) M
theorem ok_lmakes (T : Txt K mg a d) : FnOk P w K mg base CX0 2 a.law_makes d.law_makes ["_law_body_here"] (conc K A_lmakes) := by
  have G_law_binds : FnOk P w K mg base CX0 1 a.law_binds d.law_binds ["_law_literal_here"] (conc K A_binds) := ok_binds T
  refine ab_ok T.F_law_makes sc_law_makes (fun ss M Q ⟨b, e, _⟩ => by subst e; rfl) fun cdv Ar outer s H E hr => ?_
  have hu64 := hr.units
  have hu65 := room65 hr
  refine ⟨_, (pss_cons (ps_set (i := 1) sc_law_makes.nd rfl (Or.inl rfl) (pe_lst pa_nil))
  (pss_cons (ps_for PassesOwn.never rfl (pi_tup (pv 0)) (pg_name (i := 2) sc_law_makes.nd rfl (Or.inl rfl)) (pss_cons (ps_if (PW.pt (pw_and (pt_cmpR (r := rEqD K) (op_eqD hu64) (pe_ix (r := rIxT K) ix_tup (pv 2) pe_int (fun _ _ => rfl)) pe_str (nomark _)) (pw_and1 (pt_cmpR (r := rNotInD K) (op_notInD hu65) (pe_ix (r := rIxT K) ix_tup (pv 2) pe_int (fun _ _ => rfl)) (pv 1) (by rfl))))) (pss_one (ps_ret pe_bl)) pss_nil)
  (pss_one (ps_set (i := 1) sc_law_makes.nd rfl (Or.inl rfl) (pe_op (r := rCatL K) op_catL (pv 1) (pe_call G_law_binds (hr.mono (by omega)) (by rfl) T.g_law_binds T.F_law_binds.kp T.b_law_binds .nil pass0 (pa_cons (pv 2) pa_nil)))))))
  (pss_one (ps_ret pe_bl)))), ?_⟩
  rintro ss M Q ⟨b, rfl, hb, q⟩
  walk_at "k"
  show WS K _ [some (.dat (encB b)), none, none] M _
  have bl := hb.1
  refine ws_seq (ws_set (w_lstD (wa_nil ⟨[], rfl, by simp, ?_⟩)))
  refine ws_seq (ws_forT (xs := b) (enc := Lit.enc) (M1 := M) (w_var rfl ⟨rfl, rfl⟩) (fun pre ρ' M' => ∃ k z, ρ' = [some (.dat (encB b)), some (.dat (bnd k)), z] ∧ M' = M ∧ (∀ post, b = pre ++ post → makesE [] b = makesE k post) ∧ k.length ≤ 1000 * pre.length ∧ ∀ z ∈ k, goodS z = true) ⟨[], none, rfl, rfl, fun post e => by rw [e]; rfl, by simp, fun _ h => nomatch h⟩ ?_ ?_)
  · rintro pre l post ρ' M' hx ⟨k, z, rfl, rfl, hm, hk, hg⟩
    have hl : l.ok := hb.2 l (by rw [hx]; simp)
    have hpl : pre.length + 1 ≤ b.length := by rw [hx, List.length_append, List.length_cons]; omega
    have hm1 := hm (l :: post) hx
    have hbl := bindsF_len hl
    have hbg := bindsF_good hl
    have next : makesE k (l :: post) = makesE (k ++ bindsF l) post → ∀ post', b = (pre ++ [l]) ++ post' → makesE [] b = makesE (k ++ bindsF l) post' := fun e post' e' => by
      have : post' = post := by
        rw [hx, List.append_assoc] at e'
        exact (List.cons.inj (List.append_cancel_left e')).2.symm
      rw [this, hm1, e]
    refine wg_name ?_
    refine ws_mid (fun ρ' M'' => ρ' = [some (.dat (encB b)), some (.dat (bnd k)), some (.dat l.enc)] ∧ M'' = M' ∧ makesE k (l :: post) = makesE (k ++ bindsF l) post) ?_ ?_
    · cases l with
      | fact r ts =>
        show WS K _ [some (.dat (encB b)), some (.dat (bnd k)), some (.dat (.tuple [.str "fact", .str r, encT ts]))] _ _
        walk_at "f"
        exact ⟨rfl, rfl, rfl⟩
      | neg r ts =>
        show WS K _ [some (.dat (encB b)), some (.dat (bnd k)), some (.dat (.tuple [.str "not", .str r, encT ts]))] _ _
        walk_at "f"
        exact ⟨rfl, rfl, rfl⟩
      | compare op s t =>
        show WS K _ [some (.dat (encB b)), some (.dat (bnd k)), some (.dat (.tuple [.str "compare", .str op, s.enc, t.enc]))] _ _
        walk_at "f"
        exact ⟨rfl, rfl, rfl⟩
      | is x op s t =>
        show WS K _ [some (.dat (encB b)), some (.dat (bnd k)), some (.dat (.tuple [.str "is", .str x, .str op, s.enc, t.enc]))] _ _
        walk_at "f"
        refine w2_notInT (ks := k) (lsv_strs (ks := k)) hl.1 hg (by omega) ?_
        by_cases hx2 : x ∈ k
        · refine ⟨_, rfl, ?_⟩
          rw [if_neg (by simp [hx2])]
          exact ws_next ⟨rfl, rfl, makesE_is hx2⟩
        · refine ⟨_, rfl, ?_⟩
          rw [if_pos (by simp [hx2])]
          have e0 : makesE k (.is x op s t :: post) = if x ∈ k then makesE k post else true := rfl
          rw [if_neg hx2] at e0
          rw [hm1, e0] at q
          walk_at "f"
          exact q
      | count x r ts =>
        show WS K _ [some (.dat (encB b)), some (.dat (bnd k)), some (.dat (.tuple [.str "count", .str x, .str r, encT ts]))] _ _
        walk_at "f"
        exact ⟨rfl, rfl, rfl⟩
    · rintro ρ' M'' ⟨rfl, rfl, hmk⟩
      walk_at "f"
      refine ⟨l, rfl, hl, ?_⟩
      refine w2_cat lsv_dat lsv_dat (by rw [List.length_map, List.length_map]; omega) ?_
      exact ⟨k ++ bindsF l, _, by rw [← List.map_append]; rfl, rfl, next hmk, by rw [List.length_append, List.length_append]; simp; omega, fun z hz => (List.mem_append.mp hz).elim (hg z) (hbg z)⟩
  · rintro ρ' M' ⟨k, z, rfl, rfl, hm, hk, hg⟩
    have e := hm [] (by simp)
    walk_at "f"
    rw [e] at q
    exact q
end
end
section
local macro_rules | `(tactic| walk_at "fl") => `(tactic| with_reducible first | exact sl_r _ | exact sl_f _ | exact sl_u _ | exact sl_n _)
section
variable {w : World} {K : PySem.W.Frag} {mg : Str → Option Value} {base : Heap} {a : AD} {d : FD}
/-- rules as they stand -/
structure RuOk (W : List (Str × Rul)) : Prop where
  nd : (W.map (·.1)).Nodup
  l : W.length ≤ 60
  n : ∀ p ∈ W, goodS p.1 = true
  r : ∀ p ∈ W, goodS p.2.rel = true
  b : ∀ p ∈ W, okB p.2.b
theorem ru_at {W : List (Str × Rul)} (h : RuOk W) {i : Nat} (hi : i < W.length) : ((kvRu W).map fun q => kS q.1).getD i .non = .str W[i].1 ∧ valG (kvRu W) (.inr W[i].1) = some (.dat W[i].2.enc) := by
  refine ⟨?_, ?_⟩
  · rw [List.getD_eq_getElem?_getD, List.map_map, List.getElem?_map, List.getElem?_eq_getElem hi]
    rfl
  · have := valG_inr (fun u : Rul => Sl.dat u.enc) W[i].1 W
    have e : valG W W[i].1 = some W[i].2 := valG_nodup h.nd (List.getElem_mem hi)
    rw [e] at this
    exact this
def A_lreach : ASp := fun ss M Q => ∃ u W, ss = [.raw (.ref u)] ∧ M u = some (.dK (kvRu W)) ∧ RuOk W ∧ ∀ (M' : MH) g fa R, TbAt M' g fa R → (∀ n y, InT R n y ↔ Rch (edgesF (W.map (·.2))) n y) → (∀ n ys, valG R n = some ys → ys.length ≤ 100000 ∧ ∀ y ∈ ys, goodS y = true) → GrFr M M' g fa → Q (.raw (.ref g)) M'
theorem ok_lreach (T : Txt K mg a d) : FnOk P w K mg base CX0 2 a.law_reach d.law_reach ["_law_rules"] (conc K A_lreach) := by
  have G_law_relations_of : FnOk P w K mg base CX0 1 a.law_relations_of d.law_relations_of ["_law_body_here"] (conc K A_relsof) := ok_lrelsof T
  refine ab_ok T.F_law_reach sc_law_reach (fun ss M Q ⟨u, W, e, _⟩ => by subst e; rfl) fun cdv Ar outer s H E hr => ?_
  have hu64 := hr.units
  have hu65 := room65 hr
  refine ⟨_, (pss_cons (ps_set (i := 1) sc_law_reach.nd rfl (Or.inl rfl) pe_dnewK)
  (pss_cons (ps_lock (ps_for PassesOwn.never rfl (pi_keys (pv 0)) (pg_name (i := 2) sc_law_reach.nd rfl (Or.inl rfl)) (pss_one (ps_dput (hu1 hu64) (pv 1) (pe_ix (r := rIxT K) ix_tup (pe_dget (hu1 hu64) (pv 0) (pv 2) (fun _ _ => rfl)) pe_int (fun _ _ => rfl)) (pe_lst pa_nil) rfl))))
  (pss_cons (ps_for PassesOwn.never rfl (pi_range1 rfl T.n_range (pa_cons (pe_op op_add (pe_callB (r := rLenDk) call_lenD (by rfl) T.n_len PySem.boot_len (pa_cons (pv 0) pa_nil)) pe_int) pa_nil)) (pg_name (i := 3) sc_law_reach.nd rfl (Or.inl rfl)) (pss_one (ps_lock (ps_for PassesOwn.never rfl (pi_keys (pv 0)) (pg_name (i := 2) sc_law_reach.nd rfl (Or.inl rfl)) (pss_cons (ps_set (i := 4) sc_law_reach.nd rfl (Or.inl rfl) (pe_ix (r := rIxT K) ix_tup (pe_dget (hu1 hu64) (pv 0) (pv 2) (fun _ _ => rfl)) pe_int (fun _ _ => rfl)))
  (pss_one (ps_for PassesOwn.never rfl (pi_list (pe_call G_law_relations_of (hr.mono (by omega)) (by rfl) T.g_law_relations_of T.F_law_relations_of.kp T.b_law_relations_of .nil pass0 (pa_cons (pe_ix (r := rIxT K) ix_tup (pe_dget (hu1 hu64) (pv 0) (pv 2) (fun _ _ => rfl)) pe_int (fun _ _ => rfl)) pa_nil))) (pg_tupK (K := K) (n := 2) rfl rfl (pgs_cons (pg_name (i := 5) sc_law_reach.nd rfl (Or.inl rfl)) (pgs_cons (pg_name (i := 6) sc_law_reach.nd rfl (Or.inl rfl)) pgs_nil))) (pss_one (ps_for PassesOwn.never rfl (pi_list (pe_op (r := rCatL K) op_catL (pe_lst (pa_cons (pv 5) pa_nil)) (pe_dget2 (hu1 hu64) (pv 1) (pv 5) (pe_lst pa_nil) ⟨rfl, rfl, rfl, rfl⟩))) (pg_name (i := 7) sc_law_reach.nd rfl (Or.inl rfl)) (pss_one (ps_if (pt_cmpR (r := rNotInD K) (op_notInD hu65) (pv 7) (pe_dget (hu1 hu64) (pv 1) (pv 4) (fun _ _ => rfl)) (by rfl)) (pss_one (ps_expr (pe_bm PySem.F.plainAttrs_list PySem.F.slot_list_append PySem.F.type_list_append mt_append (pe_dget (hu1 hu64) (pv 1) (pv 4) (fun _ _ => rfl)) (pa_cons (pv 7) pa_nil)))) pss_nil)))))))))))
  (pss_one (ps_ret (pv 1)))))), ?_⟩
  rintro ss M Q ⟨u, W, rfl, hu, hW, q⟩
  walk_at "k"
  show WS K _ [some (.raw (.ref u)), none, none, none, none, none, none, none] M _
  have wl := hW.l
  have oG : GrOk (edgesF (W.map (·.2))) := edgesF_ok (fun v hv => by
    obtain ⟨p, hp, rfl⟩ := List.mem_map.mp hv
    exact hW.b p hp) (by rw [List.length_map]; omega)
  refine ws_seq (ws_set (w_dnew fun g hg => ?_))
  have ug : u ≠ g := fun z => by rw [z, hg] at hu; cases hu
  have hu1 : ∀ x, Ab.um M g x u = some (.dK (kvRu W)) := fun x => by rw [um_ne ug]; exact hu
  have unlock : ∀ {N : MH} {od : Obj} {v : HO} {fa : List (Str × Addr)}, FzE M N u g (.frz od v (.dK (kvRu W))) fa → GrFr M (Ab.um N u (.dK (kvRu W))) g fa := fun h => ⟨fun b x hb => by
    refine ⟨?_, (h.e b x hb).2⟩
    by_cases bu : b = u
    · subst bu; rw [um_same, ← hb, hu]
    · rw [um_ne bu]; exact (h.e b x hb).1 bu⟩
  have unT : ∀ {N : MH} {od : Obj} {v : HO} {fa : List (Str × Addr)} {R : Tb} {y : MO}, FzE M N u g (.frz od v (.dK (kvRu W))) fa → TbAt N g fa R → TbAt (Ab.um N u y) g fa R := fun h1 h2 => h2.umP ug h1.n
  refine ws_mid (fun ρ' M' => (∃ z, ρ' = [some (.raw (.ref u)), some (.raw (.ref g)), z, none, none, none, none, none]) ∧ ∃ fa R, TbAt M' g fa R ∧ (∀ n, n ∈ fa.map (·.1) ↔ ∃ w ∈ W.map (·.2), w.rel = n) ∧ (∀ n ys, valG R n = some ys → ys = []) ∧ GrFr M M' g fa) ?_ ?_
  · refine ws_lock (hu1 _) fun od v => ?_
    refine ws_for (wi_keys (w_var rfl ⟨u, od, v, kvRu W, rfl, um_same, fun i ρ' M' => (∃ z, ρ' = [some (.raw (.ref u)), some (.raw (.ref g)), z, none, none, none, none, none]) ∧ ∃ fa R, TbAt M' g fa R ∧ (∀ n, n ∈ fa.map (·.1) ↔ ∃ w ∈ (W.map (·.2)).take i, w.rel = n) ∧ (∀ n ys, valG R n = some ys → ys = []) ∧ FzE M M' u g (.frz od v (.dK (kvRu W))) fa ∧ fa.length ≤ i, ⟨⟨none, rfl⟩, [], [], ⟨by rw [um_ne ug.symm, um_same]; rfl, rfl, fun n a e => (by cases e), fun n n' a e => (by cases e)⟩, fun n => ⟨fun h => (nomatch h), fun ⟨_, h, _⟩ => (nomatch h)⟩, fun n ys e => (by cases e), ⟨um_same, fun n e => (by cases e), fun b x hb => ?_⟩, Nat.le_refl _⟩, fun i ρ' M' _ hJ => ?_, fun i ρ' M' hi hJ => ?_, fun ρ' M' hJ => ?_⟩))
    · have bg : b ≠ g := fun z => by rw [z, hg] at hb; cases hb
      exact ⟨fun bu => by rw [um_ne bu, um_ne bg]; exact hb, bg, fun n e => (by cases e)⟩
    · obtain ⟨_, fa, R, _, _, _, h, _⟩ := hJ
      exact h.z
    · obtain ⟨⟨z, rfl⟩, fa, R, hT, hk, he, hF, hl⟩ := hJ
      have hi' : i < W.length := by rw [List.length_map] at hi; exact hi
      obtain ⟨gi, vu⟩ := ru_at hW hi'
      have el : (W.map (·.2)).take (i + 1) = (W.map (·.2)).take i ++ [W[i].2] := by
        rw [List.take_succ_eq_append_getElem (by rw [List.length_map]; exact hi'), List.getElem_map]
      dsimp only
      rw [gi, el]
      generalize W[i] = w at gi vu
      refine wg_name ?_
      refine ws_dput (w_lstM (wa_nil ⟨by decide, fun p hp => ?_⟩))
      have fp := hT.fresh hp
      have hF2 := hF.new ug (k := w.2.rel) (x := lsN []) (y := .dK (kvA (putG fa w.2.rel p))) hp
      have hz : ∀ x, Ab.um M' p x u = some (.frz od v (.dK (kvRu W))) := fun x => (hF.fresh (x := x) hp).z
      refine w_var rfl (w_op (w_dget (w_var rfl (w_var rfl ⟨kvRu W, .inr w.1, _, dcv_frz (hz _), rfl, vu, w_int (w2_ixT rfl ?_)⟩))))
      refine ⟨g, kvA fa, .inr w.2.rel, rfl, rfl, by rw [um_ne fp.1.symm]; exact hT.at_, by unfold kvA; rw [List.length_map]; omega, ?_⟩
      have hT2 := hT.new (n := w.2.rel) hp []
      have ek : putG (kvA fa) (.inr w.2.rel) (.raw (.ref p)) = kvA (putG fa w.2.rel p) := putG_inr (fun p : Addr => Sl.raw (.ref p)) w.2.rel p fa
      have pk := putG_keys fa w.2.rel p
      have pl := putG_len fa w.2.rel p
      rw [ek]
      refine ⟨⟨_, rfl⟩, _, _, hT2, fun n => ?_, fun n ys e => ?_, hF2, by omega⟩
      · rw [pk]
        constructor
        · intro h
          have : n ∈ fa.map (·.1) ∨ n = w.2.rel := by
            split at h
            · exact .inl h
            · exact (List.mem_append.mp h).imp id List.mem_singleton.mp
          rcases this with h | rfl
          · obtain ⟨x, h1, h2⟩ := (hk n).mp h
            exact ⟨x, List.mem_append_left _ h1, h2⟩
          · exact ⟨w.2, by simp, rfl⟩
        · rintro ⟨x, h1, h2⟩
          have : n ∈ fa.map (·.1) ∨ n = w.2.rel := by
            rcases List.mem_append.mp h1 with h | h
            · exact .inl ((hk n).mpr ⟨x, h, h2⟩)
            · rw [List.mem_singleton.mp h] at h2; exact .inr h2.symm
          split
          · rename_i hin
            rcases this with h | rfl
            · exact h
            · exact hin
          · exact List.mem_append.mpr (this.imp id fun h => List.mem_singleton.mpr h)
      · rw [valG_put] at e
        split at e
        · cases e; rfl
        · exact he n ys e
    · obtain ⟨⟨z, rfl⟩, fa, R, hT, hk, he, hF, hl⟩ := hJ
      rw [List.length_map, show W.length = (W.map (·.2)).length by rw [List.length_map], List.take_length] at hk
      exact ⟨hF.z, ⟨_, rfl⟩, fa, R, unT hF hT, hk, he, unlock hF⟩
  rintro ρ' M' ⟨⟨z, rfl⟩, fa, R, hT, hk, he, hF⟩
  have R0 : RtOk (edgesF (W.map (·.2))) 0 R := ⟨fun n ys e y hy => (by rw [he n ys e] at hy; cases hy), fun n ys e => (by rw [he n ys e]; exact List.nodup_nil), fun x y h => h.elim⟩
  clear he
  refine ws_mid (fun ρ' M' => (∃ z2 z3 z4 z5 z6 z7, ρ' = [some (.raw (.ref u)), some (.raw (.ref g)), z2, z3, z4, z5, z6, z7]) ∧ ∃ R, TbAt M' g fa R ∧ RtOk (edgesF (W.map (·.2))) (W.length + 1) R ∧ GrFr M M' g fa) ?_ ?_
  · have huM : ∀ {N : MH}, GrFr M N g fa → N u = some (.dK (kvRu W)) := fun h => (h.e _ _ hu).1
    refine ws_forRn (wa_cons (w_op (w_cb (wa_cons (w_var rfl (wa_nil (wl_lenDk (huM hF) (w_int ?_))))))))
    walk_at "f"
    refine ⟨((W.length + 1 : Nat) : Int), by rw [List.length_map]; rfl, by omega, by omega, fun i ρ' M' => (∃ z2 z3 z4 z5 z6 z7, ρ' = [some (.raw (.ref u)), some (.raw (.ref g)), z2, z3, z4, z5, z6, z7]) ∧ ∃ R, TbAt M' g fa R ∧ RtOk (edgesF (W.map (·.2))) i R ∧ GrFr M M' g fa, ⟨⟨_, _, _, _, _, _, rfl⟩, R, hT, R0, hF⟩, fun i ρ' M' hi hJ => ?_, fun ρ' M' hJ => ?_⟩
    · clear hT hF R0 R z
      obtain ⟨⟨z2, z3, z4, z5, z6, z7, rfl⟩, R, hT, hR, hF⟩ := hJ
      refine wg_name ?_
      refine ws_lock (huM hF) fun od v => ?_
      refine ws_for (wi_keys (w_var rfl ⟨u, od, v, kvRu W, rfl, um_same, fun k ρ' N => (∃ z2 z3 z4 z5 z6 z7, ρ' = [some (.raw (.ref u)), some (.raw (.ref g)), z2, z3, z4, z5, z6, z7]) ∧ ∃ R, TbAt N g fa R ∧ RtOk (edgesF (W.map (·.2))) i R ∧ (∀ w ∈ (W.map (·.2)).take k, ∀ p ∈ relsOf w.b, ∀ y, (y = p.1 ∨ stepN (edgesF (W.map (·.2))) i p.1 y) → InT R w.rel y) ∧ FzE M N u g (.frz od v (.dK (kvRu W))) fa, ⟨⟨_, _, _, _, _, _, rfl⟩, R, ?_, hR, fun w hw => (nomatch hw), ?_⟩, fun k ρ' N _ hJ => ?_, fun k ρ' N hk2 hJ => ?_, fun ρ' N hJ => ?_⟩))
      · exact hT.umP ug fun n e => (hF.e _ _ hu).2.2 n e
      · exact ⟨um_same, fun n e => (hF.e _ _ hu).2.2 n e, fun b x hb => ⟨fun bu => by rw [um_ne bu]; exact (hF.e _ _ hb).1, (hF.e _ _ hb).2⟩⟩
      · obtain ⟨_, R, _, _, _, h⟩ := hJ
        exact h.z
      · clear hT hR hF R z2 z3 z4 z5 z6 z7
        obtain ⟨⟨z2, z3, z4, z5, z6, z7, rfl⟩, R, hT, hR, hN, hF⟩ := hJ
        have hk' : k < W.length := by rw [List.length_map] at hk2; exact hk2
        obtain ⟨gi, vu⟩ := ru_at hW hk'
        have el : (W.map (·.2)).take (k + 1) = (W.map (·.2)).take k ++ [W[k].2] := by
          rw [List.take_succ_eq_append_getElem (by rw [List.length_map]; exact hk'), List.getElem_map]
        have hm : W[k] ∈ W := List.getElem_mem hk'
        dsimp only
        rw [gi, el]
        generalize W[k] = w at gi vu hm
        have wr := hW.r _ hm
        have wb := hW.b _ hm
        have key : w.2.rel ∈ fa.map (·.1) := (hk _).mpr ⟨w.2, List.mem_map.mpr ⟨w, hm, rfl⟩, rfl⟩
        obtain ⟨a0, ea⟩ := valG_of key
        have ev : valG (kvA fa) (.inr w.2.rel) = some (.raw (.ref a0)) := by
          have := valG_inr (fun p : Addr => Sl.raw (.ref p)) w.2.rel fa
          rw [ea] at this
          exact this
        refine wg_name ?_
        refine ws_seq (ws_set (w_op (w_dget (w_var rfl (w_var rfl ⟨kvRu W, .inr w.1, _, dcv_frz hF.z, rfl, vu, w_int (w2_ixT rfl ?_)⟩)))))
        show WS K _ [some (.raw (.ref u)), some (.raw (.ref g)), some (.str w.1), z3, some (.str w.2.rel), z5, z6, z7] N _
        refine ws_for (wi_list (w_call (wa_cons (w_op (w_dget (w_var rfl (w_var rfl ⟨kvRu W, .inr w.1, _, dcv_frz hF.z, rfl, vu, w_int (w2_ixT rfl (wa_nil ⟨w.2.b, rfl, wb, fun p hp => ?_⟩))⟩)))))))
        have fp := hT.fresh hp
        have lp : Ab.um N p (.lst ((relsOf w.2.b).map fun e => .dat (encE e))) p = some (.lst ((relsOf w.2.b).map fun e => .dat (encE e))) := um_same
        have hF2 := hF.fresh (x := .lst ((relsOf w.2.b).map fun e => .dat (encE e))) hp
        have hT2 := hT.umP (x := .lst ((relsOf w.2.b).map fun e => .dat (encE e))) fp.1 fp.2
        generalize Ab.um N p (.lst ((relsOf w.2.b).map fun e => .dat (encE e))) = N1 at lp hF2 hT2
        refine ⟨_, lsv_ref lp, fun j ρ' N2 => (∃ z5 z6 z7, ρ' = [some (.raw (.ref u)), some (.raw (.ref g)), some (.str w.1), z3, some (.str w.2.rel), z5, z6, z7]) ∧ N2 p = some (.lst ((relsOf w.2.b).map fun e => .dat (encE e))) ∧ ∃ S, LeT R S ∧ TbAt N2 g fa S ∧ RtOk (edgesF (W.map (·.2))) i S ∧ (∀ q ∈ (relsOf w.2.b).take j, ∀ y, (y = q.1 ∨ stepN (edgesF (W.map (·.2))) i q.1 y) → InT S w.2.rel y) ∧ FzE M N2 u g (.frz od v (.dK (kvRu W))) fa, ⟨⟨_, _, _, rfl⟩, lp, R, .refl, hT2, hR, fun q hq => (nomatch hq), hF2⟩, fun j ρ' N2 _ hJ => lsv_ref hJ.2.1, fun j ρ' N2 hj hJ => ?_, fun ρ' N2 hJ => ?_⟩
        · clear hT2 hF2 lp hF hT z5 z6 z7 hR
          obtain ⟨⟨z5, z6, z7, rfl⟩, lp, S, hle, hT, hS, hq, hF⟩ := hJ
          have hj' : j < (relsOf w.2.b).length := by rw [List.length_map] at hj; exact hj
          have gj : ((relsOf w.2.b).map fun e => Sl.dat (encE e)).getD j .non = .dat (encE (relsOf w.2.b)[j]) := by
            rw [List.getD_eq_getElem?_getD, List.getElem?_map, List.getElem?_eq_getElem hj']
            rfl
          have hmp : (relsOf w.2.b)[j] ∈ relsOf w.2.b := List.getElem_mem hj'
          have el2 : (relsOf w.2.b).take (j + 1) = (relsOf w.2.b).take j ++ [(relsOf w.2.b)[j]] := List.take_succ_eq_append_getElem hj'
          dsimp only
          rw [gj, el2]
          generalize (relsOf w.2.b)[j] = e at hmp
          have ge := relsOf_good wb.2 e hmp
          have hed : Edge (edgesF (W.map (·.2))) w.2.rel e.1 := edge_iff.mpr ⟨w.2, List.mem_map.mpr ⟨w, hm, rfl⟩, rfl, e.2, hmp⟩
          refine wg_tup (ds := [.str e.1, .bool e.2]) rfl rfl (wgs_cons (wg_name (wgs_cons (wg_name (wgs_nil ?_)))))
          show WS K _ [some (.raw (.ref u)), some (.raw (.ref g)), some (.str w.1), z3, some (.str w.2.rel), some (.str e.1), some (.bl e.2), z7] _ _
          have hes : ∃ s, (valG (kvA fa) (.inr e.1)).getD (.dat (.list [])) = s ∧ LsV K s N2 ((((valG S e.1).getD []).map PyData.str).map .dat) := by
            have ev : valG (kvA fa) (.inr e.1) = (valG fa e.1).map fun p => Sl.raw (.ref p) := valG_inr (fun p : Addr => Sl.raw (.ref p)) e.1 fa
            cases ec : valG fa e.1 with
            | none =>
              rw [ev, ec, hT.miss ec]
              exact ⟨_, rfl, lsv_dat (ds := [])⟩
            | some a1 =>
              rw [ev, ec]
              obtain ⟨es, e1, e2⟩ := hT.rows e.1 a1 ec
              rw [e1]
              exact ⟨_, rfl, lsv_ref e2⟩
          obtain ⟨sx, hsx, hls⟩ := hes
          have hgS : ∀ y ∈ (valG S e.1).getD [], Rch (edgesF (W.map (·.2))) e.1 y ∧ goodS y = true := fun y hy => by
            obtain ⟨ys, h1, h2⟩ := in_getD.mp hy
            have := hS.rc _ _ h1 y h2
            exact ⟨this, oG.g _ this.tgt⟩
          have hlS : ((valG S e.1).getD []).length ≤ 100000 := by
            cases h1 : valG S e.1 with
            | none => exact Nat.zero_le _
            | some ys => exact Nat.le_trans (hS.len h1) oG.l
          have hcv : ∀ y, (y = e.1 ∨ stepN (edgesF (W.map (·.2))) i e.1 y) → y ∈ e.1 :: (valG S e.1).getD [] := fun y hy => by
            rcases hy with rfl | h
            · exact List.mem_cons_self
            · exact List.mem_cons_of_mem _ (in_getD.mpr (hS.all _ _ h))
          generalize (valG S e.1).getD [] = ys at hls hgS hlS hcv
          refine ws_forD (xs := e.1 :: ys) (enc := PyData.str) (M1 := N2) ?_ (fun pre ρ' N3 => (∃ z7, ρ' = [some (.raw (.ref u)), some (.raw (.ref g)), some (.str w.1), z3, some (.str w.2.rel), some (.str e.1), some (.bl e.2), z7]) ∧ N3 p = some (.lst ((relsOf w.2.b).map fun e => .dat (encE e))) ∧ ∃ V, LeT S V ∧ TbAt N3 g fa V ∧ RtOk (edgesF (W.map (·.2))) i V ∧ (∀ y ∈ pre, InT V w.2.rel y) ∧ FzE M N3 u g (.frz od v (.dK (kvRu W))) fa) ⟨⟨_, rfl⟩, lp, S, .refl, hT, hS, fun y hy => (nomatch hy), hF⟩ ?_ ?_
          · refine w_op (w_lstD (wa_cons (w_var rfl (wa_nil ⟨[.str e.1], rfl, by simp, ?_⟩))))
            refine w_dget2 (w_var rfl ⟨⟨_, dcv_ref hT.at_⟩, w_var rfl (w_lstD (wa_nil ⟨[], rfl, by simp, kvA fa, .inr e.1, dcv_ref hT.at_, rfl, ?_⟩))⟩)
            rw [hsx]
            refine w2_cat lsv_dat hls (by rw [List.length_map]; simp; omega) ⟨rfl, rfl⟩
          · rintro pre y post ρ' N3 hx ⟨⟨z7, rfl⟩, lp3, V, hle3, hT3, hV, hpre, hF3⟩
            have hy : y ∈ e.1 :: ys := by rw [hx]; simp
            have hry : Rch (edgesF (W.map (·.2))) w.2.rel y ∧ goodS y = true := by
              rcases List.mem_cons.mp hy with rfl | h
              · exact ⟨.one hed, ge⟩
              · exact ⟨.cons hed (hgS y h).1, (hgS y h).2⟩
            obtain ⟨vs, v1, v2⟩ := hT3.rows _ a0 ea
            have gvs : ∀ z ∈ vs, goodS z = true := fun z hz => oG.g z (hV.rc _ _ v1 z hz).tgt
            have lvs : vs.length ≤ 100000 := Nat.le_trans (hV.len v1) oG.l
            refine wg_name ?_
            refine ws_if ?_
            refine wt_test (w_op (w_var rfl (w_dget (w_var rfl (w_var rfl ⟨kvA fa, .inr w.2.rel, _, dcv_ref hT3.at_, rfl, ev, ?_⟩)))))
            refine w2_notInT (ks := vs) (lsv_ref (by rw [v2]; unfold Ab.lsN; rw [List.map_map]; rfl)) hry.2 gvs (by omega) ⟨_, rfl, ?_⟩
            by_cases hin : y ∈ vs
            · rw [if_neg (by simp [hin])]
              refine ws_next ⟨⟨_, rfl⟩, lp3, V, hle3, hT3, hV, fun z hz => ?_, hF3⟩
              rcases List.mem_append.mp hz with h | h
              · exact hpre z h
              · rw [List.mem_singleton.mp h]; exact ⟨vs, v1, hin⟩
            · rw [if_pos (by simp [hin])]
              have pa : p ≠ a0 := fun z => fp.2 _ (by rw [z]; exact ea)
              refine ws_drop (w_bm (w_dget (w_var rfl (w_var rfl ⟨kvA fa, .inr w.2.rel, _, dcv_ref hT3.at_, rfl, ev, ty_lst (lsv_ref v2), wa_cons (w_var rfl (wa_nil (wm_append v2 (by rw [List.length_map, List.length_map]; omega) ?_)))⟩))))
              refine ⟨⟨_, rfl⟩, by rw [um_ne pa]; exact lp3, putG V w.2.rel (vs ++ [y]), hle3.trans (.add v1), ?_, hV.add v1 hin hry.1, fun z hz => ?_, hF3.row ea⟩
              · have := hT3.old ea (vs ++ [y])
                rw [show lsN (vs ++ [y]) = .lst ((vs.map PyData.str).map Sl.dat ++ [Sl.str y]) by show MO.lst _ = _; rw [List.map_append, List.map_append]; rfl] at this
                exact this
              · rcases List.mem_append.mp hz with h | h
                · exact LeT.add v1 _ _ (hpre z h)
                · rw [List.mem_singleton.mp h]; exact InT.add
          · rintro ρ' N3 ⟨⟨z7, rfl⟩, lp3, V, hle3, hT3, hV, hpre, hF3⟩
            refine ⟨⟨_, _, _, rfl⟩, lp3, V, hle.trans hle3, hT3, hV, fun q hq2 y hy => ?_, hF3⟩
            rcases List.mem_append.mp hq2 with h | h
            · exact hle3 _ _ (hq q h y hy)
            · rw [List.mem_singleton.mp h] at hy
              exact hpre y (hcv y hy)
        · obtain ⟨⟨z5, z6, z7, rfl⟩, lp, S, hle, hT, hS, hq, hF⟩ := hJ
          rw [List.length_map, List.take_length] at hq
          refine ⟨⟨_, _, _, _, _, _, rfl⟩, S, hT, hS, fun w' hw' p' hp' y hy => ?_, hF⟩
          rcases List.mem_append.mp hw' with h | h
          · exact hle _ _ (hN w' h p' hp' y hy)
          · rw [List.mem_singleton.mp h] at hp' ⊢
            exact hq p' hp' y hy
      · obtain ⟨⟨z2, z3, z4, z5, z6, z7, rfl⟩, R, hT, hR, hN, hF⟩ := hJ
        rw [List.length_map, show W.length = (W.map (·.2)).length by rw [List.length_map], List.take_length] at hN
        exact ⟨hF.z, ⟨_, _, _, _, _, _, rfl⟩, R, unT hF hT, hR.next hN, unlock hF⟩
    · exact hJ
  rintro ρ' N ⟨⟨z2, z3, z4, z5, z6, z7, rfl⟩, R, hT, hR, hF⟩
  walk_at "f"
  have hf := hR.fin (fun v hv => by
    obtain ⟨p, hp, rfl⟩ := List.mem_map.mp hv
    exact hW.b p hp) (by rw [List.length_map]; omega)
  exact q N g fa R hT hf (fun n ys e => ⟨Nat.le_trans (hR.len e) oG.l, fun y hy => oG.g y (hR.rc _ _ e y hy).tgt⟩) hF
end
end
section
local macro_rules | `(tactic| walk_at "fl") => `(tactic| with_reducible first | exact sl_r _ | exact sl_f _ | exact sl_u _ | exact sl_n _)
section
variable {w : World} {K : PySem.W.Frag} {mg : Str → Option Value} {base : Heap} {a : AD} {d : FD}
theorem ring_iff {us : List Rul} : Ring (edgesF us) ↔ ∃ w ∈ us, ∃ p ∈ relsOf w.b, p.2 = true ∧ (p.1 = w.rel ∨ Rch (edgesF us) p.1 w.rel) := by
  constructor
  · rintro ⟨n, es, h1, p, h2, h3, h4⟩
    obtain ⟨w, hw, rfl, h5⟩ := (edgesF_mem us n p).mp ⟨es, h1, h2⟩
    exact ⟨w, hw, p, h5, h3, h4⟩
  · rintro ⟨w, hw, p, h5, h3, h4⟩
    obtain ⟨es, h1, h2⟩ := (edgesF_mem us w.rel p).mpr ⟨w, hw, rfl, h5⟩
    exact ⟨w.rel, es, h1, p, h2, h3, h4⟩
/-- what get tells of the table -/
theorem tb_get {K : PySem.W.Frag} {N : MH} {g : Addr} {fa : List (Str × Addr)} {R : Tb} (h : TbAt N g fa R) (x : Str) : ∃ s, (valG (kvA fa) (.inr x)).getD (.dat (.list [])) = s ∧ LsV K s N (((valG R x).getD []).map fun y => .str y) := by
  have ev : valG (kvA fa) (.inr x) = (valG fa x).map fun p => Sl.raw (.ref p) := valG_inr (fun p : Addr => Sl.raw (.ref p)) x fa
  cases ec : valG fa x with
  | none =>
    rw [ev, ec, h.miss ec]
    exact ⟨_, rfl, lsv_dat (ds := [])⟩
  | some a1 =>
    rw [ev, ec]
    obtain ⟨es, e1, e2⟩ := h.rows x a1 ec
    rw [e1]
    refine ⟨_, rfl, lsv_ref (by rw [e2]; unfold Ab.lsN; rw [List.map_map]; rfl)⟩
theorem tb_good {R : Tb} (h : ∀ n ys, valG R n = some ys → ys.length ≤ 100000 ∧ ∀ y ∈ ys, goodS y = true) (x : Str) : ((valG R x).getD []).length ≤ 100000 ∧ ∀ y ∈ (valG R x).getD [], goodS y = true := by
  cases e : valG R x with
  | none => exact ⟨Nat.zero_le _, fun y hy => (nomatch hy)⟩
  | some ys => exact h x ys e
def A_lring : ASp := fun ss M Q => ∃ u W, ss = [.raw (.ref u)] ∧ M u = some (.dK (kvRu W)) ∧ RuOk W ∧ ∀ (M' : MH) (b : Bool), (∀ b v, M b = some v → M' b = some v) → (b = true ↔ Ring (edgesF (W.map (·.2)))) → Q (.bl b) M'
theorem ok_lring (T : Txt K mg a d) : FnOk P w K mg base CX0 3 a.law_ring d.law_ring ["_law_rules"] (conc K A_lring) := by
  have G_law_relations_of : FnOk P w K mg base CX0 1 a.law_relations_of d.law_relations_of ["_law_body_here"] (conc K A_relsof) := ok_lrelsof T
  have G_law_reach : FnOk P w K mg base CX0 2 a.law_reach d.law_reach ["_law_rules"] (conc K A_lreach) := ok_lreach T
  refine ab_ok T.F_law_ring sc_law_ring (fun ss M Q ⟨u, W, e, _⟩ => by subst e; rfl) fun cdv Ar outer s H E hr => ?_
  have hu64 := hr.units
  have hu65 := room65 hr
  refine ⟨_, (pss_cons (ps_set (i := 1) sc_law_ring.nd rfl (Or.inl rfl) (pe_call G_law_reach (hr.mono (by omega)) (by rfl) T.g_law_reach T.F_law_reach.kp T.b_law_reach .nil pass0 (pa_cons (pv 0) pa_nil)))
  (pss_cons (ps_lock (ps_for PassesOwn.never rfl (pi_keys (pv 0)) (pg_name (i := 2) sc_law_ring.nd rfl (Or.inl rfl)) (pss_one (ps_for PassesOwn.never rfl (pi_list (pe_call G_law_relations_of (hr.mono (by omega)) (by rfl) T.g_law_relations_of T.F_law_relations_of.kp T.b_law_relations_of .nil pass0 (pa_cons (pe_ix (r := rIxT K) ix_tup (pe_dget (hu1 hu64) (pv 0) (pv 2) (fun _ _ => rfl)) pe_int (fun _ _ => rfl)) pa_nil))) (pg_tupK (K := K) (n := 2) rfl rfl (pgs_cons (pg_name (i := 3) sc_law_ring.nd rfl (Or.inl rfl)) (pgs_cons (pg_name (i := 4) sc_law_ring.nd rfl (Or.inl rfl)) pgs_nil))) (pss_one (ps_if (PW.pt (pw_and (pt_val (pv 4)) (pw_and1 (PW.pt (pw_or (pt_cmpR (r := rEqD K) (op_eqD hu64) (pv 3) (pe_ix (r := rIxT K) ix_tup (pe_dget (hu1 hu64) (pv 0) (pv 2) (fun _ _ => rfl)) pe_int (fun _ _ => rfl)) (nomark _)) (pw_or1 (pt_cmpR (r := rInD K) (op_inD hu65) (pe_ix (r := rIxT K) ix_tup (pe_dget (hu1 hu64) (pv 0) (pv 2) (fun _ _ => rfl)) pe_int (fun _ _ => rfl)) (pe_dget2 (hu1 hu64) (pv 1) (pv 3) (pe_lst pa_nil) ⟨rfl, rfl, rfl, rfl⟩) (by rfl)))))))) (pss_one (ps_ret pe_bl)) pss_nil))))))
  (pss_one (ps_ret pe_bl)))), ?_⟩
  rintro ss M Q ⟨u, W, rfl, hu, hW, q⟩
  walk_at "k"
  show WS K _ [some (.raw (.ref u)), none, none, none, none] M _
  refine ws_seq (ws_set (w_call (wa_cons (w_var rfl (wa_nil ⟨u, W, rfl, hu, hW, fun M1 g fa R hT hR hgd hF => ?_⟩)))))
  obtain ⟨hu1, ug, hun⟩ := hF.e _ _ hu
  have back : ∀ (N : MH) (od : Obj) (v : HO), (∀ b x, Ab.um M1 u (.frz od v (.dK (kvRu W))) b = some x → N b = some x) → ∀ b x, M b = some x → Ab.um N u (.dK (kvRu W)) b = some x := fun N od v e b x hb => by
    by_cases bu : b = u
    · subst bu; rw [um_same, ← hb, hu]
    · rw [um_ne bu]
      exact e b x (by rw [um_ne bu]; exact (hF.e b x hb).1)
  refine ws_mid (fun ρ' M' => (∀ x u, M x = some u → M' x = some u) ∧ ¬Ring (edgesF (W.map (·.2)))) ?_ ?_
  · refine ws_lock hu1 fun od v => ?_
    have hT2 : TbAt (Ab.um M1 u (.frz od v (.dK (kvRu W)))) g fa R := hT.umP ug hun
    refine ws_for (wi_keys (w_var rfl ⟨u, od, v, kvRu W, rfl, um_same, fun i ρ' M' => (∃ z2 z3 z4, ρ' = [some (.raw (.ref u)), some (.raw (.ref g)), z2, z3, z4]) ∧ (∀ b x, Ab.um M1 u (.frz od v (.dK (kvRu W))) b = some x → M' b = some x) ∧ ∀ w ∈ (W.map (·.2)).take i, ∀ p ∈ relsOf w.b, ¬(p.2 = true ∧ (p.1 = w.rel ∨ Rch (edgesF (W.map (·.2))) p.1 w.rel)), ⟨⟨_, _, _, rfl⟩, fun b x hb => hb, fun n hn => (nomatch hn)⟩, fun i ρ' M' _ hJ => hJ.2.1 _ _ um_same, fun i ρ' M' hi hJ => ?_, fun ρ' M' hJ => ?_⟩))
    · obtain ⟨⟨z2, z3, z4, rfl⟩, e, hn⟩ := hJ
      have hi' : i < W.length := by rw [List.length_map] at hi; exact hi
      obtain ⟨gi, vu⟩ := ru_at hW hi'
      have el : (W.map (·.2)).take (i + 1) = (W.map (·.2)).take i ++ [W[i].2] := by
        rw [List.take_succ_eq_append_getElem (by rw [List.length_map]; exact hi'), List.getElem_map]
      have hm : W[i] ∈ W := List.getElem_mem hi'
      dsimp only
      rw [gi, el]
      generalize W[i] = w at gi vu hm
      have wr := hW.r _ hm
      have wb := hW.b _ hm
      have hz := e _ _ um_same
      refine wg_name ?_
      refine ws_for (wi_list (w_call (wa_cons (w_op (w_dget (w_var rfl (w_var rfl ⟨kvRu W, .inr w.1, _, dcv_frz hz, rfl, vu, w_int (w2_ixT rfl (wa_nil ⟨w.2.b, rfl, wb, fun p hp => ?_⟩))⟩)))))))
      have e1 : ∀ b x, Ab.um M1 u (.frz od v (.dK (kvRu W))) b = some x → Ab.um M' p (.lst ((relsOf w.2.b).map fun e => .dat (encE e))) b = some x := fun b x hb => by
        have h3 := e _ _ hb
        rw [um_ne fun z => by rw [z, hp] at h3; cases h3]
        exact h3
      have lp : Ab.um M' p (.lst ((relsOf w.2.b).map fun e => .dat (encE e))) p = some (.lst ((relsOf w.2.b).map fun e => .dat (encE e))) := um_same
      generalize Ab.um M' p (.lst ((relsOf w.2.b).map fun e => .dat (encE e))) = M2 at e1 lp
      refine ⟨_, lsv_ref lp, fun j ρ' M'' => (∃ z3 z4, ρ' = [some (.raw (.ref u)), some (.raw (.ref g)), some (.str w.1), z3, z4]) ∧ M'' = M2 ∧ ∀ p ∈ (relsOf w.2.b).take j, ¬(p.2 = true ∧ (p.1 = w.2.rel ∨ Rch (edgesF (W.map (·.2))) p.1 w.2.rel)), ⟨⟨_, _, rfl⟩, rfl, fun p hp => (nomatch hp)⟩, fun j ρ' M'' _ hJ => (by rw [hJ.2.1]; exact lsv_ref lp), fun j ρ' M'' hj hJ => ?_, fun ρ' M'' hJ => ?_⟩
      · obtain ⟨⟨z3, z4, rfl⟩, rfl, hn'⟩ := hJ
        have hj' : j < (relsOf w.2.b).length := by rw [List.length_map] at hj; exact hj
        have gj : ((relsOf w.2.b).map fun e => Sl.dat (encE e)).getD j .non = .dat (encE (relsOf w.2.b)[j]) := by
          rw [List.getD_eq_getElem?_getD, List.getElem?_map, List.getElem?_eq_getElem hj']
          rfl
        have hmp : (relsOf w.2.b)[j] ∈ relsOf w.2.b := List.getElem_mem hj'
        have el2 : (relsOf w.2.b).take (j + 1) = (relsOf w.2.b).take j ++ [(relsOf w.2.b)[j]] := List.take_succ_eq_append_getElem hj'
        dsimp only
        rw [gj, el2]
        generalize (relsOf w.2.b)[j] = p0 at hmp
        have gp := relsOf_good wb.2 p0 hmp
        have yes : (p0.2 = true ∧ (p0.1 = w.2.rel ∨ Rch (edgesF (W.map (·.2))) p0.1 w.2.rel)) → Ring (edgesF (W.map (·.2))) := fun hp => ring_iff.mpr ⟨w.2, List.mem_map.mpr ⟨w, hm, rfl⟩, p0, hmp, hp⟩
        have no : ¬(p0.2 = true ∧ (p0.1 = w.2.rel ∨ Rch (edgesF (W.map (·.2))) p0.1 w.2.rel)) → ∀ p ∈ (relsOf w.2.b).take j ++ [p0], ¬(p.2 = true ∧ (p.1 = w.2.rel ∨ Rch (edgesF (W.map (·.2))) p.1 w.2.rel)) := fun hp p' hm' => by
          rcases List.mem_append.mp hm' with h1 | h1
          · exact hn' p' h1
          · rw [List.mem_singleton.mp h1]; exact hp
        have hz2 := e1 _ _ um_same
        refine wg_tup (ds := [.str p0.1, .bool p0.2]) rfl rfl (wgs_cons (wg_name (wgs_cons (wg_name (wgs_nil ?_)))))
        show WS K _ [some (.raw (.ref u)), some (.raw (.ref g)), some (.str w.1), some (.str p0.1), some (.bl p0.2)] _ _
        cases hb2 : p0.2 with
        | false =>
          walk_at "f"
          exact ⟨⟨_, _, rfl⟩, rfl, no fun hp => by rw [hb2] at hp; cases hp.1⟩
        | true =>
          walk_at "f"
          refine w_dget (w_var rfl (w_var rfl ⟨kvRu W, .inr w.1, _, dcv_frz hz2, rfl, vu, w_int (w2_ixT rfl ?_)⟩))
          walk_at "f"
          by_cases hpn : p0.1 = w.2.rel
          · rw [if_pos (decide_eq_true hpn)]
            walk_at "f"
            exact ⟨hz2, q _ true (back _ _ _ e1) ⟨fun _ => yes ⟨hb2, .inl hpn⟩, fun _ => rfl⟩⟩
          · rw [if_neg (by rw [decide_eq_false hpn]; exact Bool.false_ne_true)]
            have hT3 := hT2.ext e1
            obtain ⟨sx, hsx, hls⟩ := tb_get (K := K) hT3 p0.1
            obtain ⟨tl, tg⟩ := tb_good hgd p0.1
            refine wt_test (w_op (w_op (w_dget (w_var rfl (w_var rfl ⟨kvRu W, .inr w.1, _, dcv_frz hz2, rfl, vu, w_int (w2_ixT rfl ?_)⟩)))))
            refine w_dget2 (w_var rfl ⟨⟨_, dcv_ref hT3.at_⟩, w_var rfl (w_lstD (wa_nil ⟨[], rfl, by simp, kvA fa, .inr p0.1, dcv_ref hT3.at_, rfl, ?_⟩))⟩)
            rw [hsx]
            refine w2_inT (ks := (valG R p0.1).getD []) hls wr tg (by omega) ⟨_, rfl, ?_⟩
            have hiff := (in_getD (R := R) (x := p0.1) (y := w.2.rel)).trans (hR p0.1 w.2.rel)
            by_cases hin : w.2.rel ∈ (valG R p0.1).getD []
            · rw [if_pos (decide_eq_true hin)]
              walk_at "f"
              exact ⟨hz2, q _ true (back _ _ _ e1) ⟨fun _ => yes ⟨hb2, .inr (hiff.mp hin)⟩, fun _ => rfl⟩⟩
            · rw [if_neg (by rw [decide_eq_false hin]; exact Bool.false_ne_true)]
              exact ws_next ⟨⟨_, _, rfl⟩, rfl, no fun hp => hp.2.elim hpn fun hr => hin (hiff.mpr hr)⟩
      · obtain ⟨⟨z3, z4, rfl⟩, rfl, hn'⟩ := hJ
        rw [List.length_map, List.take_length] at hn'
        refine ⟨⟨_, _, _, rfl⟩, e1, fun w' hw' => ?_⟩
        rcases List.mem_append.mp hw' with h1 | h1
        · exact hn w' h1
        · rw [List.mem_singleton.mp h1]; exact hn'
    · obtain ⟨_, e, hn⟩ := hJ
      rw [List.length_map, show W.length = (W.map (·.2)).length by rw [List.length_map], List.take_length] at hn
      refine ⟨e _ _ um_same, back _ _ _ e, fun h => ?_⟩
      obtain ⟨w, hw, p, hp, h2⟩ := ring_iff.mp h
      exact hn w hw p hp h2
  · rintro ρ' M' ⟨e, hn⟩
    walk_at "f"
    exact q _ false e ⟨fun z => (nomatch z), fun z => absurd z hn⟩
end
end
section
local macro_rules | `(tactic| walk_at "fl") => `(tactic| with_reducible first | exact sl_r _ | exact sl_f _ | exact sl_u _ | exact sl_n _)
section
variable {w : World} {K : PySem.W.Frag} {mg : Str → Option Value} {base : Heap} {a : AD} {d : FD}
def A_lgrow : ASp := fun ss M Q => ∃ u W, ss = [.raw (.ref u)] ∧ M u = some (.dK (kvRu W)) ∧ RuOk W ∧ ∀ (M' : MH), (∀ b v, M b = some v → M' b = some v) → Q (.dat (bnd (growF W).toList)) M'
theorem ok_lgrow (T : Txt K mg a d) : FnOk P w K mg base CX0 3 a.law_growing d.law_growing ["_law_rules"] (conc K A_lgrow) := by
  have G_law_relations_of : FnOk P w K mg base CX0 1 a.law_relations_of d.law_relations_of ["_law_body_here"] (conc K A_relsof) := ok_lrelsof T
  have G_law_reach : FnOk P w K mg base CX0 2 a.law_reach d.law_reach ["_law_rules"] (conc K A_lreach) := ok_lreach T
  have G_law_makes : FnOk P w K mg base CX0 2 a.law_makes d.law_makes ["_law_body_here"] (conc K A_lmakes) := ok_lmakes T
  refine ab_ok T.F_law_growing sc_law_growing (fun ss M Q ⟨u, W, e, _⟩ => by subst e; rfl) fun cdv Ar outer s H E hr => ?_
  have hu64 := hr.units
  have hu65 := room65 hr
  refine ⟨_, (pss_cons (ps_set (i := 1) sc_law_growing.nd rfl (Or.inr rfl) (pe_call G_law_reach (hr.mono (by omega)) (by rfl) T.g_law_reach T.F_law_reach.kp T.b_law_reach .nil pass0 (pa_cons (pv 0) pa_nil)))
  (pss_cons (ps_for PassesOwn.never rfl (pi_list (pe_callB (r := rSortedS K) cr_sortedS (by rfl) T.n_sorted (by decide +kernel) (pa_cons (pe_callTy (r := rListDk) (call_listD rfl) (by rfl) T.n_list (by decide +kernel) (pa_cons (pv 0) pa_nil)) pa_nil))) (pg_name (i := 2) sc_law_growing.nd rfl (Or.inl rfl)) (pss_cons (ps_asg (pe_dget (hu1 hu64) (pv 0) (pv 2) (fun _ _ => rfl)) (pg_tupK (K := K) (n := 3) rfl rfl (pgs_cons (pg_name (i := 3) sc_law_growing.nd rfl (Or.inr rfl)) (pgs_cons (pg_name (i := 4) sc_law_growing.nd rfl (Or.inl rfl)) (pgs_cons (pg_name (i := 5) sc_law_growing.nd rfl (Or.inl rfl)) pgs_nil)))))
  (pss_cons (ps_setLc (i := 6) (own := [("_law_other", 7), ("_law_below", 8)]) rfl sc_law_growing.nd rfl rfl (sw_true rfl rfl rfl (by decide +kernel)) (pi_list (pe_call G_law_relations_of (hr.mono (by omega)) (by rfl) T.g_law_relations_of T.F_law_relations_of.kp T.b_law_relations_of .nil pass0 (pa_cons (pv 5) pa_nil))) (blkOk_by (own := [("_law_other", 7), ("_law_below", 8)]) (N := ["_law_rules", "_law_reach_here", "_law_name", "_law_relation", "_law_terms", "_law_body_here", "_law_back", "_law_other", "_law_below"]) (sc := (defScope s_law_growing)) (by decide +kernel)) (fun _ _ _ _ _ => (pg_tupK (K := K) (n := 2) rfl rfl (pgs_cons (pg_name (i := 7) sc_law_growing.nd rfl (Or.inl rfl)) (pgs_cons (pg_name (i := 8) sc_law_growing.nd rfl (Or.inl rfl)) pgs_nil)))) (fun _ _ _ _ _ => pts_one (PW.pt (pw_or (pt_cmpR (r := rEqD K) (op_eqD hu64) (pv 7) (pv 3) (nomark _)) (pw_or1 (pt_cmpR (r := rInD K) (op_inD hu65) (pv 3) (pe_dget2 (hu1 hu64) (pv 1) (pv 7) (pe_lst pa_nil) ⟨rfl, rfl, rfl, rfl⟩) (by rfl)))))) (fun _ _ _ _ _ => (pv 7)))
  (pss_one (ps_if (PW.pt (pw_and (pt_val (pe_call G_law_makes (hr.mono (by omega)) (by rfl) T.g_law_makes T.F_law_makes.kp T.b_law_makes .nil pass0 (pa_cons (pv 5) pa_nil))) (pw_and1 (pt_cmpR (r := rNeD K) (op_neD hu64) (pv 6) (pe_lst pa_nil) (nomark _))))) (pss_one (ps_ret (pe_lst (pa_cons (pv 2) pa_nil)))) pss_nil)))))
  (pss_one (ps_ret (pe_lst pa_nil))))), ?_⟩
  rintro ss M Q ⟨u, W, rfl, hu, hW, q⟩
  walk_at "k"
  show WS K _ [some (.raw (.ref u)), none, none, none, none, none, none, none, none] M _
  have wl := hW.l
  refine ws_seq (ws_set (w_call (wa_cons (w_var rfl (wa_nil ⟨u, W, rfl, hu, hW, fun M1 g fa R hT hR hgd hF => ?_⟩)))))
  have hu1 := (hF.e _ _ hu).1
  have kU : (kvRu W).map (·.1) = (W.map (·.1)).map Sum.inr := by rw [List.map_map, List.map_map]; rfl
  refine ws_mid (fun ρ' M' => M' = M1 ∧ ∀ n ∈ sortT (W.map (·.1)), ¬Grw W n) ?_ ?_
  · refine ws_forD (xs := sortT (W.map (·.1))) (enc := PyData.str) (M1 := M1) (w_sortedLN (w_var rfl ⟨dcv_ref hu1, kU, by rw [List.length_map]; omega, rfl, rfl⟩))
      (fun pre ρ' M' => (∃ z2 z3 z4 z5 z6 z7 z8, ρ' = [some (.raw (.ref u)), some (.raw (.ref g)), z2, z3, z4, z5, z6, z7, z8]) ∧ M' = M1 ∧ ∀ n ∈ pre, ¬Grw W n) ⟨⟨_, _, _, _, _, _, _, rfl⟩, rfl, fun _ h => (nomatch h)⟩ ?_ ?_
    · rintro pre n post ρ' M' hx ⟨⟨z2, z3, z4, z5, z6, z7, z8, rfl⟩, rfl, hp⟩
      have hm : n ∈ W.map (·.1) := by rw [← sortT_mem, hx]; simp
      obtain ⟨w, hw⟩ := valG_of hm
      have hmw := valG_mem hw
      have vu : valG (kvRu W) (.inr n) = some (.dat w.enc) := by
        have := valG_inr (fun u : Rul => Sl.dat u.enc) n W
        rw [hw] at this
        exact this
      have wr : goodS w.rel = true := hW.r _ hmw
      have wb : okB w.b := hW.b _ hmw
      have bl := wb.1
      have rl := relsOf_len w.b
      refine wg_name ?_
      refine ws_seq (ws_asg (w_dget (w_var rfl (w_var rfl ⟨kvRu W, .inr n, _, dcv_ref hu1, rfl, vu, ?_⟩))))
      refine wg_tup (ds := [.str w.rel, encT w.hd, encB w.b]) rfl rfl (wgs_cons (wg_name (wgs_cons (wg_name (wgs_cons (wg_name (wgs_nil ?_)))))))
      show WS K _ [some (.raw (.ref u)), some (.raw (.ref g)), some (.str n), some (.str w.rel), some (.dat (encT w.hd)), some (.dat (encB w.b)), z6, z7, z8] M' _
      have hf0 : ∀ p : Str × Bool, Decidable (p.1 = w.rel ∨ w.rel ∈ (valG R p.1).getD []) := fun p => inferInstance
      refine ws_seq (ws_set (w_lcF2 (ea := fun p : Str × Bool => .str p.1) (eb := fun p => .bool p.2) (xs := relsOf w.b) (M1 := M') (by decide) (by decide) ?_ (by omega) (fun p => if p.1 = w.rel ∨ w.rel ∈ (valG R p.1).getD [] then some (.str p.1) else none) ?_ ?_ ?_))
      · refine w_frz (w_call (wa_cons (w_var rfl (wa_nil ⟨w.b, rfl, wb, fun p hp => ⟨p, (relsOf w.b).map encE, rfl, by rw [um_same, List.map_map]; rfl, rfl, del_um hp⟩⟩))))
      · intro p D o hmp hD
        have gp := relsOf_good wb.2 p hmp
        obtain ⟨sx, hsx, hls⟩ := tb_get (K := K) (hT.umP (p := D) (x := o) (hT.fresh hD).1 (hT.fresh hD).2) p.1
        obtain ⟨tl, tg⟩ := tb_good hgd p.1
        refine wt_or (wt_test (w_op (w_var rfl (w_var rfl (w2_eqS (goodS_ok gp) (goodS_ok wr) ⟨_, rfl, ?_⟩)))))
        by_cases hpn : p.1 = w.rel
        · rw [if_pos (decide_eq_true hpn), if_pos (.inl hpn)]
          exact ⟨rfl, rfl⟩
        · rw [if_neg (by rw [decide_eq_false hpn]; exact Bool.false_ne_true)]
          refine wt_test (w_op (w_var rfl ?_))
          refine w_dget2 (w_var rfl ⟨⟨_, dcv_ref (hT.umP (p := D) (x := o) (hT.fresh hD).1 (hT.fresh hD).2).at_⟩, w_var rfl (w_lstD (wa_nil ⟨[], rfl, by simp, kvA fa, .inr p.1, dcv_ref (hT.umP (p := D) (x := o) (hT.fresh hD).1 (hT.fresh hD).2).at_, rfl, ?_⟩))⟩)
          rw [hsx]
          refine w2_inT (ks := (valG R p.1).getD []) hls wr tg (by omega) ⟨_, rfl, ?_⟩
          by_cases hin : w.rel ∈ (valG R p.1).getD []
          · rw [decide_eq_true hin, if_pos (.inr hin)]
            exact ⟨rfl, rfl⟩
          · rw [decide_eq_false hin, if_neg fun z => z.elim hpn hin]
            exact ⟨rfl, rfl⟩
      · intro p D o dd hmp he hD
        by_cases c : p.1 = w.rel ∨ w.rel ∈ (valG R p.1).getD []
        · rw [if_pos c] at he
          cases he
          exact w_var rfl ⟨rfl, rfl⟩
        · rw [if_neg c] at he
          cases he
      have hfil : ∀ ds, ds = (relsOf w.b).filterMap (fun p => if p.1 = w.rel ∨ w.rel ∈ (valG R p.1).getD [] then some (PyData.str p.1) else none) → (ds.isEmpty = false ↔ ∃ p ∈ relsOf w.b, p.1 = w.rel ∨ Rch (edgesF (W.map (·.2))) p.1 w.rel) ∧ SeqAt.shaped (.list ds) = true := fun ds e => by
        have conv : ∀ p : Str × Bool, (p.1 = w.rel ∨ w.rel ∈ (valG R p.1).getD []) ↔ (p.1 = w.rel ∨ Rch (edgesF (W.map (·.2))) p.1 w.rel) := fun p => or_congr_right (in_getD.trans (hR p.1 w.rel))
        refine ⟨⟨fun h => ?_, fun ⟨p, hp, h⟩ => ?_⟩, ?_⟩
        · obtain ⟨d0, hd0⟩ : ∃ d0, d0 ∈ ds := by
            cases ds with
            | nil => cases h
            | cons x xs => exact ⟨x, List.mem_cons_self⟩
          rw [e] at hd0
          obtain ⟨p, hp, h2⟩ := List.mem_filterMap.mp hd0
          by_cases c : p.1 = w.rel ∨ w.rel ∈ (valG R p.1).getD []
          · exact ⟨p, hp, (conv p).mp c⟩
          · rw [if_neg c] at h2; cases h2
        · have : PyData.str p.1 ∈ ds := by rw [e]; exact List.mem_filterMap.mpr ⟨p, hp, by rw [if_pos ((conv p).mpr h)]⟩
          cases ds with
          | nil => cases this
          | cons x xs => rfl
        · rw [e]
          refine okD_shaped (n := 1) (okD_mkL (by have := List.length_filterMap_le (fun p : Str × Bool => if p.1 = w.rel ∨ w.rel ∈ (valG R p.1).getD [] then some (PyData.str p.1) else none) (relsOf w.b); omega) (okAll_of fun d hd => ?_)) (by decide)
          obtain ⟨p, hp, h2⟩ := List.mem_filterMap.mp hd
          split at h2
          · cases h2
            exact okD_str (goodS_ok (relsOf_good wb.2 p hp))
          · cases h2
      generalize (relsOf w.b).filterMap (fun p => if p.1 = w.rel ∨ w.rel ∈ (valG R p.1).getD [] then some (PyData.str p.1) else none) = ds at hfil
      obtain ⟨f1, f2⟩ := hfil ds rfl
      have nxt : ¬Grw W n → ∀ m ∈ pre ++ [n], ¬Grw W m := fun hg m hm => by
        rcases List.mem_append.mp hm with h1 | h1
        · exact hp m h1
        · rw [List.mem_singleton.mp h1]; exact hg
      show WS K _ [some (.raw (.ref u)), some (.raw (.ref g)), some (.str n), some (.str w.rel), some (.dat (encT w.hd)), some (.dat (encB w.b)), some (.dat (.list ds)), z7, z8] M' _
      walk_at "f"
      refine ⟨w.b, rfl, wb, ⟨_, rfl, ?_⟩⟩
      cases hmk : makesE [] w.b with
      | false =>
        rw [if_neg Bool.false_ne_true]
        walk_at "f"
        exact ⟨⟨_, _, _, _, _, _, _, rfl⟩, rfl, nxt fun ⟨w', e1, e2, _⟩ => by rw [hw] at e1; cases e1; rw [hmk] at e2; cases e2⟩
      | true =>
        rw [if_pos rfl]
        refine wt_test (w_op (w_var rfl (w_lstD (wa_nil ⟨[], rfl, by simp, w2_neL (lsv_dat (ds := ds)) (lsv_dat (ds := [])) f2 (by decide +kernel) ⟨_, rfl, ?_⟩⟩))))
        rw [eqv_nil]
        cases he : ds.isEmpty with
        | true =>
          rw [if_neg (by decide)]
          refine ws_next ⟨⟨_, _, _, _, _, _, _, rfl⟩, rfl, nxt fun ⟨w', e1, e2, p, h1, h2⟩ => ?_⟩
          rw [hw] at e1
          cases e1
          rw [f1.mpr ⟨p, h1, h2⟩] at he
          cases he
        | false =>
          rw [if_pos (by decide)]
          obtain ⟨p, h1, h2⟩ := f1.mp he
          have hg : growF W = some n := growF_at hx hp ⟨w, hw, hmk, p, h1, h2⟩
          refine ws_ret (w_lstD (wa_cons (w_var rfl (wa_nil ⟨[.str n], rfl, by simp, ?_⟩))))
          have := q M' fun b x hb => (hF.e b x hb).1
          rw [hg] at this
          exact this
    · rintro ρ' M' ⟨_, rfl, hp⟩
      exact ⟨rfl, hp⟩
  · rintro ρ' M' ⟨rfl, hp⟩
    walk_at "f"
    have := q M' fun b x hb => (hF.e b x hb).1
    rw [growF_no hp] at this
    exact this
end
end
section
local macro_rules | `(tactic| walk_at "fl") => `(tactic| with_reducible first | exact sl_r _ | exact sl_f _ | exact sl_u _ | exact sl_n _)
section
variable {w : World} {K : PySem.W.Frag} {mg : Str → Option Value} {base : Heap} {a : AD} {d : FD}
open Classical in
noncomputable def lruleP (rel : List (Str × Int)) (W : List (Str × Rul)) (n r : Str) (ts : List Term) (b : List Lit) : Option (List Str) :=
  match valG W n with
  | some _ => some ["exists", "rule", n]
  | none => match valG rel r with
    | some _ => some ["base", r]
    | none => if wBad (valG (widthsF rel W) r) ts.length then some ["width", r] else
      match bodyE (valG (putG (widthsF rel W) r (ts.length : Int))) [] b with
      | .inl p => some p
      | .inr ks => match termsP ks false ts with
        | some p => some p
        | none => if Ring (edgesF ((putG W n ⟨r, ts, b⟩).map (·.2))) then some ["ring"] else
          match growF (putG W n ⟨r, ts, b⟩) with
          | some m => some ["grows", m]
          | none => none
def A_rproblem : ASp := fun ss M Q => ∃ wd dr du kw rel W n r ts b, ss = [.raw (.ref wd), .str n, .str r, .dat (encT ts), .dat (encB b)] ∧ M wd = some (.dK kw) ∧ valG kw (.inr "relations") = some (.raw (.ref dr)) ∧ valG kw (.inr "rules") = some (.raw (.ref du)) ∧ M dr = some (.dK (kvW rel)) ∧ M du = some (.dK (kvRu W)) ∧ wd ≠ du ∧ (W.map (·.1)).Nodup ∧ W.length ≤ 1000 ∧ rel.length ≤ 1000 ∧
  goodS n = true ∧ goodS r = true ∧ okTs ts ∧ okB b ∧ b.length ≤ 60 ∧ RuOk (putG W n ⟨r, ts, b⟩) ∧ ∀ (M' : MH), (∀ x v, M x = some v → M' x = some v) → Q (.dat (encOP (lruleP rel W n r ts b))) M'
theorem ok_rproblem (T : Txt K mg a d) : FnOk P w K mg base CX0 4 a.law_rule_problem d.law_rule_problem ["_law_world", "_law_name", "_law_relation", "_law_terms", "_law_body_here"] (conc K A_rproblem) := by
  have G_law_widths : FnOk P w K mg base CX0 1 a.law_widths d.law_widths ["_law_world"] (conc K A_widths) := ok_widths T
  have G_law_body_problem : FnOk P w K mg base CX0 3 a.law_body_problem d.law_body_problem ["_law_widths_here", "_law_body_here"] (conc K (A_bproblem K)) := ok_bproblem T
  have G_law_loose : FnOk P w K mg base CX0 1 a.law_loose d.law_loose ["_law_terms", "_law_bound", "_law_lets_any"] (conc K A_loose) := ok_loose T
  have G_law_ring : FnOk P w K mg base CX0 3 a.law_ring d.law_ring ["_law_rules"] (conc K A_lring) := ok_lring T
  have G_law_growing : FnOk P w K mg base CX0 3 a.law_growing d.law_growing ["_law_rules"] (conc K A_lgrow) := ok_lgrow T
  refine ab_ok T.F_law_rule_problem sc_law_rule_problem (fun ss M Q ⟨wd, dr, du, kw, rel, W, n, r, ts, b, e, _⟩ => by subst e; rfl) fun cdv Ar outer s H E hr => ?_
  have hu64 := hr.units
  have hu65 := room65 hr
  refine ⟨_, (pss_cons (ps_set (i := 5) sc_law_rule_problem.nd rfl (Or.inl rfl) (pe_call G_law_widths (hr.mono (by omega)) (by rfl) T.g_law_widths T.F_law_widths.kp T.b_law_widths .nil pass0 (pa_cons (pv 0) pa_nil)))
  (pss_cons (ps_if (pt_cmp (pc_din (hu1 hu64) (pv 1) (pe_dget (hu1 hu64) (pv 0) pe_str (fun _ _ => rfl)))) (pss_one (ps_ret (pe_tup (pa_cons pe_str (pa_cons pe_str (pa_cons (pv 1) pa_nil)))))) pss_nil)
  (pss_cons (ps_if (pt_cmp (pc_din (hu1 hu64) (pv 2) (pe_dget (hu1 hu64) (pv 0) pe_str (fun _ _ => rfl)))) (pss_one (ps_ret (pe_tup (pa_cons pe_str (pa_cons (pv 2) pa_nil))))) pss_nil)
  (pss_cons (ps_if (PW.pt (pw_or (pt_cmpR (r := rNeD K) (op_neD hu64) (pe_dget2 (hu1 hu64) (pv 5) (pv 2) (pe_callB (r := rLenS K) call_len_seq (by rfl) T.n_len PySem.boot_len (pa_cons (pv 3) pa_nil)) ⟨rfl, rfl, rfl, rfl⟩) (pe_callB (r := rLenS K) call_len_seq (by rfl) T.n_len PySem.boot_len (pa_cons (pv 3) pa_nil)) (nomark _)) (pw_or1 (pt_not (pt_chain op_le op_le pe_int (pe_callB (r := rLenS K) call_len_seq (by rfl) T.n_len PySem.boot_len (pa_cons (pv 3) pa_nil)) pe_int))))) (pss_one (ps_ret (pe_tup (pa_cons pe_str (pa_cons (pv 2) pa_nil))))) pss_nil)
  (pss_cons (ps_dput (hu1 hu64) (pv 5) (pv 2) (pe_callB (r := rLenS K) call_len_seq (by rfl) T.n_len PySem.boot_len (pa_cons (pv 3) pa_nil)) rfl)
  (pss_cons (ps_asg (pe_call G_law_body_problem (hr.mono (by omega)) (by rfl) T.g_law_body_problem T.F_law_body_problem.kp T.b_law_body_problem .nil pass0 (pa_cons (pv 5) (pa_cons (pv 4) pa_nil))) (pg_tupK (K := K) (n := 2) rfl rfl (pgs_cons (pg_name (i := 6) sc_law_rule_problem.nd rfl (Or.inl rfl)) (pgs_cons (pg_name (i := 7) sc_law_rule_problem.nd rfl (Or.inl rfl)) pgs_nil))))
  (pss_cons (ps_if (pt_cmpR op_isN (pv 6) pe_non (nomark _)) (pss_one (ps_set (i := 6) sc_law_rule_problem.nd rfl (Or.inl rfl) (pe_call G_law_loose (hr.mono (by omega)) (by rfl) T.g_law_loose T.F_law_loose.kp T.b_law_loose .nil pass0 (pa_cons (pv 3) (pa_cons (pv 7) (pa_cons pe_bl pa_nil)))))) pss_nil)
  (pss_cons (ps_set (i := 8) sc_law_rule_problem.nd rfl (Or.inl rfl) (pe_callTy (r := rDictD) call_dictD (by rfl) T.n_dict (by decide +kernel) (pa_cons (pe_dget (hu1 hu64) (pv 0) pe_str (fun _ _ => rfl)) pa_nil)))
  (pss_cons (ps_dput (hu1 hu64) (pv 8) (pv 1) (pe_tup (pa_cons (pv 2) (pa_cons (pv 3) (pa_cons (pv 4) pa_nil)))) rfl)
  (pss_cons (ps_if (PW.pt (pw_and (pt_cmpR op_isN (pv 6) pe_non (nomark _)) (pw_and1 (pt_val (pe_call G_law_ring (hr.mono (by omega)) (by rfl) T.g_law_ring T.F_law_ring.kp T.b_law_ring .nil pass0 (pa_cons (pv 8) pa_nil)))))) (pss_one (ps_set (i := 6) sc_law_rule_problem.nd rfl (Or.inl rfl) (pe_tup (pa_cons pe_str pa_nil)))) pss_nil)
  (pss_cons (ps_if (PW.pt (pw_and (pt_cmpR op_isN (pv 6) pe_non (nomark _)) (pw_and1 (pt_cmpR (r := rNeD K) (op_neD hu64) (pe_call G_law_growing (hr.mono (by omega)) (by rfl) T.g_law_growing T.F_law_growing.kp T.b_law_growing .nil pass0 (pa_cons (pv 8) pa_nil)) (pe_lst pa_nil) (nomark _))))) (pss_one (ps_set (i := 6) sc_law_rule_problem.nd rfl (Or.inl rfl) (pe_tup (pa_cons pe_str (pa_cons (pe_ix (r := rIxL K) ix_list (pe_call G_law_growing (hr.mono (by omega)) (by rfl) T.g_law_growing T.F_law_growing.kp T.b_law_growing .nil pass0 (pa_cons (pv 8) pa_nil)) pe_int (fun _ _ => rfl)) pa_nil))))) pss_nil)
  (pss_one (ps_ret (pv 6)))))))))))))), ?_⟩
  rintro ss M Q ⟨wd, dr, du, kw, rel, W, n, r, ts, b, rfl, hw, hv1, hv2, hr1, hu1, hne, nd, ru, rl, gn, gr, hts, hb, hbl, hW', q⟩
  walk_at "k"
  show WS K _ [some (.raw (.ref wd)), some (.str n), some (.str r), some (.dat (encT ts)), some (.dat (encB b)), none, none, none, none] M _
  have tsl := hts.1
  refine ws_seq (ws_set (w_call (wa_cons (w_var rfl (wa_nil ⟨wd, dr, du, kw, rel, W, rfl, hw, hv1, hv2, hr1, hu1, hne, nd, ru, rl, fun p hp => ?_⟩)))))
  have ext : ∀ (x : MO) b v, M b = some v → Ab.um M p x b = some v := fun x b v hb => by rw [um_ne fun z => by rw [z, hp] at hb; cases hb]; exact hb
  classical
  unfold lruleP at q
  have hv := valG_inr (fun u : Rul => Sl.dat u.enc) n W
  refine ws_mid (fun ρ' M' => valG W n = none ∧ M' = Ab.um M p (.dK (kvW (widthsF rel W))) ∧ ρ' = [some (.raw (.ref wd)), some (.str n), some (.str r), some (.dat (encT ts)), some (.dat (encB b)), some (.raw (.ref p)), none, none, none]) ?_ ?_
  · refine ws_if (wt_test (w_din (w_var rfl (w_dget (w_var rfl (w_str ⟨kw, .inr "rules", _, dcv_ref (ext _ _ _ hw), rfl, hv2, kvRu W, .inr n, dcv_ref (ext _ _ _ hu1), rfl, ?_⟩)))))) 
    cases e1 : valG W n with
    | some x =>
      rw [e1] at hv q
      rw [show valG (kvRu W) (.inr n) = _ from hv]
      refine ⟨true, rfl, ?_⟩
      rw [if_pos rfl]
      walk_at "e"
      exact q _ (ext _)
    | none =>
      rw [e1] at hv
      rw [show valG (kvRu W) (.inr n) = _ from hv]
      refine ⟨false, rfl, ?_⟩
      rw [if_neg Bool.false_ne_true]
      exact ws_next ⟨rfl, rfl, rfl⟩
  rintro ρ' M' ⟨e1, rfl, rfl⟩
  rw [e1] at q
  dsimp only at q
  have hv' := valG_inr (fun i : Int => Sl.int i) r rel
  refine ws_mid (fun ρ' M' => valG rel r = none ∧ M' = Ab.um M p (.dK (kvW (widthsF rel W))) ∧ ρ' = [some (.raw (.ref wd)), some (.str n), some (.str r), some (.dat (encT ts)), some (.dat (encB b)), some (.raw (.ref p)), none, none, none]) ?_ ?_
  · refine ws_if (wt_test (w_din (w_var rfl (w_dget (w_var rfl (w_str ⟨kw, .inr "relations", _, dcv_ref (ext _ _ _ hw), rfl, hv1, kvW rel, .inr r, dcv_ref (ext _ _ _ hr1), rfl, ?_⟩)))))) 
    cases e2 : valG rel r with
    | some x =>
      rw [e2] at hv' q
      rw [show valG (kvW rel) (.inr r) = _ from hv']
      refine ⟨true, rfl, ?_⟩
      rw [if_pos rfl]
      walk_at "e"
      exact q _ (ext _)
    | none =>
      rw [e2] at hv'
      rw [show valG (kvW rel) (.inr r) = _ from hv']
      refine ⟨false, rfl, ?_⟩
      rw [if_neg Bool.false_ne_true]
      exact ws_next ⟨rfl, rfl, rfl⟩
  rintro ρ' M' ⟨e2, rfl, rfl⟩
  rw [e2] at q
  dsimp only at q
  have wlen : (kvW (widthsF rel W)).length ≤ 2000 := by
    unfold kvW
    rw [List.length_map]
    have h1 := putW_len W
    have h2 := mergeG_len rel (putW [] W)
    show (mergeG (putW [] W) rel).length ≤ 2000
    omega
  have hvw := valG_inr (fun i : Int => Sl.int i) r (widthsF rel W)
  refine ws_mid (fun ρ' M' => ¬wBad (valG (widthsF rel W) r) ts.length ∧ M' = Ab.um M p (.dK (kvW (widthsF rel W))) ∧ ρ' = [some (.raw (.ref wd)), some (.str n), some (.str r), some (.dat (encT ts)), some (.dat (encB b)), some (.raw (.ref p)), none, none, none]) ?_ ?_
  · have rz : wBad (valG (widthsF rel W) r) ts.length → Q (.dat (encOP (some ["width", r]))) (Ab.um M p (.dK (kvW (widthsF rel W)))) := fun bad => by
      have := q _ (ext (.dK (kvW (widthsF rel W))))
      rw [if_pos bad] at this
      exact this
    have eg : (valG (kvW (widthsF rel W)) (.inr r)).getD (.int (ts.length : Int)) = .int ((valG (widthsF rel W) r).getD (ts.length : Int)) := by
      rw [show valG (kvW (widthsF rel W)) (.inr r) = _ from hvw]
      cases valG (widthsF rel W) r <;> rfl
    refine ws_if (wt_or (wt_test (w_op (w_dget2 (w_var rfl ⟨⟨_, dcv_ref um_same⟩, w_var rfl (w_cb (wa_cons (w_var rfl (wa_nil (wl_lenTD ?_)))))⟩))))) 
    rw [List.length_map]
    refine ⟨kvW (widthsF rel W), .inr r, dcv_ref um_same, rfl, ?_⟩
    rw [eg]
    refine w_cb (wa_cons (w_var rfl (wa_nil (wl_lenTD ?_))))
    rw [List.length_map]
    refine w2_neI ⟨_, rfl, ?_⟩
    have hwb : wBad (valG (widthsF rel W) r) ts.length ↔ (valG (widthsF rel W) r).getD (ts.length : Int) ≠ (ts.length : Int) ∨ ¬(1 ≤ ts.length ∧ ts.length ≤ 4) := by
      unfold wBad
      cases valG (widthsF rel W) r with
      | none => exact ⟨fun h => h.elim (fun ⟨_, e, _⟩ => (nomatch e)) .inr, fun h => h.elim (fun e => absurd rfl e) .inr⟩
      | some k => exact ⟨fun h => h.elim (fun ⟨_, e, e2⟩ => by cases e; exact .inl e2) .inr, fun h => h.elim (fun e => .inl ⟨k, rfl, e⟩) .inr⟩
    by_cases hk : (valG (widthsF rel W) r).getD (ts.length : Int) = (ts.length : Int)
    · rw [if_neg (by simp [hk])]
      walk_at "f"
      rw [List.length_map]
      refine ite_d (fun l1 => ?_) (fun l1 => ?_)
      · walk_at "f"
        by_cases l2 : (ts.length : Int) ≤ 4
        · rw [decide_eq_true l2]
          walk_at "f"
          exact ⟨fun z => (hwb.mp z).elim (fun e => e hk) fun e => e ⟨by omega, by omega⟩, rfl, rfl⟩
        · rw [decide_eq_false l2]
          rw [if_pos (by rfl)]
          walk_at "f"
          exact rz (hwb.mpr (.inr fun z => by omega))
      · walk_at "f"
        exact rz (hwb.mpr (.inr fun z => by omega))
    · rw [if_pos (by simp [hk]), if_pos rfl]
      walk_at "f"
      exact rz (hwb.mpr (.inl hk))
  rintro ρ' M' ⟨nb, rfl, rfl⟩
  rw [if_neg nb] at q
  refine ws_seq (ws_dput (w_cb (wa_cons (w_var rfl (wa_nil (wl_lenTD ?_))))))
  rw [List.length_map]
  refine w_var rfl (w_var rfl ⟨p, kvW (widthsF rel W), .inr r, rfl, rfl, um_same, by omega, ?_⟩)
  rw [um_um, kvW_put]
  have hp1 : Ab.um M p (.dK (kvW (putG (widthsF rel W) r (ts.length : Int)))) p = some (.dK (kvW (putG (widthsF rel W) r (ts.length : Int)))) := um_same
  have x1 := ext (.dK (kvW (putG (widthsF rel W) r (ts.length : Int))))
  generalize putG (widthsF rel W) r (ts.length : Int) = ws at q hp1 x1
  generalize Ab.um M p (.dK (kvW ws)) = M1 at hp1 x1
  refine ws_mid (fun ρ' M' => ∃ o ks, ((∃ p, bodyE (valG ws) [] b = .inl p ∧ o = some p) ∨ (bodyE (valG ws) [] b = .inr ks ∧ o = none)) ∧ M' = M1 ∧ ρ' = [some (.raw (.ref wd)), some (.str n), some (.str r), some (.dat (encT ts)), some (.dat (encB b)), some (.raw (.ref p)), some (.dat (encOP o)), some (.dat (bnd ks)), none]) ?_ ?_
  · refine ws_asg (w_call (wa_cons (w_var rfl (wa_cons (w_var rfl (wa_nil ⟨_, ws, b, rfl, dcv_ref hp1, hb, hbl, fun p' bs e => ?_, fun ks e => ?_⟩))))))
    · exact wg_tup rfl rfl (wgs_cons (wg_name (wgs_cons (wg_name (wgs_nil ⟨some p', bs, .inl ⟨p', e, rfl⟩, rfl, rfl⟩)))))
    · exact wg_tup rfl rfl (wgs_cons (wg_name (wgs_cons (wg_name (wgs_nil ⟨none, ks, .inr ⟨e, rfl⟩, rfl, rfl⟩)))))
  rintro ρ' M' ⟨o, ks, ho, rfl, rfl⟩
  obtain ⟨tx1, tx2⟩ := bodyE_txt (cols := valG ws) (b := b) (ks := []) hb.2 fun _ h => nomatch h
  refine ws_mid (fun ρ' N => ∃ o ks, (match bodyE (valG ws) [] b with | .inl p => some p | .inr ks => termsP ks false ts) = o ∧ N = M' ∧ ρ' = [some (.raw (.ref wd)), some (.str n), some (.str r), some (.dat (encT ts)), some (.dat (encB b)), some (.raw (.ref p)), some (.dat (encOP o)), some (.dat (bnd ks)), none]) ?_ ?_
  · rcases ho with ⟨p', e, rfl⟩ | ⟨e, rfl⟩
    · dsimp only [encOP]
      walk_at "f"
      exact ⟨some p', ks, by rw [e], rfl, rfl⟩
    · dsimp only [encOP]
      walk_at "f"
      refine ⟨ts, ks, false, rfl, hts, ⟨(tx2 ks e).2, by have := (tx2 ks e).1; rw [List.length_nil] at this; omega⟩, ?_⟩
      exact ⟨_, ks, by rw [e], rfl, rfl⟩
  clear ho ks o
  rintro ρ' N ⟨o, ks, ho, rfl, rfl⟩
  have q1 : ∀ (M' : MH), (∀ x v, M x = some v → M' x = some v) → Q (.dat (encOP (match o with | some p => some p | none => if Ring (edgesF ((putG W n ⟨r, ts, b⟩).map (·.2))) then some ["ring"] else match growF (putG W n ⟨r, ts, b⟩) with | some m => some ["grows", m] | none => none))) M' := fun M' x => by
    have := q M' x
    rw [← ho]
    cases e : bodyE (valG ws) [] b with
    | inl p' => rw [e] at this; exact this
    | inr ks' =>
      rw [e] at this
      dsimp only at this ⊢
      cases e2 : termsP ks' false ts with
      | some p' => rw [e2] at this; exact this
      | none => rw [e2] at this; exact this
  clear q
  refine ws_seq (ws_set (w_cb (wa_cons (w_dget (w_var rfl (w_str ⟨kw, .inr "rules", _, dcv_ref (x1 _ _ hw), rfl, hv2, wa_nil (wl_dict (dcv_ref (x1 _ _ hu1)) fun p2 hp2 => ?_)⟩))))))
  refine ws_seq (ws_dput (w_tupD (wa_cons (w_var rfl (wa_cons (w_var rfl (wa_cons (w_var rfl (wa_nil ⟨_, rfl, by simp, ?_⟩)))))))))
  refine w_var rfl (w_var rfl ⟨p2, kvRu W, .inr n, rfl, rfl, um_same, by rw [List.length_map]; omega, ?_⟩)
  rw [um_um]
  have eput : putG (kvRu W) (.inr n) (.dat (.tuple [.str r, encT ts, encB b])) = kvRu (putG W n ⟨r, ts, b⟩) := putG_inr (fun u : Rul => Sl.dat u.enc) n ⟨r, ts, b⟩ W
  rw [eput]
  have hp3 : Ab.um N p2 (.dK (kvRu (putG W n ⟨r, ts, b⟩))) p2 = some (.dK (kvRu (putG W n ⟨r, ts, b⟩))) := um_same
  have x2 : ∀ x v, M x = some v → Ab.um N p2 (.dK (kvRu (putG W n ⟨r, ts, b⟩))) x = some v := fun x v hx => by
    have h1 := x1 _ _ hx
    rw [um_ne fun z => by rw [z, hp2] at h1; cases h1]
    exact h1
  generalize Ab.um N p2 (.dK (kvRu (putG W n ⟨r, ts, b⟩))) = N2 at hp3 x2
  generalize putG W n ⟨r, ts, b⟩ = W' at hW' hp3 q1
  refine ws_mid (fun ρ' N => ∃ o2 ks, (match o with | some p => some p | none => if Ring (edgesF (W'.map (·.2))) then some ["ring"] else none) = o2 ∧ N p2 = some (.dK (kvRu W')) ∧ (∀ x v, M x = some v → N x = some v) ∧ ρ' = [some (.raw (.ref wd)), some (.str n), some (.str r), some (.dat (encT ts)), some (.dat (encB b)), some (.raw (.ref p)), some (.dat (encOP o2)), some (.dat (bnd ks)), some (.raw (.ref p2))]) ?_ ?_
  · cases o with
    | some p' =>
      dsimp only [encOP]
      walk_at "f"
      exact ⟨some p', ks, rfl, hp3, x2, rfl⟩
    | none =>
      dsimp only [encOP]
      walk_at "f"
      refine ⟨p2, W', rfl, hp3, hW', fun N3 c x3 hc => ⟨_, rfl, ?_⟩⟩
      by_cases hg : Ring (edgesF (W'.map (·.2)))
      · rw [if_pos (hc.mpr hg)]
        walk_at "f"
        exact ⟨some ["ring"], ks, by rw [if_pos hg], x3 _ _ hp3, fun x v hx => x3 _ _ (x2 _ _ hx), rfl⟩
      · rw [if_neg fun z => hg (hc.mp z)]
        exact ws_next ⟨none, ks, by rw [if_neg hg], x3 _ _ hp3, fun x v hx => x3 _ _ (x2 _ _ hx), rfl⟩
  clear hp3 x2
  rintro ρ' N2 ⟨o2, ks2, ho2, hp3, x2, rfl⟩
  have q2 : ∀ (M' : MH), (∀ x v, M x = some v → M' x = some v) → Q (.dat (encOP (match o2 with | some p => some p | none => match growF W' with | some m => some ["grows", m] | none => none))) M' := fun M' x => by
    have := q1 M' x
    rw [← ho2]
    cases o with
    | some p' => exact this
    | none =>
      dsimp only at this ⊢
      by_cases hg : Ring (edgesF (W'.map (·.2)))
      · rw [if_pos hg] at this ⊢; exact this
      · rw [if_neg hg] at this ⊢; exact this
  clear q1
  cases o2 with
  | some p' =>
    dsimp only [encOP]
    walk_at "f"
    exact q2 _ x2
  | none =>
    dsimp only [encOP]
    walk_at "f"
    refine ⟨p2, W', rfl, hp3, hW', fun N3 x3 => ?_⟩
    have gm : ∀ m, growF W' = some m → goodS m = true := fun m hm => by
      have hm2 := List.mem_of_find?_eq_some hm
      rw [sortT_mem] at hm2
      obtain ⟨z, hz, rfl⟩ := List.mem_map.mp hm2
      exact hW'.n z hz
    have sh : SeqAt.shaped (.list ((growF W').toList.map PyData.str)) = true := okD_shaped (n := 1) (okD_mkL (by rw [List.length_map]; cases growF W' <;> simp) (okAll_of fun d hd => by
      obtain ⟨m, hm, rfl⟩ := List.mem_map.mp hd
      exact okD_str (goodS_ok (gm m (by rw [Option.mem_toList] at hm; exact hm))))) (by decide)
    refine w_lstD (wa_nil ⟨[], rfl, by simp, w2_neL lsv_dat (lsv_dat (ds := [])) sh (by decide +kernel) ⟨_, rfl, ?_⟩⟩)
    rw [eqv_nil]
    cases hg : growF W' with
    | none =>
      rw [hg] at q2
      rw [if_neg (by decide)]
      walk_at "f"
      exact q2 _ fun x v hx => x3 _ _ (x2 _ _ hx)
    | some m =>
      rw [hg] at q2
      rw [if_pos (by rfl)]
      walk_at "f"
      refine ⟨p2, W', rfl, x3 _ _ hp3, hW', fun N4 x4 => ?_⟩
      rw [hg]
      walk_at "f"
      skip
      exact q2 _ fun x v hx => x4 _ _ (x3 _ _ (x2 _ _ hx))
end
end
section
local macro_rules | `(tactic| walk_at "fl") => `(tactic| with_reducible first | exact sl_r _ | exact sl_f _ | exact sl_u _ | exact sl_n _)
section
variable {w : World} {K : PySem.W.Frag} {mg : Str → Option Value} {base : Heap} {a : AD} {d : FD}
abbrev goC (c : Ct) (it : Item) : Ct := (chgs (puts c.items).tidy [.goes it]).tidy
structure SoundP (c : Ct) : Prop where
  f : ∀ n row, row ∈ rowsOf c n → valG c.rel n = some (row.length : Int)
  r : ∀ n u, valG c.rul n = some u → ruleP (goC c (.rule n u.rel u.hd u.b)) (aftC (goC c (.rule n u.rel u.hd u.b)) n u.rel u.hd u.b) n u.rel u.hd u.b = none
  d : ∀ n b, valG c.den n = some b → denP (goC c (.denial n b)) n b = none
def A_sound (C : Addr) : ASp := fun ss M Q => ∃ A c os, ss = [.raw (.ref (SA.o A))] ∧ SeAt C M A c ∧ StH c os 19 ∧ ∀ (M' : MH) (b : Bool), (∀ x u, M x = some u → M' x = some u) → (b = true ↔ SoundP c) → Q (.bl b) M'
theorem ok_is_sound (T : Txt K mg a d) : FnOk P w K mg base CX0 11 a.is_sound d.is_sound ["state"] (conc K (A_sound a.State)) := by
  have cl := T.cl_State
  have n1 := T.na_State_relations
  have n2 := T.na_State_facts
  have n3 := T.na_State_rules
  have n4 := T.na_State_denials
  have G_State_change : FnOk P w K mg base CX0 9 a.State_change d.State_change ["self", "changes"] (conc K (A_change a.State K)) := ok_change T
  have G_check_rule : FnOk P w K mg base (L2.CX P w) 10 a.check_rule d.check_rule ["state", "name", "relation", "terms", "body"] (concX K (A_rule a.State a.Refused)) := ok_check_rule T
  have G_check_denial : FnOk P w K mg base (L2.CX P w) 6 a.check_denial d.check_denial ["state", "name", "body"] (concX K (A_denial a.State a.Refused)) := ok_check_denial T
  refine ab_ok T.F_is_sound sc_is_sound (fun ss M Q ⟨A, c, os, e, _⟩ => by subst e; rfl) fun cdv Ar outer s H E hr => ?_
  have hu64 := hr.units
  have hu65 := room65 hr
  refine ⟨_, (pss_cons (ps_lock (ps_for PassesOwn.never rfl (pi_keys (pe_fld (pv 0) rfl)) (pg_name (i := 1) sc_is_sound.nd rfl (Or.inl rfl)) (pss_one (ps_for PassesOwn.never rfl (pi_list (pe_dget (hu1 hu64) (pe_fld (pv 0) rfl) (pv 1) (fun _ _ => rfl))) (pg_name (i := 2) sc_is_sound.nd rfl (Or.inl rfl)) (pss_one (ps_if (pt_cmpR (r := rNeD K) (op_neD hu64) (pe_dget1 (hu1 hu64) (pe_fld (pv 0) rfl) (pv 1) ⟨rfl, rfl, rfl, rfl⟩) (pe_callB (r := rLenS K) call_len_seq (by rfl) T.n_len PySem.boot_len (pa_cons (pv 2) pa_nil)) (nomark _)) (pss_one (ps_ret pe_bl)) pss_nil))))))
  (pss_cons (ps_tryOnly rfl rfl ⟨rfl, by decide, .inl T.g_Refused⟩ takes0 (fun W pn xe tk po => (pss_cons (ps_for po rfl (pi_listK (K := K) rfl (pe_callB (r := rSortedDk) (call_sortedD rfl) (by rfl) T.n_sorted (by decide +kernel) (pa_cons (pe_fldK (K := K) rfl (pv 0) rfl) pa_nil))) (pg_name (i := 1) sc_is_sound.nd rfl (Or.inl rfl)) (pss_cons (ps_asg (pe_dget (hu1 hu64) (pe_fldK (K := K) rfl (pv 0) rfl) (pv 1) (fun _ _ => rfl)) (pg_tupK (K := K) (n := 3) rfl rfl (pgs_cons (pg_name (i := 3) sc_is_sound.nd rfl (Or.inl rfl)) (pgs_cons (pg_name (i := 4) sc_is_sound.nd rfl (Or.inl rfl)) (pgs_cons (pg_name (i := 5) sc_is_sound.nd rfl (Or.inl rfl)) pgs_nil)))))
  (pss_one (ps_expr (pe_callSD G_check_rule (hr.mono (by omega)) (by rfl) T.g_check_rule T.F_check_rule.kp T.b_check_rule .nil (fun σ => passAt tk σ) (pa_cons (pe_meth (pv 0) T.cl_State T.m_State_change G_State_change (hr.mono (by omega)) T.b_State_change .nil pass0 (pa_cons (pe_lst (pa_cons (pe_tup (pa_cons pe_str (pa_cons (pe_tup (pa_cons pe_int (pa_cons (pv 1) (pa_cons (pe_tup pa_nil) pa_nil)))) pa_nil))) pa_nil)) pa_nil)) (pa_cons (pv 1) (pa_cons (pv 3) (pa_cons (pv 4) (pa_cons (pv 5) pa_nil))))))))))
  (pss_one (ps_for po rfl (pi_listK (K := K) rfl (pe_callB (r := rSortedDk) (call_sortedD rfl) (by rfl) T.n_sorted (by decide +kernel) (pa_cons (pe_fldK (K := K) rfl (pv 0) rfl) pa_nil))) (pg_name (i := 1) sc_is_sound.nd rfl (Or.inl rfl)) (pss_one (ps_expr (pe_callSD G_check_denial (hr.mono (by omega)) (by rfl) T.g_check_denial T.F_check_denial.kp T.b_check_denial .nil (fun σ => passAt tk σ) (pa_cons (pe_meth (pv 0) T.cl_State T.m_State_change G_State_change (hr.mono (by omega)) T.b_State_change .nil pass0 (pa_cons (pe_lst (pa_cons (pe_tup (pa_cons pe_str (pa_cons (pe_tup (pa_cons pe_int (pa_cons (pv 1) (pa_cons (pe_tup pa_nil) pa_nil)))) pa_nil))) pa_nil)) pa_nil)) (pa_cons (pv 1) (pa_cons (pe_dget (hu1 hu64) (pe_fldK (K := K) rfl (pv 0) rfl) (pv 1) (fun _ _ => rfl)) pa_nil)))))))))) (fun a1 oe cls d pn _ _ => (pss_one (ps_ret pe_bl))))
  (pss_one (ps_ret pe_bl)))), ?_⟩
  rintro ss M Q ⟨A, c, os, rfl, h, hS, q⟩
  walk_at "k"
  show WS K _ [some (.raw (.ref A.o)), none, none, none, none, none] M _
  refine ws_mid (fun ρ' M' => (∃ z1 z2, ρ' = [some (.raw (.ref A.o)), z1, z2, none, none, none]) ∧ M' = M ∧ ∀ n row, row ∈ rowsOf c n → valG c.rel n = some (row.length : Int)) ?_ ?_
  · refine ws_lock h.hf fun od v => ?_
    have hL : Ab.um M A.f (.frz od v (.dK (kvF A))) A.o = some (.ins a.State A.dx (sfld A)) := by rw [um_ne h.oo.2.1.symm]; exact h.ho
    have hLr : Ab.um M A.f (.frz od v (.dK (kvF A))) A.r = some (.dK (kvR c)) := by rw [um_ne h.ne.1]; exact h.hr
    have back : Ab.um (Ab.um M A.f (.frz od v (.dK (kvF A)))) A.f (.dK (kvF A)) = M := by rw [um_um, um_id h.hf]
    refine ws_for (wi_keys (w_fldI rfl hL cl n2 (sl_f _) ⟨A.f, od, v, kvF A, rfl, um_same, fun i ρ' M' => (∃ z1 z2, ρ' = [some (.raw (.ref A.o)), z1, z2, none, none, none]) ∧ M' = Ab.um M A.f (.frz od v (.dK (kvF A))) ∧ ∀ n ∈ (A.fa.map (·.1)).take i, ∀ row ∈ rowsOf c n, valG c.rel n = some (row.length : Int), ⟨⟨_, _, rfl⟩, rfl, fun n hn => (nomatch hn)⟩, fun i ρ' M' _ hJ => (by rw [hJ.2.1]; exact um_same), fun i ρ' M' hi hJ => ?_, fun ρ' M' hJ => ?_⟩))
    · obtain ⟨⟨z1, z2, rfl⟩, rfl, hn⟩ := hJ
      have hi' : i < (A.fa.map (·.1)).length := by unfold kvF at hi; rw [List.length_map] at hi ⊢; exact hi
      have gi : ((kvF A).map fun q => kS q.1).getD i .non = .str (A.fa.map (·.1))[i] := by
        unfold kvF
        rw [List.getD_eq_getElem?_getD, List.map_map, List.getElem?_map, List.getElem?_eq_getElem (by rw [List.length_map] at hi'; exact hi'), List.getElem_map]
        rfl
      have hm : (A.fa.map (·.1))[i] ∈ A.fa.map (·.1) := List.getElem_mem hi'
      have el : (A.fa.map (·.1)).take (i + 1) = (A.fa.map (·.1)).take i ++ [(A.fa.map (·.1))[i]] := List.take_succ_eq_append_getElem hi'
      dsimp only
      rw [gi, el]
      generalize (A.fa.map (·.1))[i] = n at hm
      obtain ⟨ad, ea⟩ := valG_of hm
      have ev : valG (kvF A) (.inr n) = some (.raw (.ref ad)) := by
        have := valG_inr (fun p : Addr => Sl.raw (.ref p)) n A.fa
        rw [ea] at this
        exact this
      have hr1 := h.rows n ad ea
      have af : ad ≠ A.f := fun z => by rw [z, h.hf] at hr1; cases hr1
      have hr2 : Ab.um M A.f (.frz od v (.dK (kvF A))) ad = some (rowsM (rowsOf c n)) := by rw [um_ne af]; exact hr1
      obtain ⟨ro1, ro2⟩ := hS.ok.row (n := n)
      refine wg_name ?_
      refine ws_for (wi_list (w_dget (w_fldI rfl hL cl n2 (sl_f _) (w_var rfl ⟨kvF A, .inr n, _, dcv_frz um_same, rfl, ev, _, lsv_ref hr2, fun j ρ' M' => (∃ z2, ρ' = [some (.raw (.ref A.o)), some (.str n), z2, none, none, none]) ∧ M' = Ab.um M A.f (.frz od v (.dK (kvF A))) ∧ ∀ row ∈ (rowsOf c n).take j, valG c.rel n = some (row.length : Int), ⟨⟨_, rfl⟩, rfl, fun n hn => (nomatch hn)⟩, fun j ρ' M' _ hJ => (by rw [hJ.2.1]; exact lsv_ref hr2), fun j ρ' M' hj hJ => ?_, fun ρ' M' hJ => ?_⟩))))
      · obtain ⟨⟨z2, rfl⟩, rfl, hn'⟩ := hJ
        have hj' : j < (rowsOf c n).length := by rw [List.length_map] at hj; exact hj
        have gj : ((rowsOf c n).map fun r => Sl.dat (encR r)).getD j .non = .dat (encR (rowsOf c n)[j]) := by
          rw [List.getD_eq_getElem?_getD, List.getElem?_map, List.getElem?_eq_getElem hj']
          rfl
        have hmr : (rowsOf c n)[j] ∈ rowsOf c n := List.getElem_mem hj'
        have el2 : (rowsOf c n).take (j + 1) = (rowsOf c n).take j ++ [(rowsOf c n)[j]] := List.take_succ_eq_append_getElem hj'
        dsimp only
        rw [gj, el2]
        generalize (rowsOf c n)[j] = row at hmr
        refine wg_name ?_
        have hv := valG_inr (fun i : Int => Sl.int i) n c.rel
        have eg : (valG (kvR c) (.inr n)).getD .non = .dat (encO (valG c.rel n)) := by
          rw [show valG (kvR c) (.inr n) = _ from hv]
          cases valG c.rel n <;> rfl
        refine ws_if (wt_test (w_op (w_dget1 (w_fldI rfl hL cl n1 (sl_r _) ⟨⟨_, dcv_ref hLr⟩, w_var rfl ⟨kvR c, .inr n, dcv_ref hLr, rfl, ?_⟩⟩))))
        rw [eg]
        refine w_cb (wa_cons (w_var rfl (wa_nil (wl_lenTD ?_))))
        rw [List.length_map]
        have hne : PyData.eqv (encO (valG c.rel n)) (.int (row.length : Int)) = decide (valG c.rel n = some (row.length : Int)) := by
          cases valG c.rel n with
          | none => rfl
          | some k =>
            show PyData.eqv (.int k) (.int (row.length : Int)) = _
            rw [eqv_int]
            by_cases hk : k = (row.length : Int)
            · rw [hk]; simp
            · rw [decide_eq_false hk, decide_eq_false fun z => hk (Option.some.inj z)]
        refine w2_ne (d := encO (valG c.rel n)) (e := .int (row.length : Int)) (by cases valG c.rel n <;> rfl) (shaped_int _) ⟨_, rfl, ?_⟩
        rw [hne]
        by_cases hk : valG c.rel n = some (row.length : Int)
        · rw [decide_eq_true hk]
          rw [if_neg (by decide)]
          refine ws_next ⟨⟨_, rfl⟩, rfl, fun r hr => ?_⟩
          rcases List.mem_append.mp hr with h1 | h1
          · exact hn' r h1
          · rw [List.mem_singleton.mp h1]; exact hk
        · rw [decide_eq_false hk]
          rw [if_pos (by decide)]
          refine ws_ret (w_bl ⟨um_same, ?_⟩)
          rw [back]
          exact q M false (fun _ _ z => z) ⟨fun z => (nomatch z), fun z => absurd (z.f n row hmr) hk⟩
      · obtain ⟨⟨z2, rfl⟩, rfl, hn'⟩ := hJ
        rw [List.length_map, List.take_length] at hn'
        refine ⟨⟨_, _, rfl⟩, rfl, fun m hm => ?_⟩
        rcases List.mem_append.mp hm with h1 | h1
        · exact hn m h1
        · rw [List.mem_singleton.mp h1]; exact hn'
    · obtain ⟨⟨z1, z2, rfl⟩, rfl, hn⟩ := hJ
      refine ⟨um_same, ⟨_, _, rfl⟩, back, fun n row hrow => ?_⟩
      refine hn n ?_ row hrow
      have ek : (kvF A).length = (A.fa.map (·.1)).length := by unfold kvF; rw [List.length_map, List.length_map]
      rw [ek, List.take_length, h.keys]
      unfold rowsOf at hrow
      cases ev : valG c.fac n with
      | none => rw [ev] at hrow; cases hrow
      | some x => exact List.mem_map.mpr ⟨_, valG_mem ev, rfl⟩
  rintro ρ' M' ⟨⟨z1, z2, rfl⟩, rfl, hF⟩
  have hin := hS.init (by decide)
  have kU : (kvU c).map (·.1) = (c.rul.map (·.1)).map Sum.inr := by unfold kvU; rw [List.map_map, List.map_map]; rfl
  have kN : (kvN c).map (·.1) = (c.den.map (·.1)).map Sum.inr := by unfold kvN; rw [List.map_map, List.map_map]; rfl
  have lp := hS.l
  refine ws_mid (fun ρ' N => (∀ x u, M' x = some u → N x = some u) ∧ SoundP c) ?_ ?_
  · refine ws_tryO (fun C d ρ' N => C = .ref a.Refused ∧ ¬SoundP c ∧ ∀ x u, M' x = some u → N x = some u) (fun Wx => ?_) ?_
    · refine ws_mid (fun ρ' N => (∃ z1 z2 z3 z4 z5, ρ' = [some (.raw (.ref A.o)), z1, z2, z3, z4, z5]) ∧ (∀ x u, M' x = some u → N x = some u) ∧ ∀ n u, valG c.rul n = some u → ruleP (goC c (.rule n u.rel u.hd u.b)) (aftC (goC c (.rule n u.rel u.hd u.b)) n u.rel u.hd u.b) n u.rel u.hd u.b = none) ?_ ?_
      · refine ws_forD (xs := sortT (c.rul.map (·.1))) (enc := PyData.str) (M1 := M') (w_sortedN (w_fldI rfl h.ho cl n3 (sl_u _) ⟨dcv_ref h.hu, kU, by rw [List.length_map]; exact hS.sm.2.1, rfl, rfl⟩))
          (fun pre ρ' N => (∃ z1 z2 z3 z4 z5, ρ' = [some (.raw (.ref A.o)), z1, z2, z3, z4, z5]) ∧ (∀ x u, M' x = some u → N x = some u) ∧ ∀ n ∈ pre, ∀ u, valG c.rul n = some u → ruleP (goC c (.rule n u.rel u.hd u.b)) (aftC (goC c (.rule n u.rel u.hd u.b)) n u.rel u.hd u.b) n u.rel u.hd u.b = none) ⟨⟨_, _, _, _, _, rfl⟩, fun _ _ z => z, fun _ z => (nomatch z)⟩ ?_ ?_
        · rintro pre n post ρ' N hx ⟨⟨z1, z2, z3, z4, z5, rfl⟩, e, hp⟩
          have hm : n ∈ c.rul.map (·.1) := by rw [← sortT_mem, hx]; simp
          obtain ⟨u, hu⟩ := valG_of hm
          have hu2 : valG (kvU c) (.inr n) = some (.dat u.enc) := by
            have := valG_inr (fun u : Rul => Sl.dat u.enc) n c.rul
            rw [hu] at this
            exact this
          have hit : (Item.rule n u.rel u.hd u.b).ok := hS.ok.rul _ (valG_mem hu)
          have h2 := h.ext e
          obtain ⟨c0, hG⟩ := hS.chg (x := .goes (.rule n u.rel u.hd u.b)) (k' := 19) (by decide) hit (Nat.le_trans (gone_len _ _) lp) (by decide)
          obtain ⟨c1, hB⟩ := hG.chg (x := .comes (.rule n u.rel u.hd u.b)) (k' := 20) (by decide) hit (Nat.le_trans (chgI_len _ _) (Nat.succ_le_succ hG.l)) (by decide)
          refine wg_name ?_
          refine ws_seq (ws_asg (w_dget (w_fldI rfl h2.ho cl n3 (sl_u _) (w_var rfl ⟨kvU c, .inr n, _, dcv_ref h2.hu, rfl, hu2, ?_⟩))))
          refine wg_tup (ds := [.str u.rel, encT u.hd, encB u.b]) rfl rfl (wgs_cons (wg_name (wgs_cons (wg_name (wgs_cons (wg_name (wgs_nil ?_)))))))
          show WS _ _ [some (.raw (.ref A.o)), some (.str n), z2, some (.str u.rel), some (.dat (encT u.hd)), some (.dat (encB u.b))] N _
          refine ws_drop (w_callX (wa_cons (w_meth (w_var rfl ⟨A.o, A.dx, sfld A, rfl, h2.ho, by kernel_rfl, wa_cons (w_lstD ?_)⟩))))
          walk_at "f"
          refine ⟨A, c, _, [.goes (.rule n u.rel u.hd u.b)], rfl, lsv_dat (ds := [(Chg.goes (.rule n u.rel u.hd u.b)).enc]), h2, hS.ok, hS.sm, hin, fun x hx => (by rw [List.mem_singleton.mp hx]; exact hit), c0, fun N2 A2 h3 f3 => ?_⟩
          have e3 : ∀ x w, M' x = some w → N2 x = some w := fun x w hx => (f3 _ _ (e _ _ hx)).1
          walk_at "f"
          refine ⟨A2, _, n, u.rel, u.hd, u.b, rfl, h3, hG.ok, hG.sm, hG.init (by decide), hit, c1, hB.ok, hB.sm, fun p ep => ?_, fun N3 en x3 => ?_⟩
          · exact fun N3 x hX h1 h2 => ⟨rfl, fun z => (by have := z.r n u hu; rw [ep] at this; cases this), fun x w hx => hX _ _ (e3 _ _ hx)⟩
          · refine ⟨⟨_, _, _, _, _, rfl⟩, fun x w hx => x3 _ _ (e3 _ _ hx), fun m hm2 v hv => ?_⟩
            rcases List.mem_append.mp hm2 with h1 | h1
            · exact hp m h1 v hv
            · rw [List.mem_singleton.mp h1] at hv ⊢
              rw [hu] at hv
              cases hv
              exact en
        · rintro ρ' N ⟨z, e, hp⟩
          exact ⟨z, e, fun n u hu => hp n (sortT_mem.mpr (List.mem_map.mpr ⟨_, valG_mem hu, rfl⟩)) u hu⟩
      · rintro ρ' N1 ⟨⟨z1, z2, z3, z4, z5, rfl⟩, e1, hR⟩
        have h1 := h.ext e1
        refine ws_forD (xs := sortT (c.den.map (·.1))) (enc := PyData.str) (M1 := N1) (w_sortedN (w_fldI rfl h1.ho cl n4 (sl_n _) ⟨dcv_ref h1.hn, kN, by rw [List.length_map]; exact hS.sm.2.2, rfl, rfl⟩))
          (fun pre ρ' N => (∃ z1 z2 z3 z4 z5, ρ' = [some (.raw (.ref A.o)), z1, z2, z3, z4, z5]) ∧ (∀ x u, M' x = some u → N x = some u) ∧ ∀ n ∈ pre, ∀ b, valG c.den n = some b → denP (goC c (.denial n b)) n b = none) ⟨⟨_, _, _, _, _, rfl⟩, e1, fun _ z => (nomatch z)⟩ ?_ ?_
        · rintro pre n post ρ' N hx ⟨⟨z1, z2, z3, z4, z5, rfl⟩, e, hp⟩
          have hm : n ∈ c.den.map (·.1) := by rw [← sortT_mem, hx]; simp
          obtain ⟨b, hb⟩ := valG_of hm
          have hb2 : valG (kvN c) (.inr n) = some (.dat (encB b)) := by
            have := valG_inr (fun b : List Lit => Sl.dat (encB b)) n c.den
            rw [hb] at this
            exact this
          have hit : (Item.denial n b).ok := hS.ok.den _ (valG_mem hb)
          have h2 := h.ext e
          obtain ⟨c0, hG⟩ := hS.chg (x := .goes (.denial n b)) (k' := 19) (by decide) hit (Nat.le_trans (gone_len _ _) lp) (by decide)
          refine wg_name ?_
          refine ws_drop (w_callX (wa_cons (w_meth (w_var rfl ⟨A.o, A.dx, sfld A, rfl, h2.ho, by kernel_rfl, wa_cons (w_lstD ?_)⟩))))
          walk_at "f"
          refine ⟨A, c, _, [.goes (.denial n b)], rfl, lsv_dat (ds := [(Chg.goes (.denial n b)).enc]), h2, hS.ok, hS.sm, hin, fun x hx => (by rw [List.mem_singleton.mp hx]; exact hit), c0, fun N2 A2 h3 f3 => ?_⟩
          have e3 : ∀ x w, M' x = some w → N2 x = some w := fun x w hx => (f3 _ _ (e _ _ hx)).1
          have h4 := h.ext e3
          refine wa_cons (w_var rfl (wa_cons (w_dget (w_fldI rfl h4.ho cl n4 (sl_n _) (w_var rfl ⟨kvN c, .inr n, _, dcv_ref h4.hn, rfl, hb2, wa_nil ?_⟩)))))
          refine ⟨A2, _, n, b, rfl, h3, hG.ok, hG.sm, hit.1, hit.2, fun p ep => ?_, fun N3 en x3 => ?_⟩
          · exact fun N3 x hX h1 h2 => ⟨rfl, fun z => (by have := z.d n b hb; rw [ep] at this; cases this), fun x w hx => hX _ _ (e3 _ _ hx)⟩
          · refine ⟨⟨_, _, _, _, _, rfl⟩, fun x w hx => x3 _ _ (e3 _ _ hx), fun m hm2 v hv => ?_⟩
            rcases List.mem_append.mp hm2 with h1 | h1
            · exact hp m h1 v hv
            · rw [List.mem_singleton.mp h1] at hv ⊢
              rw [hb] at hv
              cases hv
              exact en
        · rintro ρ' N ⟨z, e, hp⟩
          exact ⟨e, hF, hR, fun n b hb => hp n (sortT_mem.mpr (List.mem_map.mpr ⟨_, valG_mem hb, rfl⟩)) b hb⟩
    · rintro C dd ρ' N ⟨rfl, hn, e⟩
      refine ⟨true, PySem.W.exm_ref T.bs_Refused T.hd_Refused T.ty_Refused T.s_Refused_Refused, fun _ x => ?_, fun e => nomatch e⟩
      refine ws_ret (w_bl ?_)
      exact q N false e ⟨fun z => (nomatch z), fun z => absurd z hn⟩
  · rintro ρ' N ⟨e, hs⟩
    refine ws_ret (w_bl ?_)
    exact q N true e ⟨fun _ => hs, fun _ => rfl⟩
end
end
section
local macro_rules | `(tactic| walk_at "fl") => `(tactic| with_reducible first | exact sl_r _ | exact sl_f _ | exact sl_u _ | exact sl_n _)
section
variable {w : World} {K : PySem.W.Frag} {mg : Str → Option Value} {base : Heap} {a : AD} {d : FD}
abbrev kvDe (D : List (Str × List Lit)) : List (Key × Sl) := D.map fun p => (.inr p.1, .dat (encB p.2))
abbrev encF (p : Str × List Val) : PyData := .tuple [.str p.1, encR p.2]
structure DueP (rel : List (Str × Int)) (W : List (Str × Rul)) (F : List (Str × List Val)) (D : List (Str × List Lit)) : Prop where
  f : ∀ p ∈ F, valG rel p.1 = some (p.2.length : Int)
  r : ∀ p ∈ W, lruleP rel (dropG W p.1) p.1 p.2.rel p.2.hd p.2.b = none
  d : ∀ p ∈ D, ∃ ks, bodyE (valG (widthsF rel W)) [] p.2 = .inr ks
theorem eqv_nones : ∀ xs : List PyData, (∀ x ∈ xs, x = .none ∨ ∃ p, x = encP p) → (PyData.eqvAll xs (List.replicate xs.length .none) = true ↔ ∀ x ∈ xs, x = .none)
  | [], _ => ⟨fun _ x h => (nomatch h), fun _ => rfl⟩
  | x :: xs, h => by
    have ih := eqv_nones xs fun y hy => h y (List.mem_cons_of_mem _ hy)
    show (PyData.eqv x .none && PyData.eqvAll xs (List.replicate xs.length .none)) = true ↔ _
    rw [Bool.and_eq_true, ih]
    have h1 : PyData.eqv x .none = true ↔ x = .none := by
      rcases h x List.mem_cons_self with rfl | ⟨p, rfl⟩
      · exact ⟨fun _ => rfl, fun _ => rfl⟩
      · exact ⟨fun z => (nomatch z), fun z => (nomatch z)⟩
    rw [h1]
    exact ⟨fun ⟨a, b⟩ y hy => (List.mem_cons.mp hy).elim (fun e => by rw [e, a]) (b y), fun z => ⟨z x List.mem_cons_self, fun y hy => z y (List.mem_cons_of_mem _ hy)⟩⟩
theorem rep_nones (n : Nat) : repD [.none] n = List.replicate n .none := by
  unfold repD
  induction n with
  | zero => rfl
  | succ n ih => rw [List.replicate_succ, List.flatten_cons, ih]; rfl
structure DenOk (D : List (Str × List Lit)) : Prop where
  nd : (D.map (·.1)).Nodup
  l : D.length ≤ 60
  b : ∀ p ∈ D, goodS p.1 = true ∧ okB p.2 ∧ p.2.length ≤ 60
def A_due : ASp := fun ss M Q => ∃ wd fa q0 dr du kw rel W F D, ss = [.raw (.ref wd), .raw (.ref fa), .raw (.ref q0)] ∧ M wd = some (.dK kw) ∧ valG kw (.inr "relations") = some (.raw (.ref dr)) ∧ valG kw (.inr "rules") = some (.raw (.ref du)) ∧ M dr = some (.dK (kvW rel)) ∧ M du = some (.dK (kvRu W)) ∧ wd ≠ du ∧ dr ≠ du ∧
  M fa = some (.lst (F.map fun p => .dat (encF p))) ∧ (∀ p ∈ F, goodS p.1 = true ∧ p.2.length ≤ 1000) ∧ M q0 = some (.dK (kvDe D)) ∧ q0 ≠ wd ∧ q0 ≠ dr ∧ q0 ≠ du ∧ DenOk D ∧ RuOk W ∧ (∀ p ∈ W, okTs p.2.hd ∧ p.2.b.length ≤ 60) ∧ rel.length ≤ 1000 ∧ ∀ (M' : MH) (b : Bool), (∀ x v, M x = some v → M' x = some v) → (b = true ↔ DueP rel W F D) → Q (.bl b) M'
theorem ok_due (T : Txt K mg a d) : FnOk P w K mg base CX0 5 a.law_is_due d.law_is_due ["_law_world", "_law_facts", "_law_denials"] (conc K A_due) := by
  have G_law_widths : FnOk P w K mg base CX0 1 a.law_widths d.law_widths ["_law_world"] (conc K A_widths) := ok_widths T
  have G_law_body_problem : FnOk P w K mg base CX0 3 a.law_body_problem d.law_body_problem ["_law_widths_here", "_law_body_here"] (conc K (A_bproblem K)) := ok_bproblem T
  have G_law_rule_problem : FnOk P w K mg base CX0 4 a.law_rule_problem d.law_rule_problem ["_law_world", "_law_name", "_law_relation", "_law_terms", "_law_body_here"] (conc K A_rproblem) := ok_rproblem T
  refine ab_ok T.F_law_is_due sc_law_is_due (fun ss M Q ⟨wd, fa, q0, dr, du, kw, rel, W, F, D, e, _⟩ => by subst e; rfl) fun cdv Ar outer s H E hr => ?_
  have hu64 := hr.units
  have hu65 := room65 hr
  refine ⟨_, (pss_cons (ps_for PassesOwn.never rfl (pi_list (pv 1)) (pg_tupK (K := K) (n := 2) rfl rfl (pgs_cons (pg_name (i := 3) sc_law_is_due.nd rfl (Or.inl rfl)) (pgs_cons (pg_name (i := 4) sc_law_is_due.nd rfl (Or.inl rfl)) pgs_nil))) (pss_one (ps_if (pt_cmpR (r := rNeD K) (op_neD hu64) (pe_dget1 (hu1 hu64) (pe_dget (hu1 hu64) (pv 0) pe_str (fun _ _ => rfl)) (pv 3) ⟨rfl, rfl, rfl, rfl⟩) (pe_callB (r := rLenS K) call_len_seq (by rfl) T.n_len PySem.boot_len (pa_cons (pv 4) pa_nil)) (nomark _)) (pss_one (ps_ret pe_bl)) pss_nil)))
  (pss_cons (ps_lock (ps_for PassesOwn.never rfl (pi_keys (pe_dget (hu1 hu64) (pv 0) pe_str (fun _ _ => rfl))) (pg_name (i := 3) sc_law_is_due.nd rfl (Or.inl rfl)) (pss_cons (ps_set (i := 5) sc_law_is_due.nd rfl (Or.inl rfl) (pe_callTy (r := rDictD) call_dictD (by rfl) T.n_dict (by decide +kernel) (pa_cons (pe_dget (hu1 hu64) (pv 0) pe_str (fun _ _ => rfl)) pa_nil)))
  (pss_cons (ps_asg (pe_dpop1 (pv 5) (pv 3) ⟨rfl, rfl, rfl, rfl⟩) (pg_tupK (K := K) (n := 3) rfl rfl (pgs_cons (pg_name (i := 6) sc_law_is_due.nd rfl (Or.inl rfl)) (pgs_cons (pg_name (i := 7) sc_law_is_due.nd rfl (Or.inl rfl)) (pgs_cons (pg_name (i := 8) sc_law_is_due.nd rfl (Or.inl rfl)) pgs_nil)))))
  (pss_one (ps_if (pt_cmpR op_notN (pe_call G_law_rule_problem (hr.mono (by omega)) (by rfl) T.g_law_rule_problem T.F_law_rule_problem.kp T.b_law_rule_problem .nil pass0 (pa_cons (pe_disp (pps_cons pe_str (pe_dget (hu1 hu64) (pv 0) pe_str (fun _ _ => rfl)) (pps_cons pe_str (pv 5) pps_nil)) (by rfl) (by rfl) (fun z => by cases z) (by decide)) (pa_cons (pv 3) (pa_cons (pv 6) (pa_cons (pv 7) (pa_cons (pv 8) pa_nil)))))) pe_non (nomark _)) (pss_one (ps_ret pe_bl)) pss_nil))))))
  (pss_one (ps_ret (pe_cmpR (r := rEqD K) (op_eqD hu64) (pe_lock (pe_lc (own := [("_law_name", 3)]) rfl sc_law_is_due.nd (pi_keys (pv 2)) (blkOk_by (own := [("_law_name", 3)]) (N := ["_law_world", "_law_facts", "_law_denials", "_law_name", "_law_row", "_law_rules", "_law_relation", "_law_terms", "_law_body_here"]) (sc := (defScope s_law_is_due)) (by decide +kernel)) (fun _ _ _ _ _ => (pg_name (i := 3) sc_law_is_due.nd rfl (Or.inl rfl))) (fun _ _ _ _ _ => pts_nil) (fun _ _ _ _ _ => (pe_ix (r := rIxT K) ix_tup (pe_call G_law_body_problem (hr.mono (by omega)) (by rfl) T.g_law_body_problem T.F_law_body_problem.kp T.b_law_body_problem .nil pass0 (pa_cons (pe_call G_law_widths (hr.mono (by omega)) (by rfl) T.g_law_widths T.F_law_widths.kp T.b_law_widths .nil pass0 (pa_cons (pv 0) pa_nil)) (pa_cons (pe_dget (hu1 hu64) (pv 2) (pv 3) (fun _ _ => rfl)) pa_nil))) pe_int (fun _ _ => rfl))))) (pe_op op_repL (pe_lst (pa_cons pe_non pa_nil)) (pe_callB (r := rLenDk) call_lenD (by rfl) T.n_len PySem.boot_len (pa_cons (pv 2) pa_nil))) (nomark _)))))), ?_⟩
  rintro ss M Q ⟨wd, fa, q0, dr, du, kw, rel, W, F, D, rfl, hw, hv1, hv2, hr1, hu1, ne1, ne2, hfa, hF, hq0, nq1, nq2, nq3, hD, hW, hWt, rl, q⟩
  walk_at "k"
  show WS K _ [some (.raw (.ref wd)), some (.raw (.ref fa)), some (.raw (.ref q0)), none, none, none, none, none, none] M _
  have wl := hW.l
  have dl := hD.l
  refine ws_mid (fun ρ' M' => (∃ z3 z4, ρ' = [some (.raw (.ref wd)), some (.raw (.ref fa)), some (.raw (.ref q0)), z3, z4, none, none, none, none]) ∧ M' = M ∧ ∀ p ∈ F, valG rel p.1 = some (p.2.length : Int)) ?_ ?_
  · refine ws_for (wi_list (w_var rfl ⟨_, lsv_ref hfa, fun j ρ' M' => (∃ z3 z4, ρ' = [some (.raw (.ref wd)), some (.raw (.ref fa)), some (.raw (.ref q0)), z3, z4, none, none, none, none]) ∧ M' = M ∧ ∀ p ∈ F.take j, valG rel p.1 = some (p.2.length : Int), ⟨⟨_, _, rfl⟩, rfl, fun n hn => (nomatch hn)⟩, fun j ρ' M' _ hJ => (by rw [hJ.2.1]; exact lsv_ref hfa), fun j ρ' M' hj hJ => ?_, fun ρ' M' hJ => ?_⟩))
    · obtain ⟨⟨z3, z4, rfl⟩, rfl, hn⟩ := hJ
      have hj' : j < F.length := by rw [List.length_map] at hj; exact hj
      have gj : (F.map fun p => Sl.dat (encF p)).getD j .non = .dat (encF F[j]) := by
        rw [List.getD_eq_getElem?_getD, List.getElem?_map, List.getElem?_eq_getElem hj']
        rfl
      have hmr : F[j] ∈ F := List.getElem_mem hj'
      have el2 : F.take (j + 1) = F.take j ++ [F[j]] := List.take_succ_eq_append_getElem hj'
      dsimp only
      rw [gj, el2]
      generalize F[j] = p at hmr
      refine wg_tup (ds := [.str p.1, encR p.2]) rfl rfl (wgs_cons (wg_name (wgs_cons (wg_name (wgs_nil ?_)))))
      have eg : (valG (kvW rel) (.inr p.1)).getD .non = .dat (encO (valG rel p.1)) := by
        cases e : valG rel p.1 with
        | none => rw [kvW_none e]; rfl
        | some k => rw [kvW_at e]; rfl
      refine ws_if (wt_test (w_op (w_dget1 (w_dget (w_var rfl (w_str ⟨kw, .inr "relations", _, dcv_ref hw, rfl, hv1, ⟨_, dcv_ref hr1⟩, w_var rfl ⟨kvW rel, .inr p.1, dcv_ref hr1, rfl, ?_⟩⟩))))))
      rw [eg]
      refine w_cb (wa_cons (w_var rfl (wa_nil (wl_lenTD ?_))))
      rw [List.length_map]
      have hne : PyData.eqv (encO (valG rel p.1)) (.int (p.2.length : Int)) = decide (valG rel p.1 = some (p.2.length : Int)) := by
        cases valG rel p.1 with
        | none => rfl
        | some k =>
          show PyData.eqv (.int k) (.int (p.2.length : Int)) = _
          rw [eqv_int]
          by_cases hk : k = (p.2.length : Int)
          · rw [hk]; simp
          · rw [decide_eq_false hk, decide_eq_false fun z => hk (Option.some.inj z)]
      refine w2_ne (d := encO (valG rel p.1)) (e := .int (p.2.length : Int)) (by cases valG rel p.1 <;> rfl) (shaped_int _) ⟨_, rfl, ?_⟩
      rw [hne]
      by_cases hk : valG rel p.1 = some (p.2.length : Int)
      · rw [decide_eq_true hk]
        rw [if_neg (by decide)]
        refine ws_next ⟨⟨_, _, rfl⟩, rfl, fun r hr => ?_⟩
        rcases List.mem_append.mp hr with h1 | h1
        · exact hn r h1
        · rw [List.mem_singleton.mp h1]; exact hk
      · rw [decide_eq_false hk]
        rw [if_pos (by decide)]
        refine ws_ret (w_bl ?_)
        exact q M' false (fun _ _ z => z) ⟨fun z => (nomatch z), fun z => absurd (z.f p hmr) hk⟩
    · obtain ⟨z, e, hn⟩ := hJ
      rw [List.length_map, List.take_length] at hn
      exact ⟨z, e, hn⟩
  rintro ρ' M' ⟨⟨z3, z4, rfl⟩, rfl, hFd⟩
  refine ws_mid (fun ρ' N => (∃ z3 z5 z6 z7 z8, ρ' = [some (.raw (.ref wd)), some (.raw (.ref fa)), some (.raw (.ref q0)), z3, z4, z5, z6, z7, z8]) ∧ (∀ x v, M' x = some v → N x = some v) ∧ ∀ p ∈ W, lruleP rel (dropG W p.1) p.1 p.2.rel p.2.hd p.2.b = none) ?_ ?_
  · refine ws_lock hu1 fun od v => ?_
    have back : ∀ (N : MH), (∀ b x, Ab.um M' du (.frz od v (.dK (kvRu W))) b = some x → N b = some x) → ∀ b x, M' b = some x → Ab.um N du (.dK (kvRu W)) b = some x := fun N e b x hb => by
      by_cases bu : b = du
      · subst bu; rw [um_same, ← hb, hu1]
      · rw [um_ne bu]
        exact e b x (by rw [um_ne bu]; exact hb)
    have hwL : Ab.um M' du (.frz od v (.dK (kvRu W))) wd = some (.dK kw) := by rw [um_ne ne1]; exact hw
    have hrL : Ab.um M' du (.frz od v (.dK (kvRu W))) dr = some (.dK (kvW rel)) := by rw [um_ne ne2]; exact hr1
    refine ws_for (wi_keys (w_dget (w_var rfl (w_str ⟨kw, .inr "rules", _, dcv_ref hwL, rfl, hv2, du, od, v, kvRu W, rfl, um_same, fun i ρ' N => (∃ z3 z5 z6 z7 z8, ρ' = [some (.raw (.ref wd)), some (.raw (.ref fa)), some (.raw (.ref q0)), z3, z4, z5, z6, z7, z8]) ∧ (∀ b x, Ab.um M' du (.frz od v (.dK (kvRu W))) b = some x → N b = some x) ∧ ∀ p ∈ W.take i, lruleP rel (dropG W p.1) p.1 p.2.rel p.2.hd p.2.b = none, ⟨⟨_, _, _, _, _, rfl⟩, fun _ _ z => z, fun n hn => (nomatch hn)⟩, fun i ρ' N _ hJ => hJ.2.1 _ _ um_same, fun i ρ' N hi hJ => ?_, fun ρ' N hJ => ?_⟩))))
    · obtain ⟨⟨z3, z5, z6, z7, z8, rfl⟩, e, hn⟩ := hJ
      have hi' : i < W.length := by rw [List.length_map] at hi; exact hi
      obtain ⟨gi, vu⟩ := ru_at hW hi'
      have el : W.take (i + 1) = W.take i ++ [W[i]] := List.take_succ_eq_append_getElem hi'
      have hm : W[i] ∈ W := List.getElem_mem hi'
      dsimp only
      rw [gi, el]
      generalize W[i] = w at gi vu hm
      have wn := hW.n _ hm
      have wr := hW.r _ hm
      have wb := hW.b _ hm
      obtain ⟨wt, wbl⟩ := hWt _ hm
      have hz := e _ _ um_same
      have hw2 := e _ _ hwL
      have hr2 := e _ _ hrL
      refine wg_name ?_
      refine ws_seq (ws_set (w_cb (wa_cons (w_dget (w_var rfl (w_str ⟨kw, .inr "rules", _, dcv_ref hw2, rfl, hv2, wa_nil (wl_dict (dcv_frz hz) fun p2 hp2 => ?_)⟩))))))
      refine ws_seq (ws_asg (w_dpop1 (w_var rfl ⟨p2, rfl, ⟨_, um_same⟩, w_var rfl ⟨kvRu W, .inr w.1, _, um_same, rfl, vu, ?_⟩⟩)))
      rw [um_um]
      have edrop : dropG (kvRu W) (.inr w.1) = kvRu (dropG W w.1) := dropG_inr (fun u : Rul => Sl.dat u.enc) w.1 W
      rw [edrop]
      have e2 : ∀ b x, Ab.um M' du (.frz od v (.dK (kvRu W))) b = some x → Ab.um N p2 (.dK (kvRu (dropG W w.1))) b = some x := fun b x hb => by
        have h1 := e b x hb
        rw [um_ne fun z => by rw [z, hp2] at h1; cases h1]
        exact h1
      have hp3 : Ab.um N p2 (.dK (kvRu (dropG W w.1))) p2 = some (.dK (kvRu (dropG W w.1))) := um_same
      generalize Ab.um N p2 (.dK (kvRu (dropG W w.1))) = N2 at e2 hp3
      refine wg_tup (ds := [.str w.2.rel, encT w.2.hd, encB w.2.b]) rfl rfl (wgs_cons (wg_name (wgs_cons (wg_name (wgs_cons (wg_name (wgs_nil ?_)))))))
      show WS K _ [some (.raw (.ref wd)), some (.raw (.ref fa)), some (.raw (.ref q0)), some (.str w.1), z4, some (.raw (.ref p2)), some (.str w.2.rel), some (.dat (encT w.2.hd)), some (.dat (encB w.2.b))] N2 _
      refine ws_if (wt_test (w_op (w_call (wa_cons (w_disp fun wd2 hwd2 => ?_)))))
      have ew : ∀ (y : MO) b x, N2 b = some x → Ab.um N2 wd2 y b = some x := fun y b x hb => by
        rw [um_ne fun z => by rw [z, hwd2] at hb; cases hb]
        exact hb
      refine wps_cons (w_str (w_dget (w_var rfl (w_str ⟨kw, .inr "relations", _, dcv_ref (ew _ _ _ (e2 _ _ hwL)), rfl, hv1, wps_cons (w_str (w_var rfl (wps_nil ?_)))⟩))))
      refine ⟨um_same, [(.inr "relations", .raw (.ref dr)), (.inr "rules", .raw (.ref p2))], rfl, by simp, ?_⟩
      rw [um_um]
      refine wa_cons (w_var rfl (wa_cons (w_var rfl (wa_cons (w_var rfl (wa_cons (w_var rfl (wa_nil ?_))))))))
      have hmg : mergeG [] [((.inr "relations" : Key), Sl.raw (.ref dr)), (.inr "rules", .raw (.ref p2))] = [(.inr "relations", .raw (.ref dr)), (.inr "rules", .raw (.ref p2))] := by kernel_rfl
      rw [hmg]
      have wd2p : wd2 ≠ p2 := fun z => by rw [z, hp3] at hwd2; cases hwd2
      have sub : ∀ z, z ∈ dropG W w.1 → z ∈ W := fun z hz => (dropG_sub W w.1).subset hz
      have dlen := (dropG_sub W w.1).length_le
      have hplen := putG_len (dropG W w.1) w.1 (⟨w.2.rel, w.2.hd, w.2.b⟩ : Rul)
      have hnd : w.1 ∉ (dropG W w.1).map (·.1) := fun hm2 => by
        obtain ⟨x, hx⟩ := valG_of hm2
        rw [dropG_val, if_pos rfl] at hx
        cases hx
      have hl3 : (dropG W w.1).length + 1 ≤ 60 := by
        have hlt : (dropG W w.1).length < W.length := by
          unfold dropG
          exact List.length_filter_lt_length_iff_exists.mpr ⟨w, hm, by simp⟩
        omega
      have hW' : RuOk (putG (dropG W w.1) w.1 ⟨w.2.rel, w.2.hd, w.2.b⟩) := ⟨putG_nodup (dropG_nodup hW.nd _) _ _, by omega, fun p hp => (putG_mem hp).elim (fun e => by rw [e]; exact wn) fun h => hW.n p (sub p h), fun p hp => (putG_mem hp).elim (fun e => by rw [e]; exact wr) fun h => hW.r p (sub p h), fun p hp => (putG_mem hp).elim (fun e => by rw [e]; exact wb) fun h => hW.b p (sub p h)⟩
      refine ⟨wd2, dr, p2, _, rel, dropG W w.1, w.1, w.2.rel, w.2.hd, w.2.b, rfl, um_same, rfl, rfl, ew _ _ _ (e2 _ _ hrL), ew _ _ _ hp3, wd2p, dropG_nodup hW.nd _, by omega, rl, wn, wr, wt, wb, wbl, hW', fun N3 x3 => ?_⟩
      have e3 : ∀ b x, Ab.um M' du (.frz od v (.dK (kvRu W))) b = some x → N3 b = some x := fun b x hb => x3 _ _ (ew _ _ _ (e2 b x hb))
      cases ho : lruleP rel (dropG W w.1) w.1 w.2.rel w.2.hd w.2.b with
      | some p =>
        dsimp only [encOP]
        walk_at "f"
        exact ⟨e3 _ _ um_same, q _ false (back _ e3) ⟨fun z => (nomatch z), fun z => by have := z.r w hm; rw [ho] at this; cases this⟩⟩
      | none =>
        dsimp only [encOP]
        walk_at "f"
        refine ⟨⟨_, _, _, _, _, rfl⟩, e3, fun p hp => ?_⟩
        rcases List.mem_append.mp hp with h1 | h1
        · exact hn p h1
        · rw [List.mem_singleton.mp h1]; exact ho
    · obtain ⟨⟨z3, z5, z6, z7, z8, rfl⟩, e, hn⟩ := hJ
      rw [List.length_map, List.take_length] at hn
      exact ⟨e _ _ um_same, ⟨_, _, _, _, _, rfl⟩, back _ e, hn⟩
  rintro ρ' N ⟨⟨z3, z5, z6, z7, z8, rfl⟩, e, hRd⟩
  have hq := e _ _ hq0
  have hw2 := e _ _ hw
  have hr2 := e _ _ hr1
  have hu2 := e _ _ hu1
  have kD : (kvDe D).map (·.1) = (D.map (·.1)).map Sum.inr := by rw [List.map_map, List.map_map]; rfl
  have fpr : ∃ f : Str → PyData, (∀ p ∈ D, f p.1 = match bodyE (valG (widthsF rel W)) [] p.2 with | .inl q => encP q | .inr _ => .none) := ⟨fun n => match valG D n with | some b => (match bodyE (valG (widthsF rel W)) [] b with | .inl q => encP q | .inr _ => .none) | none => .none, fun p hp => by dsimp only; rw [valG_nodup hD.nd (show (p.1, p.2) ∈ D from hp)]⟩
  obtain ⟨f, hf⟩ := fpr
  refine ws_ret (w_op (w_lockLc (ns := D.map (·.1)) (by decide) hq kD (by rw [List.length_map]; omega) f (fun x ⟨od, v, ex⟩ => w_var rfl ⟨rfl, rfl⟩) (fun n Dd o x ⟨od, v, ex⟩ hn hDd ne => ?_) ?_))
  · obtain ⟨p, hp, rfl⟩ := List.mem_map.mp hn
    have vd : valG (kvDe D) (.inr p.1) = some (.dat (encB p.2)) := by
      have := valG_inr (fun b : List Lit => Sl.dat (encB b)) p.1 D
      rw [valG_nodup hD.nd (show (p.1, p.2) ∈ D from hp)] at this
      exact this
    obtain ⟨gp, okb, bl⟩ := hD.b p hp
    have at_ : ∀ y u, N y = some u → y ≠ q0 → Ab.um (Ab.um N q0 x) Dd o y = some u := fun y u hy yq => by
      have yD : y ≠ Dd := fun z => by
        rw [z, hDd] at hy
        cases hy
      rw [um_ne yD, um_ne yq]
      exact hy
    have hqL : Ab.um (Ab.um N q0 x) Dd o q0 = some (.frz od v (.dK (kvDe D))) := by
      rw [um_ne ne.symm, um_same, ex]
    refine w_dropE (w_op (w_call (wa_cons (w_call (wa_cons (w_var rfl (wa_nil ⟨wd, dr, du, kw, rel, W, rfl, at_ _ _ hw2 nq1.symm, hv1, hv2, at_ _ _ hr2 nq2.symm, at_ _ _ hu2 nq3.symm, ne1, hW.nd, by omega, rl, fun p3 hp3 => ?_⟩)))))))
    have q3 : q0 ≠ p3 := fun z => by rw [← z, hqL] at hp3; cases hp3
    refine wa_cons (w_dget (w_var rfl (w_var rfl ⟨kvDe D, .inr p.1, _, dcv_frz (by rw [um_ne q3]; exact hqL), rfl, vd, wa_nil ?_⟩)))
    refine ⟨_, widthsF rel W, p.2, rfl, dcv_ref um_same, okb, bl, fun p' bs e2 => ?_, fun ks e2 => ?_⟩
    · refine w_int (w2_ixT rfl ⟨p3, ?_, del_um hp3⟩)
      rw [hf p hp, e2]
    · refine w_int (w2_ixT rfl ⟨p3, ?_, del_um hp3⟩)
      rw [hf p hp, e2]
  · refine w_op (w_lstD (wa_cons (w_non (wa_nil ⟨[.none], rfl, by simp, w_cb (wa_cons (w_var rfl (wa_nil (wl_lenDk hq ?_))))⟩))))
    refine w2_rep lsr_dat (by omega) (by rw [List.length_map]; omega) (by rw [List.length_map]; simp; omega) ?_
    rw [rep_nones]
    have hx : ∀ x ∈ (D.map (·.1)).map f, x = .none ∨ ∃ p, x = encP p := fun x hx => by
      obtain ⟨n, hn, rfl⟩ := List.mem_map.mp hx
      obtain ⟨p, hp, rfl⟩ := List.mem_map.mp hn
      rw [hf p hp]
      cases bodyE (valG (widthsF rel W)) [] p.2 with
      | inl q => exact .inr ⟨q, rfl⟩
      | inr ks => exact .inl rfl
    have hlen : ((kvDe D).length : Int).toNat = ((D.map (·.1)).map f).length := by rw [List.length_map, List.length_map, List.length_map]; rfl
    have key := eqv_nones _ hx
    rw [hlen]
    have sh : SeqAt.shaped (.list ((D.map (·.1)).map f)) = true := okD_shaped (n := 2) (okD_mkL (by rw [List.length_map, List.length_map]; omega) (okAll_of fun d hd => ?_)) (by decide)
    refine w2_eq sh (okD_shaped (n := 1) (okD_mkL (by rw [List.length_replicate, List.length_map, List.length_map]; omega) (okAll_of fun d hd => by rw [(List.mem_replicate.mp hd).2]; rfl)) (by decide)) ?_
    · refine q N _ e ⟨fun h => ⟨hFd, hRd, fun p hp => ?_⟩, fun h => ?_⟩
      · have h2 := key.mp h (f p.1) (List.mem_map.mpr ⟨p.1, List.mem_map.mpr ⟨p, hp, rfl⟩, rfl⟩)
        rw [hf p hp] at h2
        cases e2 : bodyE (valG (widthsF rel W)) [] p.2 with
        | inl q => rw [e2] at h2; cases h2
        | inr ks => exact ⟨ks, rfl⟩
      · refine key.mpr fun x hx2 => ?_
        obtain ⟨n, hn, rfl⟩ := List.mem_map.mp hx2
        obtain ⟨p, hp, rfl⟩ := List.mem_map.mp hn
        obtain ⟨ks, e2⟩ := h.d p hp
        rw [hf p hp, e2]
    · obtain ⟨n, hn, rfl⟩ := List.mem_map.mp hd
      obtain ⟨p, hp, rfl⟩ := List.mem_map.mp hn
      obtain ⟨gp, okb, bl⟩ := hD.b p hp
      rw [hf p hp]
      cases e2 : bodyE (valG (widthsF rel W)) [] p.2 with
      | inl q =>
        obtain ⟨tx1, _⟩ := bodyE_txt (cols := valG (widthsF rel W)) (b := p.2) (ks := []) okb.2 fun _ h => nomatch h
        exact okD_strs (n := 0) (by have := (tx1 q e2).1; omega) (tx1 q e2).2
      | inr ks => rfl
end
end
section
local macro_rules | `(tactic| walk_at "fl") => `(tactic| with_reducible first | exact sl_r _ | exact sl_f _ | exact sl_u _ | exact sl_n _)
section
variable {w : World} {K : PySem.W.Frag} {mg : Str → Option Value} {base : Heap} {a : AD} {d : FD}
def drRel : List Str := ["u", "v", "w", "q"]
theorem drRel_good : ∀ z ∈ drRel, goodS z = true := by decide +kernel
def A_drawn : ASp := fun ss M Q => ∃ p wh Ws ys, ss = [.raw (.ref p), .raw (.ref wh)] ∧ M p = some (.lst ys) ∧ DrawL ys ∧ M wh = some (.dK (kvW Ws)) ∧ okW Ws ∧ Ws.length ≤ 40 ∧
  ∀ (M' : MH) r ts b us, r ∈ drRel → okTs ts → ts.length ≤ 3 → okB b → b.length ≤ 3 → OSt M M' p us → Q (.dat (.tuple [.str r, encT ts, encB b])) M'
theorem ok_drawn (T : Txt K mg a d) : FnOk P w K mg base CX0 6 a.law_drawn_rule d.law_drawn_rule ["_law_state", "_law_widths_here"] (conc K A_drawn) := by
  have G_law_next : FnOk P w K mg base CX0 1 a.law_next d.law_next ["_law_state", "_law_limit"] (conc K A_next) := ok_next T
  have G_law_body : FnOk P w K mg base CX0 5 a.law_body d.law_body ["_law_state", "_law_widths_here", "_law_careful", "_law_most"] (conc K A_lbody) := ok_lbody T
  have G_law_binds : FnOk P w K mg base CX0 1 a.law_binds d.law_binds ["_law_literal_here"] (conc K A_binds) := ok_binds T
  have G_law_term : FnOk P w K mg base CX0 3 a.law_term d.law_term ["_law_state", "_law_bound"] (conc K A_lterm) := ok_lterm T
  have G_law_settled : FnOk P w K mg base CX0 1 a.law_settled d.law_settled ["_law_term_here", "_law_bound"] (conc K A_settled) := ok_settled T
  refine ab_ok T.F_law_drawn_rule sc_law_drawn_rule (fun ss M Q ⟨p, wh, Ws, ys, e, _⟩ => by subst e; rfl) fun cdv Ar outer s H E hr => ?_
  have hu64 := hr.units
  have hu65 := room65 hr
  refine ⟨_, (pss_cons (ps_set (i := 2) sc_law_drawn_rule.nd rfl (Or.inl rfl) (pe_ix (r := rIxL K) ix_list (pe_lst (pa_cons pe_str (pa_cons pe_str (pa_cons pe_str (pa_cons pe_str (pa_cons pe_str pa_nil)))))) (pe_op op_fdiv (pe_call G_law_next (hr.mono (by omega)) (by rfl) T.g_law_next T.F_law_next.kp T.b_law_next .nil pass0 (pa_cons (pv 0) (pa_cons pe_int pa_nil))) pe_int) (fun _ _ => rfl)))
  (pss_cons (ps_set (i := 3) sc_law_drawn_rule.nd rfl (Or.inl rfl) (pe_callTy (r := rDictD) call_dictD (by rfl) T.n_dict (by decide +kernel) (pa_cons (pv 1) pa_nil)))
  (pss_cons (ps_expr (pe_dsetd (pv 3) pe_str pe_int ⟨rfl, rfl, rfl, rfl⟩))
  (pss_cons (ps_if (pt_cmpR (r := rEqD K) (op_eqD hu64) (pe_call G_law_next (hr.mono (by omega)) (by rfl) T.g_law_next T.F_law_next.kp T.b_law_next .nil pass0 (pa_cons (pv 0) (pa_cons pe_int pa_nil))) pe_int (nomark _)) (pss_one (ps_expr (pe_dsetd (pv 3) pe_str pe_int ⟨rfl, rfl, rfl, rfl⟩))) pss_nil)
  (pss_cons (ps_set (i := 4) sc_law_drawn_rule.nd rfl (Or.inl rfl) (pe_call G_law_body (hr.mono (by omega)) (by rfl) T.g_law_body T.F_law_body.kp T.b_law_body .nil pass0 (pa_cons (pv 0) (pa_cons (pv 3) (pa_cons (pe_cmpR op_gt (pe_call G_law_next (hr.mono (by omega)) (by rfl) T.g_law_next T.F_law_next.kp T.b_law_next .nil pass0 (pa_cons (pv 0) (pa_cons pe_int pa_nil))) pe_int (nomark _)) (pa_cons pe_int pa_nil))))))
  (pss_cons (ps_set (i := 5) sc_law_drawn_rule.nd rfl (Or.inr rfl) (pe_lst pa_nil))
  (pss_cons (ps_for PassesOwn.never rfl (pi_tup (pv 4)) (pg_name (i := 6) sc_law_drawn_rule.nd rfl (Or.inl rfl)) (pss_one (ps_set (i := 5) sc_law_drawn_rule.nd rfl (Or.inr rfl) (pe_op (r := rCatL K) op_catL (pv 5) (pe_call G_law_binds (hr.mono (by omega)) (by rfl) T.g_law_binds T.F_law_binds.kp T.b_law_binds .nil pass0 (pa_cons (pv 6) pa_nil))))))
  (pss_cons (ps_set (i := 7) sc_law_drawn_rule.nd rfl (Or.inl rfl) (pe_op op_add (pe_dget2 (hu1 hu64) (pe_disp (pps_cons pe_str pe_int (pps_cons pe_str pe_int pps_nil)) (by rfl) (by rfl) (fun z => by cases z) (by decide)) (pv 2) pe_int ⟨rfl, rfl, rfl, rfl⟩) (pe_callTy (r := rInt1) call_int1 (by rfl) T.n_int (by decide +kernel) (pa_cons (pe_cmpR (r := rEqD K) (op_eqD hu64) (pe_call G_law_next (hr.mono (by omega)) (by rfl) T.g_law_next T.F_law_next.kp T.b_law_next .nil pass0 (pa_cons (pv 0) (pa_cons pe_int pa_nil))) pe_int (nomark _)) pa_nil))))
  (pss_cons (ps_setLc (i := 8) (own := [("_law_k", 9)]) rfl sc_law_drawn_rule.nd rfl rfl (sw_true rfl rfl rfl (by decide +kernel)) (pi_range1 rfl T.n_range (pa_cons (pv 7) pa_nil)) (blkOk_by (own := [("_law_k", 9)]) (N := ["_law_state", "_law_widths_here", "_law_relation", "_law_more", "_law_body_here", "_law_bound", "_law_literal_here", "_law_count", "_law_terms", "_law_k", "_law_term_here"]) (sc := (defScope s_law_drawn_rule)) (by decide +kernel)) (fun _ _ _ _ _ => (pg_name (i := 9) sc_law_drawn_rule.nd rfl (Or.inl rfl))) (fun _ _ _ _ _ => pts_nil) (fun _ _ _ _ _ => (pe_call G_law_term (hr.mono (by omega)) (by rfl) T.g_law_term T.F_law_term.kp T.b_law_term .nil pass0 (pa_cons (pv 0) (pa_cons (pv 5) pa_nil)))))
  (pss_cons (ps_if (pt_cmpR op_gt (pe_call G_law_next (hr.mono (by omega)) (by rfl) T.g_law_next T.F_law_next.kp T.b_law_next .nil pass0 (pa_cons (pv 0) (pa_cons pe_int pa_nil))) pe_int (nomark _)) (pss_one (ps_setLc (i := 8) (own := [("_law_term_here", 10)]) rfl sc_law_drawn_rule.nd rfl rfl (sw_true rfl rfl rfl (by decide +kernel)) (pi_list (pv 8)) (blkOk_by (own := [("_law_term_here", 10)]) (N := ["_law_state", "_law_widths_here", "_law_relation", "_law_more", "_law_body_here", "_law_bound", "_law_literal_here", "_law_count", "_law_terms", "_law_k", "_law_term_here"]) (sc := (defScope s_law_drawn_rule)) (by decide +kernel)) (fun _ _ _ _ _ => (pg_name (i := 10) sc_law_drawn_rule.nd rfl (Or.inl rfl))) (fun _ _ _ _ _ => pts_nil) (fun _ _ _ _ _ => (pe_call G_law_settled (hr.mono (by omega)) (by rfl) T.g_law_settled T.F_law_settled.kp T.b_law_settled .nil pass0 (pa_cons (pv 10) (pa_cons (pv 5) pa_nil)))))) pss_nil)
  (pss_one (ps_ret (pe_tup (pa_cons (pv 2) (pa_cons (pe_callTy (r := rTupS K) call_tuple_of (by rfl) T.n_tuple (by decide +kernel) (pa_cons (pv 8) pa_nil)) (pa_cons (pv 4) pa_nil)))))))))))))))), ?_⟩
  rintro ss M Q ⟨p, wh, Ws, ys, rfl, hp0, hD0, hw, oW, lW, qq⟩
  walk_at "k"
  have wp : wh ≠ p := fun z => by rw [z, hp0] at hw; cases hw
  show WS K _ [some (.raw (.ref p)), some (.raw (.ref wh)), none, none, none, none, none, none, none, none, none] M _
  refine ws_mid (fun ρ' N => ∃ r ys, ρ' = [some (.raw (.ref p)), some (.raw (.ref wh)), some (.str r), none, none, none, none, none, none, none, none] ∧ r ∈ drRel ∧ OSt M N p ys) ?_ ?_
  · walk_at "g"
    refine ⟨p, 40, ys, rfl, hp0, hD0, by decide, by decide, fun v us v0 v1 hD2 => ?_⟩
    walk_at "g"
    intro d hd
    obtain ⟨nm, rfl, hnm⟩ : ∃ nm : Str, d = .str nm ∧ nm ∈ drRel := by
      simp only [List.mem_cons, List.not_mem_nil, or_false] at hd
      rcases hd with rfl | rfl | rfl | rfl | rfl <;> exact ⟨_, rfl, by simp [drRel]⟩
    exact ⟨nm, us, rfl, hnm, um_same, hD2, fun x u hx xp => by rw [um_ne xp]; exact hx⟩
  rintro ρ' N ⟨r, zs, rfl, hr0, hO⟩
  have gr := drRel_good r hr0
  refine ws_mid (fun ρ' N => ∃ q Ws ys, ρ' = [some (.raw (.ref p)), some (.raw (.ref wh)), some (.str r), some (.raw (.ref q)), none, none, none, none, none, none, none] ∧ p ≠ q ∧ M q = none ∧ N q = some (.dK (kvW Ws)) ∧ okW Ws ∧ Ws.length ≤ 40 ∧ OSt M N p ys) ?_ ?_
  · refine ws_set (w_cb (wa_cons (w_var rfl (wa_nil (wl_dict (dcv_ref (hO.e _ _ hw wp)) fun q hq => ?_)))))
    have pq : p ≠ q := fun z => by rw [← z, hO.at_] at hq; cases hq
    refine ⟨q, Ws, zs, rfl, pq, ?_, um_same, oW, lW, hO.fresh hq⟩
    cases hMq : M q with
    | none => rfl
    | some u =>
      rw [hO.e _ _ hMq pq.symm] at hq
      cases hq
  clear hO oW lW hw Ws
  rintro ρ' N ⟨q, Ws, zs, rfl, pq, hMq, hq, oW, lW, hO⟩
  have setd : ∀ {N : MH} {ys : List Sl} {Ws : List (Str × Int)} {z : Str} {k : Int} {ρ2 : Rho} {nx bk ct : Rho → MH → Prop} {rt : Sl → MH → Prop}, OSt M N p ys → N q = some (.dK (kvW Ws)) → okW Ws → Ws.length ≤ 50 → goodS z = true → 0 ≤ k → k ≤ 100 → ρ2[3]? = some (some (.raw (.ref q))) → (∀ N2 Vs, OSt M N2 p ys → N2 q = some (.dK (kvW Vs)) → okW Vs → Vs.length ≤ Ws.length + 1 → nx ρ2 N2) → WS K (tDrop (tDSetd (tVar 3) (tC (.str z)) (tC (.int k)))) ρ2 N ⟨nx, rt, bk, ct⟩ := fun {N ys Ws z k ρ2 nx bk ct rt} hO hq oW lW gz k0 k1 e3 q2 => by
    refine ws_drop (w_dsetd (w_var e3 ⟨q, rfl, ⟨_, hq⟩, w_str (w_int ⟨kvW Ws, .inr z, hq, rfl, by unfold kvW; rw [List.length_map]; omega, fun x hx => ?_, fun hx => ?_⟩)⟩))
    · exact q2 N Ws hO hq oW (by omega)
    · rw [kvW_put]
      exact q2 _ _ (hO.at2 hMq pq) um_same (okW_put oW gz k0 k1 (by omega)) (putG_len _ _ _)
  refine ws_seq (setd hO hq oW (by omega) (by decide +kernel) (by decide) (by decide) rfl fun N2 Vs hO2 hq2 oV lV => ?_)
  clear hO hq oW
  refine ws_mid (fun ρ' N => ∃ Ws ys, ρ' = [some (.raw (.ref p)), some (.raw (.ref wh)), some (.str r), some (.raw (.ref q)), none, none, none, none, none, none, none] ∧ N q = some (.dK (kvW Ws)) ∧ okW Ws ∧ OSt M N p ys) ?_ ?_
  · walk_at "g"
    refine ⟨p, 3, zs, rfl, hO2.at_, hO2.d, by decide, by decide, fun v us v0 v1 hD2 => ?_⟩
    have hO3 := hO2.draw hD2
    have hq3 : Ab.um N2 p (.lst us) q = some (.dK (kvW Vs)) := by rw [um_ne pq.symm]; exact hq2
    walk_at "g"
    refine ite_d (fun h => ?_) (fun h => ?_)
    · exact setd hO3 hq3 oV (by omega) (by decide +kernel) (by decide) (by decide) rfl fun N4 V4 hO4 hq4 oV4 _ => ⟨V4, us, rfl, hq4, oV4, hO4⟩
    · walk_at "f"
      exact ⟨Vs, us, rfl, hq3, oV, hO3⟩
  clear hO2 hq2 oV lV lW Ws Vs
  rintro ρ' N ⟨Ws, ys, rfl, hq, oW, hO⟩
  refine ws_mid (fun ρ' N => ∃ b ys, ρ' = [some (.raw (.ref p)), some (.raw (.ref wh)), some (.str r), some (.raw (.ref q)), some (.dat (encB b)), none, none, none, none, none, none] ∧ okB b ∧ b.length ≤ 3 ∧ OSt M N p ys) ?_ ?_
  · walk_at "g"
    refine ⟨p, 8, ys, rfl, hO.at_, hO.d, by decide, by decide, fun v us v0 v1 hD2 => ?_⟩
    have hO2 := hO.draw hD2
    have hq2 : Ab.um N p (.lst us) q = some (.dK (kvW Ws)) := by rw [um_ne pq.symm]; exact hq
    walk_at "g"
    refine ⟨p, q, us, Ws, _, 3, rfl, hO2.at_, hO2.d, hq2, oW, by decide, by decide, fun b vs hb hbl hD3 => ?_⟩
    exact ⟨b, vs, rfl, hb, by omega, hO2.draw hD3⟩
  clear hq hO oW Ws
  rintro ρ' N ⟨b, ys, rfl, hb, hbl, hO⟩
  refine ws_seq (ws_set (w_lstD (wa_nil ⟨[], rfl, by simp, ?_⟩)))
  refine ws_mid (fun ρ' N' => ∃ ks z6, ρ' = [some (.raw (.ref p)), some (.raw (.ref wh)), some (.str r), some (.raw (.ref q)), some (.dat (encB b)), some (.dat (bnd ks)), z6, none, none, none, none] ∧ okK ks ∧ N' = N) ?_ ?_
  · refine ws_forT (xs := b) (enc := Lit.enc) (M1 := N) (w_var rfl ⟨rfl, rfl⟩) (fun pre ρ' N' => ∃ ks z6, ρ' = [some (.raw (.ref p)), some (.raw (.ref wh)), some (.str r), some (.raw (.ref q)), some (.dat (encB b)), some (.dat (bnd ks)), z6, none, none, none, none] ∧ (∀ z ∈ ks, goodS z = true) ∧ ks.length ≤ 1000 * pre.length ∧ N' = N) ⟨[], none, rfl, fun _ h => (nomatch h), by simp, rfl⟩ ?_ ?_
    · rintro pre l post ρ' N' hx ⟨ks, z6, rfl, hg, hk, rfl⟩
      have hl : l.ok := hb.2 l (by rw [hx]; simp)
      have hpl : pre.length + 1 ≤ b.length := by rw [hx, List.length_append, List.length_cons]; omega
      have hb1 := bindsF_len hl
      have hbg := bindsF_good hl
      refine wg_name ?_
      refine ws_set (w_op (w_var rfl (w_call (wa_cons (w_var rfl (wa_nil ⟨l, rfl, hl, ?_⟩))))))
      refine w2_cat (ds := ks.map .str) (es := (bindsF l).map .str) lsv_dat lsv_dat (by rw [List.length_map, List.length_map]; omega) ?_
      exact ⟨ks ++ bindsF l, _, by rw [← List.map_append]; rfl, fun z hz => (List.mem_append.mp hz).elim (hg z) (hbg z), by rw [List.length_append, List.length_append]; simp; omega, rfl⟩
    · rintro ρ' N' ⟨ks, z6, rfl, hg, hk, rfl⟩
      exact ⟨ks, z6, rfl, ⟨hg, by omega⟩, rfl⟩
  rintro ρ' N' ⟨ks, z6, rfl, hk, rfl⟩
  refine ws_mid (fun ρ' N => ∃ k ys, ρ' = [some (.raw (.ref p)), some (.raw (.ref wh)), some (.str r), some (.raw (.ref q)), some (.dat (encB b)), some (.dat (bnd ks)), z6, some (.int k), none, none, none] ∧ 0 ≤ k ∧ k ≤ 3 ∧ OSt M N p ys) ?_ ?_
  · refine ws_set (w_op (w_dget2 (w_disp fun q2 hq2 => wps_cons (w_str (w_int (wps_cons (w_str (w_int (wps_nil ⟨um_same, [(.inr "u", .int 1), (.inr "v", .int 2)], rfl, by simp, ?_⟩)))))))))
    rw [um_um]
    have em : mergeG [] [((.inr "u" : Key), Sl.int 1), (.inr "v", .int 2)] = kvW [("u", 1), ("v", 2)] := by kernel_rfl
    rw [em]
    have hO2 := hO.fresh (y := .dK (kvW [("u", 1), ("v", 2)])) hq2
    refine ⟨⟨_, dcv_ref um_same⟩, w_var rfl (w_int ⟨kvW [("u", 1), ("v", 2)], .inr r, dcv_ref um_same, rfl, ?_⟩)⟩
    obtain ⟨k, ek, k0, k1⟩ : ∃ k : Int, (valG (kvW [("u", 1), ("v", 2)]) (.inr r)).getD (.int 1) = .int k ∧ 0 ≤ k ∧ k ≤ 2 := by
      cases e : valG [(("u" : Str), (1 : Int)), ("v", 2)] r with
      | none => rw [kvW_none e]; exact ⟨1, rfl, by decide, by decide⟩
      | some k =>
        rw [kvW_at e]
        have := valG_mem e
        simp only [List.mem_cons, List.not_mem_nil, or_false, Prod.mk.injEq] at this
        exact ⟨k, rfl, by omega, by omega⟩
    rw [ek]
    walk_at "g"
    refine ⟨p, 16, ys, rfl, hO2.at_, hO2.d, by decide, by decide, fun v us v0 v1 hD2 => ?_⟩
    have hO3 := hO2.draw hD2
    walk_at "g"
    exact ⟨_, us, rfl, by split <;> omega, by split <;> omega, hO3⟩
  clear hO
  rintro ρ' N ⟨k, ys, rfl, k0, k1, hO⟩
  refine ws_mid (fun ρ' N => ∃ ts ys, ρ' = [some (.raw (.ref p)), some (.raw (.ref wh)), some (.str r), some (.raw (.ref q)), some (.dat (encB b)), some (.dat (bnd ks)), z6, some (.int k), some (.dat (.list (ts.map Term.enc))), none, none] ∧ okTs ts ∧ ts.length ≤ 3 ∧ OSt M N p ys) ?_ ?_
  · refine ws_set (w_lcGen (p := p) (by decide) (fun d => ∃ t : Term, d = t.enc ∧ t.ok) ?_)
    walk_at "g"
    refine ⟨k, N, ys, rfl, (um_id hO.at_).symm, hO.d, by omega, by omega, fun i M2 us hi hu => ?_, fun ds us hu hl hP => ?_⟩
    · walk_at "g"
      exact a_gen1 hu ⟨ks, rfl, hk⟩ fun d zs hP hD => ⟨d, zs, rfl, rfl, hD, hP⟩
    · obtain ⟨ts, rfl, hts⟩ := list_enc hP
      rw [List.length_map] at hl
      exact ⟨ts, us, rfl, ⟨by omega, hts⟩, by omega, hO.draw hu⟩
  clear hO
  rintro ρ' N ⟨ts, ys, rfl, hts, tsl, hO⟩
  refine ws_mid (fun ρ' N => ∃ ts ys z9 z10, ρ' = [some (.raw (.ref p)), some (.raw (.ref wh)), some (.str r), some (.raw (.ref q)), some (.dat (encB b)), some (.dat (bnd ks)), z6, some (.int k), some (.dat (.list (ts.map Term.enc))), z9, z10] ∧ okTs ts ∧ ts.length ≤ 3 ∧ OSt M N p ys) ?_ ?_
  · walk_at "g"
    refine ⟨p, 8, ys, rfl, hO.at_, hO.d, by decide, by decide, fun v us v0 v1 hD2 => ?_⟩
    have hO2 := hO.draw hD2
    walk_at "g"
    refine ite_d (fun h => ?_) (fun h => ?_)
    · refine ws_set (w_termL (ts := ts) (M1 := Ab.um N p (.lst us)) (by decide) hts (w_var rfl ⟨rfl, rfl⟩) (fun x D o hx hD => ?_) fun vs hvs hl => ⟨vs, us, _, _, rfl, hvs, by omega, hO2⟩)
      walk_at "g"
      exact ⟨ks, x, rfl, hts.2 x hx, hk, ⟨_, settled_ok (hts.2 x hx), rfl, rfl⟩⟩
    · walk_at "f"
      exact ⟨ts, us, _, _, rfl, hts, tsl, hO2⟩
  clear hO hts tsl ts
  rintro ρ' N ⟨ts, ys, z9, z10, rfl, hts, tsl, hO⟩
  walk_at "f"
  exact qq N r ts b ys hr0 hts tsl hb hbl hO
end
end
section
theorem orderd_same : ∀ (its : List Item), (∀ a ∈ its, ∀ b ∈ its, Ab.keyOf a = Ab.keyOf b → a = b) → ∀ it, it ∈ orderd its ↔ it ∈ its := fun its => snoc_ind (p := fun its => (∀ a ∈ its, ∀ b ∈ its, Ab.keyOf a = Ab.keyOf b → a = b) → ∀ it, it ∈ orderd its ↔ it ∈ its) (fun _ it => Iff.rfl) (fun xs x ih h it => by
  rw [orderd_snoc, mem_placed, ih fun a ha b hb => h a (List.mem_append_left _ ha) b (List.mem_append_left _ hb), List.mem_append, List.mem_singleton]
  constructor
  · rintro (h1 | ⟨h1, _⟩)
    · exact .inr h1
    · exact .inl h1
  · rintro (h1 | h1)
    · by_cases e : Ab.keyOf it = Ab.keyOf x
      · exact .inl (h it (List.mem_append_left _ h1) x (by simp) e)
      · exact .inr ⟨h1, e⟩
    · exact .inl h1) its
theorem mergeG_val {κ β : Type} [DecidableEq κ] : ∀ (ws l : List (κ × β)), (ws.map (·.1)).Nodup → ∀ k, valG (mergeG l ws) k = (valG ws k).or (valG l k)
  | [], l, _, k => rfl
  | (a, v) :: ws, l, nd, k => by
    rw [List.map_cons, List.nodup_cons] at nd
    have e : mergeG l ((a, v) :: ws) = mergeG (putG l a v) ws := rfl
    rw [e, mergeG_val ws _ nd.2 k, valG_put, valG_cons]
    by_cases c : a = k
    · rw [if_pos c, if_pos c]
      cases hv : valG ws k with
      | none => rfl
      | some x => exact absurd (List.mem_map.mpr ⟨_, valG_mem hv, c.symm⟩) nd.1
    · rw [if_neg c, if_neg c]
/-- the content mirrors the world -/
structure Mir (c : Ct) (rel : List (Str × Int)) (W : List (Str × Rul)) : Prop where
  vr : ∀ r, valG c.rel r = valG rel r
  vu : ∀ n, valG c.rul n = valG W n
  nu : (c.rul.map (·.1)).Nodup
  nW : (W.map (·.1)).Nodup
  nr : (rel.map (·.1)).Nodup
structure Cons (rel : List (Str × Int)) (W : List (Str × Rul)) : Prop where
  r : ∀ p ∈ W, valG rel p.2.rel = none
  c : ∀ p ∈ W, ∀ q ∈ W, p.2.rel = q.2.rel → p.2.hd.length = q.2.hd.length
theorem Cons.sub {rel : List (Str × Int)} {W V : List (Str × Rul)} (h : Cons rel W) (s : ∀ p ∈ V, p ∈ W) : Cons rel V := ⟨fun p hp => h.r p (s p hp), fun p hp q hq => h.c p (s p hp) q (s q hq)⟩
theorem Mir.memR {c : Ct} {rel : List (Str × Int)} {W : List (Str × Rul)} (h : Mir c rel W) (p : Str × Rul) : p ∈ c.rul ↔ p ∈ W := by
  have e := h.vu p.1
  constructor
  · intro hp
    have := valG_nodup h.nu (show (p.1, p.2) ∈ c.rul from hp)
    rw [e] at this
    exact valG_mem this
  · intro hp
    have := valG_nodup h.nW (show (p.1, p.2) ∈ W from hp)
    rw [← e] at this
    exact valG_mem this
theorem sortT_sameN {xs ys : List Str} (hx : xs.Nodup) (hy : ys.Nodup) (h : ∀ z, z ∈ xs ↔ z ∈ ys) : sortT xs = sortT ys :=
  List.Perm.eq_of_pairwise (le := fun a b => leT a b = true) (fun a b _ _ => leT_anti) (sortT_pw xs) (sortT_pw ys) (((List.mergeSort_perm _ _).trans ((List.perm_ext_iff_of_nodup hx hy).mpr h)).trans (List.mergeSort_perm _ _).symm)
theorem Mir.names {c : Ct} {rel : List (Str × Int)} {W : List (Str × Rul)} (h : Mir c rel W) : sortT (c.rul.map (·.1)) = sortT (W.map (·.1)) := sortT_sameN h.nu h.nW fun z => by
  rw [List.mem_map, List.mem_map]
  exact ⟨fun ⟨p, hp, e⟩ => ⟨p, (h.memR p).mp hp, e⟩, fun ⟨p, hp, e⟩ => ⟨p, (h.memR p).mpr hp, e⟩⟩
theorem Mir.memU {c : Ct} {rel : List (Str × Int)} {W : List (Str × Rul)} (h : Mir c rel W) (u : Rul) : u ∈ c.rul.map (·.2) ↔ u ∈ W.map (·.2) := by
  rw [List.mem_map, List.mem_map]
  exact ⟨fun ⟨p, hp, e⟩ => ⟨p, (h.memR p).mp hp, e⟩, fun ⟨p, hp, e⟩ => ⟨p, (h.memR p).mpr hp, e⟩⟩
theorem Mir.ring {c : Ct} {rel : List (Str × Int)} {W : List (Str × Rul)} (h : Mir c rel W) : Ring (edgesF (c.rul.map (·.2))) ↔ Ring (edgesF (W.map (·.2))) := by
  rw [ring_iff, ring_iff]
  have m := h.memU
  exact ⟨fun ⟨w, h1, p, h2, h3, h4⟩ => ⟨w, (m w).mp h1, p, h2, h3, h4.imp id (rch_congr m).mp⟩, fun ⟨w, h1, p, h2, h3, h4⟩ => ⟨w, (m w).mpr h1, p, h2, h3, h4.imp id (rch_congr m).mpr⟩⟩
theorem Mir.grow {c : Ct} {rel : List (Str × Int)} {W : List (Str × Rul)} (h : Mir c rel W) : growF c.rul = growF W := by
  have m := h.memU
  have g : ∀ n, Grw c.rul n ↔ Grw W n := fun n => by
    unfold Grw
    rw [h.vu n]
    exact ⟨fun ⟨u, h1, h2, p, h3, h4⟩ => ⟨u, h1, h2, p, h3, h4.imp id (rch_congr m).mp⟩, fun ⟨u, h1, h2, p, h3, h4⟩ => ⟨u, h1, h2, p, h3, h4.imp id (rch_congr m).mpr⟩⟩
  have e : Grw c.rul = Grw W := funext fun n => propext (g n)
  unfold growF
  rw [h.names, e]
theorem putW_someN : ∀ (W : List (Str × Rul)) {r : Str} {k : Int}, valG (putW [] W) r = some k → ∃ p ∈ W, p.2.rel = r ∧ (p.2.hd.length : Int) = k := fun W => snoc_ind (p := fun W => ∀ {r : Str} {k : Int}, valG (putW [] W) r = some k → ∃ p ∈ W, p.2.rel = r ∧ (p.2.hd.length : Int) = k) (fun h => nomatch h) (fun xs x ih {r k} h => by
  rw [putW_snoc, valG_put] at h
  split at h
  · rename_i e
    cases h
    exact ⟨x, by simp, e, rfl⟩
  · obtain ⟨p, hp, h1⟩ := ih h
    exact ⟨p, List.mem_append_left _ hp, h1⟩) W
theorem putW_hasN : ∀ (W : List (Str × Rul)) {p : Str × Rul}, p ∈ W → ∃ k, valG (putW [] W) p.2.rel = some k := fun W => snoc_ind (p := fun W => ∀ {p : Str × Rul}, p ∈ W → ∃ k, valG (putW [] W) p.2.rel = some k) (fun h => nomatch h) (fun xs x ih {p} h => by
  rw [putW_snoc, valG_put]
  split
  · exact ⟨_, rfl⟩
  · rename_i e
    rcases List.mem_append.mp h with h | h
    · exact ih h
    · rw [List.mem_singleton.mp h] at e
      exact absurd rfl e) W
theorem widths_val {rel : List (Str × Int)} (nd : (rel.map (·.1)).Nodup) (W : List (Str × Rul)) (r : Str) : valG (widthsF rel W) r = (valG rel r).or (valG (putW [] W) r) := mergeG_val rel (putW [] W) nd r
/-- the first name that tells something -/
theorem findSome_first {f : Str → Option Int} : ∀ {l : List Str}, l.Pairwise (fun a b => a.cps.toList < b.cps.toList) → ∀ {v : Int}, l.findSome? f = some v → ∃ n ∈ l, f n = some v ∧ ∀ m ∈ l, m.cps.toList < n.cps.toList → f m = none
  | [], _, _, h => nomatch h
  | x :: l, hp, v, h => by
    rw [List.findSome?_cons] at h
    cases hf : f x with
    | some y =>
      rw [hf] at h
      cases h
      refine ⟨x, List.mem_cons_self, hf, fun m hm hlt => ?_⟩
      rcases List.mem_cons.mp hm with rfl | h1
      · exact absurd hlt (List.lt_irrefl _)
      · exact absurd hlt (List.lt_asymm ((List.pairwise_cons.mp hp).1 m h1))
    | none =>
      rw [hf] at h
      obtain ⟨n, h1, h2, h3⟩ := findSome_first (List.pairwise_cons.mp hp).2 h
      refine ⟨n, List.mem_cons_of_mem _ h1, h2, fun m hm hlt => ?_⟩
      rcases List.mem_cons.mp hm with rfl | h4
      · exact hf
      · exact h3 m h4 hlt
/-- what columns tells of a derived relation: by its first rule -/
theorem cols_first {c : Ct} {rel : List (Str × Int)} {W : List (Str × Rul)} (h : Mir c rel W) {r : Str} (hr : valG rel r = none) :
    (colsF c r = none ∧ ∀ p ∈ W, p.2.rel ≠ r) ∨ ∃ p ∈ W, p.2.rel = r ∧ colsF c r = some (p.2.hd.length : Int) ∧ ∀ q ∈ W, q.2.rel = r → ¬q.1.cps.toList < p.1.cps.toList := by
  have ec : colsF c r = (sortT (c.rul.map (·.1))).findSome? (ruleCols c r) := by unfold colsF; rw [h.vr r, hr]
  have rc : ∀ p ∈ W, ruleCols c r p.1 = if p.2.rel = r then some (p.2.hd.length : Int) else none := fun p hp => by
    unfold ruleCols
    rw [h.vu, valG_nodup h.nW (show (p.1, p.2) ∈ W from hp)]
    rfl
  rw [ec]
  cases e : (sortT (c.rul.map (·.1))).findSome? (ruleCols c r) with
  | none =>
    refine .inl ⟨rfl, fun p hp er => ?_⟩
    have hn := List.findSome?_eq_none_iff.mp e p.1 (by rw [h.names, sortT_mem]; exact List.mem_map.mpr ⟨p, hp, rfl⟩)
    rw [rc p hp, if_pos er] at hn
    cases hn
  | some v =>
    rw [h.names] at e
    obtain ⟨n, h1, h2, h3⟩ := findSome_first (sortT_strict h.nW) e
    rw [sortT_mem] at h1
    obtain ⟨p, hp, rfl⟩ := List.mem_map.mp h1
    rw [rc p hp] at h2
    split at h2
    · rename_i er
      refine .inr ⟨p, hp, er, h2.symm, fun q hq eq hlt => ?_⟩
      have := h3 q.1 (sortT_mem.mpr (List.mem_map.mpr ⟨q, hq, rfl⟩)) hlt
      rw [rc q hq, if_pos eq] at this
      cases this
    · cases h2
theorem cols_mir {c : Ct} {rel : List (Str × Int)} {W : List (Str × Rul)} (h : Mir c rel W) (w : Cons rel W) : colsF c = valG (widthsF rel W) := funext fun r => by
  rw [widths_val h.nr]
  cases e : valG rel r with
  | some v => unfold colsF; rw [h.vr r, e]; rfl
  | none =>
    rw [Option.none_or]
    rcases cols_first h e with ⟨h1, h2⟩ | ⟨p, hp, er, h1, _⟩
    · rw [h1]
      cases hv : valG (putW [] W) r with
      | none => rfl
      | some k =>
        obtain ⟨p, hp, h3, _⟩ := putW_someN W hv
        exact absurd h3 (h2 p hp)
    · rw [h1]
      obtain ⟨k, hk⟩ := putW_hasN W hp
      rw [er] at hk
      obtain ⟨q, hq, h3, h4⟩ := putW_someN W hk
      rw [hk, ← h4, w.c p hp q hq (er.trans h3.symm)]
theorem memG {κ β : Type} [DecidableEq κ] {l : List (κ × β)} {k : κ} {v : β} (nd : (l.map (·.1)).Nodup) : valG l k = some v ↔ (k, v) ∈ l := ⟨valG_mem, valG_nodup nd⟩
/-- the last rule of a relation -/
theorem last_of {r : Str} : ∀ {W : List (Str × Rul)}, (∃ p ∈ W, p.2.rel = r) → ∃ A z B, W = A ++ z :: B ∧ z.2.rel = r ∧ ∀ q ∈ B, q.2.rel ≠ r
  | [], ⟨_, h, _⟩ => nomatch h
  | x :: W, h => by
    by_cases c : ∃ p ∈ W, p.2.rel = r
    · obtain ⟨A, z, B, e, h1, h2⟩ := last_of c
      exact ⟨x :: A, z, B, by rw [e]; rfl, h1, h2⟩
    · obtain ⟨p, hp, er⟩ := h
      have : p = x := by
        rcases List.mem_cons.mp hp with h1 | h1
        · exact h1
        · exact absurd ⟨p, h1, er⟩ c
      exact ⟨[], x, W, rfl, by rw [← this]; exact er, fun q hq e => c ⟨q, hq, e⟩⟩
theorem putW_tail {r : Str} : ∀ (B : List (Str × Rul)) (X : List (Str × Int)), (∀ q ∈ B, q.2.rel ≠ r) → valG (putW X B) r = valG X r := fun B => snoc_ind (p := fun B => ∀ (X : List (Str × Int)), (∀ q ∈ B, q.2.rel ≠ r) → valG (putW X B) r = valG X r) (fun X _ => rfl) (fun xs x ih X h => by
  rw [putW_snoc, valG_put, if_neg (h x (by simp))]
  exact ih X fun q hq => h q (List.mem_append_left _ hq)) B
theorem putW_app (X : List (Str × Int)) (A B : List (Str × Rul)) : putW X (A ++ B) = putW (putW X A) B := by unfold putW; rw [List.foldl_append]
theorem putW_last {A B : List (Str × Rul)} {z : Str × Rul} {r : Str} (h : z.2.rel = r) (hB : ∀ q ∈ B, q.2.rel ≠ r) : valG (putW [] (A ++ z :: B)) r = some (z.2.hd.length : Int) := by
  rw [show A ++ z :: B = (A ++ [z]) ++ B by simp, putW_app, putW_tail B _ hB, putW_snoc, valG_put, if_pos h]
theorem drop_app {A B : List (Str × Rul)} {n : Str} : dropG (A ++ B) n = dropG A n ++ dropG B n := by unfold dropG; exact List.filter_append ..
theorem mem_drop {W : List (Str × Rul)} {n : Str} {p : Str × Rul} : p ∈ dropG W n ↔ p ∈ W ∧ p.1 ≠ n := by
  unfold dropG
  rw [List.mem_filter]
  exact and_congr_right fun _ => by simp
/-- the law's way: all is consistent if nothing is told -/
theorem cons_law {rel : List (Str × Int)} {W : List (Str × Rul)} (nd : (W.map (·.1)).Nodup) (nr : (rel.map (·.1)).Nodup) (h : ∀ p ∈ W, valG rel p.2.rel = none ∧ ¬wBad (valG (widthsF rel (dropG W p.1)) p.2.rel) p.2.hd.length) : Cons rel W := by
  refine ⟨fun p hp => (h p hp).1, ?_⟩
  have key : ∀ (r : Str), (∃ p ∈ W, p.2.rel = r) → ∃ k : Nat, ∀ p ∈ W, p.2.rel = r → p.2.hd.length = k := fun r hr => by
    obtain ⟨A, z, B, e, h1, h2⟩ := last_of hr
    refine ⟨z.2.hd.length, fun p hp er => ?_⟩
    by_cases pz : p.1 = z.1
    · have hz : z ∈ W := by rw [e]; simp
      have e1 := valG_nodup nd (show (p.1, p.2) ∈ W from hp)
      have e2 := valG_nodup nd (show (z.1, z.2) ∈ W from hz)
      rw [pz, e2] at e1
      rw [← Option.some.inj e1]
    · obtain ⟨h3, h4⟩ := h p hp
      rw [widths_val nr, h3, Option.none_or, er] at h4
      have ed : dropG W p.1 = dropG A p.1 ++ z :: dropG B p.1 := by
        rw [e, drop_app]
        congr 1
        unfold dropG
        rw [List.filter_cons, if_pos (by simp [Ne.symm pz])]
      rw [ed, putW_last h1 fun q hq => h2 q (mem_drop.mp hq).1] at h4
      exact Classical.byContradiction fun c => h4 (.inl ⟨_, rfl, fun c2 => c (by omega)⟩)
  intro p hp q hq e
  obtain ⟨k, hk⟩ := key p.2.rel ⟨p, hp, rfl⟩
  rw [hk p hp rfl, hk q hq e.symm]
/-- the program's way -/
theorem cons_prog {rel : List (Str × Int)} {W : List (Str × Rul)} {c : Ct} {cm : Str × Rul → Ct} (hc : Mir c rel W) (hm : ∀ p ∈ W, Mir (cm p) rel (dropG W p.1)) (h : ∀ p ∈ W, valG rel p.2.rel = none ∧ ¬wBad (colsF (cm p) p.2.rel) p.2.hd.length) : Cons rel W := by
  refine ⟨fun p hp => (h p hp).1, ?_⟩
  have key : ∀ (r : Str), (∃ p ∈ W, p.2.rel = r) → ∃ k : Nat, ∀ p ∈ W, p.2.rel = r → p.2.hd.length = k := fun r ⟨p0, hp0, er0⟩ => by
    have hn : valG rel r = none := by rw [← er0]; exact (h p0 hp0).1
    rcases cols_first hc hn with ⟨_, h2⟩ | ⟨a, ha, ea, _, hmin⟩
    · exact absurd er0 (h2 p0 hp0)
    · refine ⟨a.2.hd.length, fun p hp er => ?_⟩
      by_cases pa : p.1 = a.1
      · have e1 := valG_nodup hc.nW (show (p.1, p.2) ∈ W from hp)
        have e2 := valG_nodup hc.nW (show (a.1, a.2) ∈ W from ha)
        rw [pa, e2] at e1
        rw [← Option.some.inj e1]
      · obtain ⟨_, h4⟩ := h p hp
        rw [er] at h4
        have had : a ∈ dropG W p.1 := mem_drop.mpr ⟨ha, fun e => pa e.symm⟩
        rcases cols_first (hm p hp) hn with ⟨_, h2⟩ | ⟨b, hb, eb, h5, hminb⟩
        · exact absurd ea (h2 a had)
        · have hbW := (mem_drop.mp hb).1
          have n1 := hmin b hbW eb
          have n2 := hminb a had ea
          have eab : a.1 = b.1 := Classical.byContradiction fun c => by
            have := strLt_tri c
            rw [decide_eq_false n1, decide_eq_false n2] at this
            cases this
          have e1 := valG_nodup hc.nW (show (b.1, b.2) ∈ W from hbW)
          have e2 := valG_nodup hc.nW (show (a.1, a.2) ∈ W from ha)
          rw [eab, e1] at e2
          have e3 := Option.some.inj e2
          rw [h5, e3] at h4
          exact Classical.byContradiction fun c2 => h4 (.inl ⟨_, rfl, fun c3 => c2 (by omega)⟩)
  intro p hp q hq e
  obtain ⟨k, hk⟩ := key p.2.rel ⟨p, hp, rfl⟩
  rw [hk p hp rfl, hk q hq e.symm]
end
section
def memW (rel : List (Str × Int)) (W : List (Str × Rul)) (F : List (Str × List Val)) (D : List (Str × List Lit)) : Item → Prop
  | .relation n v => (n, v) ∈ rel
  | .fact n row => (n, row) ∈ F
  | .rule n r h b => (n, (⟨r, h, b⟩ : Rul)) ∈ W
  | .denial n b => (n, b) ∈ D
def itsOf (rel : List (Str × Int)) (W : List (Str × Rul)) (F : List (Str × List Val)) (D : List (Str × List Lit)) : List Item :=
  rel.map (fun p => .relation p.1 p.2) ++ F.map (fun p => .fact p.1 p.2) ++ W.map (fun p => .rule p.1 p.2.rel p.2.hd p.2.b) ++ D.map (fun p => .denial p.1 p.2)
theorem mem_itsOf {rel : List (Str × Int)} {W : List (Str × Rul)} {F : List (Str × List Val)} {D : List (Str × List Lit)} (it : Item) : it ∈ itsOf rel W F D ↔ memW rel W F D it := by
  unfold itsOf
  rw [List.mem_append, List.mem_append, List.mem_append, List.mem_map, List.mem_map, List.mem_map, List.mem_map]
  constructor
  · rintro (((⟨p, hp, rfl⟩ | ⟨p, hp, rfl⟩) | ⟨p, hp, rfl⟩) | ⟨p, hp, rfl⟩) <;> exact hp
  · intro h
    cases it with
    | relation n v => exact .inl (.inl (.inl ⟨_, h, rfl⟩))
    | fact n row => exact .inl (.inl (.inr ⟨_, h, rfl⟩))
    | rule n r hd b => exact .inl (.inr ⟨_, h, rfl⟩)
    | denial n b => exact .inr ⟨_, h, rfl⟩
structure WNd (rel : List (Str × Int)) (W : List (Str × Rul)) (D : List (Str × List Lit)) : Prop where
  r : (rel.map (·.1)).Nodup
  w : (W.map (·.1)).Nodup
  d : (D.map (·.1)).Nodup
theorem one_key {κ β : Type} [DecidableEq κ] {l : List (κ × β)} (nd : (l.map (·.1)).Nodup) {k : κ} {v w : β} (h1 : (k, v) ∈ l) (h2 : (k, w) ∈ l) : v = w := by
  have e1 := valG_nodup nd h1
  rw [valG_nodup nd h2] at e1
  exact (Option.some.inj e1).symm
theorem its_uniq {rel : List (Str × Int)} {W : List (Str × Rul)} {F : List (Str × List Val)} {D : List (Str × List Lit)} (nd : WNd rel W D) : ∀ a ∈ itsOf rel W F D, ∀ b ∈ itsOf rel W F D, Ab.keyOf a = Ab.keyOf b → a = b := fun a ha b hb e => by
  rw [mem_itsOf] at ha hb
  have es := congrArg IKey.s e
  have en := congrArg IKey.n e
  have er := congrArg IKey.row e
  cases a with
  | relation n v =>
    cases b with
    | relation m x => obtain rfl : n = m := en; rw [one_key nd.r ha hb]
    | fact m x => cases es
    | rule m x y z => cases es
    | denial m x => cases es
  | fact n v =>
    cases b with
    | relation m x => cases es
    | fact m x => obtain rfl : n = m := en; obtain rfl : v = x := er; rfl
    | rule m x y z => cases es
    | denial m x => cases es
  | rule n v1 v2 v3 =>
    cases b with
    | relation m x => cases es
    | fact m x => cases es
    | rule m x y z => obtain rfl : n = m := en; have := one_key nd.w ha hb; cases this; rfl
    | denial m x => cases es
  | denial n v =>
    cases b with
    | relation m x => cases es
    | fact m x => cases es
    | rule m x y z => cases es
    | denial m x => obtain rfl : n = m := en; rw [one_key nd.d ha hb]
theorem mir_of {c : Ct} {os : List Item} {k : Nat} {rel : List (Str × Int)} {W : List (Str × Rul)} {F : List (Str × List Val)} {D : List (Str × List Lit)} (h : StH c os k) (hm : ∀ it, it ∈ os ↔ memW rel W F D it) (nd : WNd rel W D) : Mir c rel W :=
  ⟨fun r => opt_ext fun v => by rw [h.rel, hm, memG nd.r]; exact Iff.rfl, fun n => opt_ext fun u => by rw [h.rul, hm, memG nd.w]; exact Iff.rfl, h.nu, nd.w, nd.r⟩
theorem gone_rule {os : List Item} {rel : List (Str × Int)} {W : List (Str × Rul)} {F : List (Str × List Val)} {D : List (Str × List Lit)} (hm : ∀ it, it ∈ os ↔ memW rel W F D it) (n : Str) (r : Str) (h : List Term) (b : List Lit) : ∀ it, it ∈ goneI os (.rule n r h b) ↔ memW rel (dropG W n) F D it := fun it => by
  rw [mem_gone, hm]
  cases it with
  | relation m v => exact ⟨fun h => h.1, fun h => ⟨h, fun e => by cases congrArg IKey.s e⟩⟩
  | fact m v => exact ⟨fun h => h.1, fun h => ⟨h, fun e => by cases congrArg IKey.s e⟩⟩
  | rule m x y z => exact ⟨fun h => mem_drop.mpr ⟨h.1, fun e => h.2 (by have e' : m = n := e; rw [e']; rfl)⟩, fun h => ⟨(mem_drop.mp h).1, fun e => (mem_drop.mp h).2 (congrArg IKey.n e)⟩⟩
  | denial m v => exact ⟨fun h => h.1, fun h => ⟨h, fun e => by cases congrArg IKey.s e⟩⟩
theorem memD_drop {D : List (Str × List Lit)} {n : Str} {p : Str × List Lit} : p ∈ dropG D n ↔ p ∈ D ∧ p.1 ≠ n := by
  unfold dropG
  rw [List.mem_filter]
  exact and_congr_right fun _ => by simp
theorem gone_den {os : List Item} {rel : List (Str × Int)} {W : List (Str × Rul)} {F : List (Str × List Val)} {D : List (Str × List Lit)} (hm : ∀ it, it ∈ os ↔ memW rel W F D it) (n : Str) (b : List Lit) : ∀ it, it ∈ goneI os (.denial n b) ↔ memW rel W F (dropG D n) it := fun it => by
  rw [mem_gone, hm]
  cases it with
  | relation m v => exact ⟨fun h => h.1, fun h => ⟨h, fun e => by cases congrArg IKey.s e⟩⟩
  | fact m v => exact ⟨fun h => h.1, fun h => ⟨h, fun e => by cases congrArg IKey.s e⟩⟩
  | rule m x y z => exact ⟨fun h => h.1, fun h => ⟨h, fun e => by cases congrArg IKey.s e⟩⟩
  | denial m v => exact ⟨fun h => memD_drop.mpr ⟨h.1, fun e => h.2 (by have e' : m = n := e; rw [e']; rfl)⟩, fun h => ⟨(memD_drop.mp h).1, fun e => (memD_drop.mp h).2 (congrArg IKey.n e)⟩⟩
theorem val_drop {κ β : Type} [DecidableEq κ] {l : List (κ × β)} {n : κ} : valG (dropG l n) n = none := by rw [dropG_val, if_pos rfl]
theorem not_in {β : Type} {l : List (Str × β)} {n : Str} (h : valG l n = none) : n ∉ l.map (·.1) := fun hm => by
  obtain ⟨x, hx⟩ := valG_of hm
  rw [h] at hx
  cases hx
theorem placed_rule {os : List Item} {rel : List (Str × Int)} {V : List (Str × Rul)} {F : List (Str × List Val)} {D : List (Str × List Lit)} (hm : ∀ it, it ∈ os ↔ memW rel V F D it) {n : Str} (hn : valG V n = none) (u : Rul) : ∀ it, it ∈ placedI os (.rule n u.rel u.hd u.b) ↔ memW rel (putG V n u) F D it := fun it => by
  rw [mem_placed, hm, putG_new (not_in hn)]
  cases it with
  | relation m v => exact ⟨fun h => h.elim (fun e => nomatch e) fun h => h.1, fun h => .inr ⟨h, fun e => by cases congrArg IKey.s e⟩⟩
  | fact m v => exact ⟨fun h => h.elim (fun e => nomatch e) fun h => h.1, fun h => .inr ⟨h, fun e => by cases congrArg IKey.s e⟩⟩
  | denial m v => exact ⟨fun h => h.elim (fun e => nomatch e) fun h => h.1, fun h => .inr ⟨h, fun e => by cases congrArg IKey.s e⟩⟩
  | rule m x y z =>
    show _ ↔ (m, (⟨x, y, z⟩ : Rul)) ∈ V ++ [(n, u)]
    rw [List.mem_append, List.mem_singleton]
    constructor
    · rintro (e | ⟨h, _⟩)
      · injection e with e1 e2 e3 e4
        right
        rw [e1, e2, e3, e4]
      · exact .inl h
    · rintro (h | e)
      · refine .inr ⟨h, fun e => not_in hn ?_⟩
        have e' : m = n := congrArg IKey.n e
        rw [← e']
        exact List.mem_map.mpr ⟨_, h, rfl⟩
      · injection e with e1 e2
        left
        rw [e1, ← e2]
theorem widths_next {rel : List (Str × Int)} {V : List (Str × Rul)} {n r : Str} {ts : List Term} {b : List Lit} (nr : (rel.map (·.1)).Nodup) (hn : valG V n = none) (hr : valG rel r = none) : valG (widthsF rel (putG V n ⟨r, ts, b⟩)) = valG (putG (widthsF rel V) r (ts.length : Int)) := funext fun x => by
  rw [putG_new (not_in hn), widths_val nr, putW_snoc, valG_put, valG_put, widths_val nr]
  by_cases ex : r = x
  · rw [if_pos ex, if_pos ex, ← ex, hr, Option.none_or]
  · rw [if_neg ex, if_neg ex]
theorem rule_mir {c c' : Ct} {rel : List (Str × Int)} {V : List (Str × Rul)} {n r : Str} {ts : List Term} {b : List Lit} (m : Mir c rel V) (m' : Mir c' rel (putG V n ⟨r, ts, b⟩)) (hn : valG V n = none) (w' : Cons rel (putG V n ⟨r, ts, b⟩)) : ruleP c c' n r ts b = lruleP rel V n r ts b := by
  classical
  have hr : valG rel r = none := w'.r (n, ⟨r, ts, b⟩) (by rw [putG_new (not_in hn)]; simp)
  have w : Cons rel V := w'.sub fun p hp => by rw [putG_new (not_in hn)]; exact List.mem_append_left _ hp
  unfold ruleP lruleP
  rw [m.vu n, hn, m.vr r, hr, cols_mir m w, cols_mir m' w', widths_next m.nr hn hr, m'.grow]
  dsimp only
  have er := m'.ring
  by_cases nb : wBad (valG (widthsF rel V) r) ts.length
  · rw [if_pos nb, if_pos nb]
  · rw [if_neg nb, if_neg nb]
    cases bodyE (valG (putG (widthsF rel V) r (ts.length : Int))) [] b with
    | inl p => rfl
    | inr ks =>
      dsimp only
      cases termsP ks false ts with
      | some p => rfl
      | none =>
        dsimp only
        by_cases g : Ring (edgesF ((putG V n ⟨r, ts, b⟩).map (·.2)))
        · rw [if_pos (er.mpr g), if_pos g]
        · rw [if_neg fun z => g (er.mp z), if_neg g]
          all_goals (cases growF (putG V n ⟨r, ts, b⟩) <;> rfl)
theorem ruleP_ok {c c' : Ct} {n r : Str} {ts : List Term} {b : List Lit} (h : ruleP c c' n r ts b = none) : valG c.rel r = none ∧ ¬wBad (colsF c r) ts.length := by
  unfold ruleP at h
  cases e1 : valG c.rul n with
  | some u => rw [e1] at h; cases h
  | none =>
    rw [e1] at h
    dsimp only at h
    cases e2 : valG c.rel r with
    | some u => rw [e2] at h; cases h
    | none =>
      rw [e2] at h
      dsimp only at h
      refine ⟨rfl, fun nb => ?_⟩
      rw [if_pos nb] at h
      cases h
theorem lruleP_ok {rel : List (Str × Int)} {V : List (Str × Rul)} {n r : Str} {ts : List Term} {b : List Lit} (h : lruleP rel V n r ts b = none) : valG rel r = none ∧ ¬wBad (valG (widthsF rel V) r) ts.length := by
  unfold lruleP at h
  cases e1 : valG V n with
  | some u => rw [e1] at h; cases h
  | none =>
    rw [e1] at h
    dsimp only at h
    cases e2 : valG rel r with
    | some u => rw [e2] at h; cases h
    | none =>
      rw [e2] at h
      dsimp only at h
      refine ⟨rfl, fun nb => ?_⟩
      rw [if_pos nb] at h
      cases h
theorem sound_due {c : Ct} {os : List Item} {rel : List (Str × Int)} {W : List (Str × Rul)} {F : List (Str × List Val)} {D : List (Str × List Lit)} (h : StH c os 19) (hm : ∀ it, it ∈ os ↔ memW rel W F D it) (nd : WNd rel W D) : SoundP c ↔ DueP rel W F D := by
  have m := mir_of h hm nd
  have lp := h.l
  have ndr : ∀ n, WNd rel (dropG W n) D := fun n => ⟨nd.r, dropG_nodup nd.w n, nd.d⟩
  have okR : ∀ {n : Str} {u : Rul}, (n, u) ∈ W → (Item.rule n u.rel u.hd u.b).ok := fun {n u} hp => h.its _ ((hm _).mpr hp)
  have sG : ∀ {n : Str} {u : Rul}, (n, u) ∈ W → StH (goC c (.rule n u.rel u.hd u.b)) (goneI os (.rule n u.rel u.hd u.b)) 19 := fun hp => (h.chg (x := .goes (.rule _ _ _ _)) (k' := 19) (by decide) (okR hp) (Nat.le_trans (gone_len _ _) lp) (by decide)).2
  have mG : ∀ {n : Str} {u : Rul}, (n, u) ∈ W → Mir (goC c (.rule n u.rel u.hd u.b)) rel (dropG W n) := fun {n u} hp => mir_of (sG hp) (gone_rule hm n u.rel u.hd u.b) (ndr n)
  have mB : ∀ {n : Str} {u : Rul}, (n, u) ∈ W → Mir (aftC (goC c (.rule n u.rel u.hd u.b)) n u.rel u.hd u.b) rel (putG (dropG W n) n u) := fun {n u} hp => by
    have s2 := ((sG hp).chg (x := .comes (.rule n u.rel u.hd u.b)) (k' := 20) (by decide) (okR hp) (Nat.le_trans (chgI_len _ _) (Nat.succ_le_succ (sG hp).l)) (by decide)).2
    exact mir_of s2 (placed_rule (gone_rule hm n u.rel u.hd u.b) val_drop u) ⟨nd.r, putG_nodup (dropG_nodup nd.w n) _ _, nd.d⟩
  have subB : ∀ {n : Str} {u : Rul}, (n, u) ∈ W → ∀ p ∈ putG (dropG W n) n u, p ∈ W := fun {n u} hp p hp2 => (putG_mem hp2).elim (fun e => by rw [e]; exact hp) fun h2 => (mem_drop.mp h2).1
  have eqR : Cons rel W → ∀ {n : Str} {u : Rul}, (n, u) ∈ W → ruleP (goC c (.rule n u.rel u.hd u.b)) (aftC (goC c (.rule n u.rel u.hd u.b)) n u.rel u.hd u.b) n u.rel u.hd u.b = lruleP rel (dropG W n) n u.rel u.hd u.b := fun w {n u} hp => rule_mir (mG hp) (mB hp) val_drop (w.sub (subB hp))
  have okD : ∀ {n : Str} {b : List Lit}, (n, b) ∈ D → (Item.denial n b).ok := fun {n u} hp => h.its _ ((hm _).mpr hp)
  have eqD : Cons rel W → ∀ {n : Str} {b : List Lit}, (n, b) ∈ D → (denP (goC c (.denial n b)) n b = none ↔ ∃ ks, bodyE (valG (widthsF rel W)) [] b = .inr ks) := fun w {n b} hp => by
    have s1 := (h.chg (x := .goes (.denial n b)) (k' := 19) (by decide) (okD hp) (Nat.le_trans (gone_len _ _) lp) (by decide)).2
    have m1 : Mir (goC c (.denial n b)) rel W := mir_of s1 (gone_den hm n b) ⟨nd.r, nd.w, dropG_nodup nd.d n⟩
    have hv : valG (goC c (.denial n b)).den n = none := by
      cases e : valG (goC c (.denial n b)).den n with
      | none => rfl
      | some x =>
        have := (gone_den hm n b _).mp (s1.den.mp e)
        exact absurd rfl (memD_drop.mp this).2
    unfold denP
    rw [hv, cols_mir m1 w]
    dsimp only
    cases bodyE (valG (widthsF rel W)) [] b with
    | inl p => exact ⟨fun z => (nomatch z), fun ⟨_, z⟩ => (nomatch z)⟩
    | inr ks => exact ⟨fun _ => ⟨ks, rfl⟩, fun _ => rfl⟩
  have hf : (∀ n row, row ∈ rowsOf c n → valG c.rel n = some (row.length : Int)) ↔ ∀ p ∈ F, valG rel p.1 = some (p.2.length : Int) := by
    constructor
    · intro z p hp
      rw [← m.vr]
      exact z p.1 p.2 (h.fac.mpr ((hm _).mpr hp))
    · intro z n row hrow
      rw [m.vr]
      exact z (n, row) ((hm _).mp (h.fac.mp hrow))
  constructor
  · intro s
    have w : Cons rel W := cons_prog (cm := fun p => goC c (.rule p.1 p.2.rel p.2.hd p.2.b)) m (fun p hp => mG hp) fun p hp => by
      have h1 := ruleP_ok (s.r p.1 p.2 (by rw [m.vu]; exact valG_nodup nd.w hp))
      rw [(mG hp).vr] at h1
      exact h1
    exact ⟨hf.mp s.f, fun p hp => by rw [← eqR w (n := p.1) (u := p.2) hp]; exact s.r p.1 p.2 (by rw [m.vu]; exact valG_nodup nd.w hp), fun p hp => (eqD w (n := p.1) (b := p.2) hp).mp (s.d p.1 p.2 (h.den.mpr ((hm _).mpr hp)))⟩
  · intro s
    have w : Cons rel W := cons_law nd.w nd.r fun p hp => lruleP_ok (s.r p hp)
    refine ⟨hf.mpr s.f, fun n u hu => ?_, fun n b hb => ?_⟩
    · rw [m.vu] at hu
      have hp := valG_mem hu
      rw [eqR w hp]
      exact s.r (n, u) hp
    · have hp : (n, b) ∈ D := (hm _).mp (h.den.mp hb)
      exact (eqD w hp).mpr (s.d (n, b) hp)
end
section
local macro_rules | `(tactic| walk_at "fl") => `(tactic| with_reducible first | exact sl_r _ | exact sl_f _ | exact sl_u _ | exact sl_n _)
section
variable {w : World} {K : PySem.W.Frag} {mg : Str → Option Value} {base : Heap} {a : AD} {d : FD}
abbrev kwW (dr du : Addr) : List (Key × Sl) := [(.inr "relations", .raw (.ref dr)), (.inr "rules", .raw (.ref du))]
structure RelOk (rel : List (Str × Int)) : Prop where
  nd : (rel.map (·.1)).Nodup
  g : ∀ p ∈ rel, goodS p.1 = true ∧ 0 ≤ p.2 ∧ p.2 ≤ 2
  l : rel.length ≤ 3
  ne : rel ≠ []
def rel3 : List (Str × Int) := [("p", 2), ("q", 1), ("r", 2)]
theorem rel3_ok : RelOk rel3 := ⟨by decide +kernel, by decide +kernel, by decide, by decide⟩
theorem rel2_ok : ∀ n ∈ [("p" : Str), "q", "r"], RelOk (dropG rel3 n) ∧ ∃ k, valG rel3 n = some k := fun n hn => by
  simp only [List.mem_cons, List.not_mem_nil, or_false] at hn
  rcases hn with rfl | rfl | rfl
  · exact ⟨⟨by decide +kernel, by decide +kernel, by decide +kernel, by decide +kernel⟩, 2, by decide +kernel⟩
  · exact ⟨⟨by decide +kernel, by decide +kernel, by decide +kernel, by decide +kernel⟩, 1, by decide +kernel⟩
  · exact ⟨⟨by decide +kernel, by decide +kernel, by decide +kernel, by decide +kernel⟩, 2, by decide +kernel⟩
/-- the facts drawn so far -/
structure FOk (F : List (Str × List Val)) (k : Nat) : Prop where
  l : F.length ≤ k
  g : ∀ p ∈ F, (Item.fact p.1 p.2).ok ∧ p.2.length ≤ 1000
structure WOk2 (W : List (Str × Rul)) (k : Nat) : Prop where
  nd : (W.map (·.1)).Nodup
  l : W.length ≤ k
  g : ∀ p ∈ W, (Item.rule p.1 p.2.rel p.2.hd p.2.b).ok ∧ p.2.hd.length ≤ 3 ∧ p.2.b.length ≤ 3
structure DOk2 (D : List (Str × List Lit)) (k : Nat) : Prop where
  nd : (D.map (·.1)).Nodup
  l : D.length ≤ k
  g : ∀ p ∈ D, (Item.denial p.1 p.2).ok ∧ p.2.length ≤ 3
theorem WOk2.put {W : List (Str × Rul)} {k : Nat} (h : WOk2 W k) {n : Str} {u : Rul} (hi : (Item.rule n u.rel u.hd u.b).ok) (h1 : u.hd.length ≤ 3) (h2 : u.b.length ≤ 3) : WOk2 (putG W n u) (k + 1) :=
  ⟨putG_nodup h.nd _ _, Nat.le_trans (putG_len W n u) (Nat.succ_le_succ h.l), fun p hp => (putG_mem hp).elim (fun e => by rw [e]; exact ⟨hi, h1, h2⟩) (h.g p)⟩
theorem DOk2.put {D : List (Str × List Lit)} {k : Nat} (h : DOk2 D k) {n : Str} {b : List Lit} (hi : (Item.denial n b).ok) (h2 : b.length ≤ 3) : DOk2 (putG D n b) (k + 1) :=
  ⟨putG_nodup h.nd _ _, Nat.le_trans (putG_len D n b) (Nat.succ_le_succ h.l), fun p hp => (putG_mem hp).elim (fun e => by rw [e]; exact ⟨hi, h2⟩) (h.g p)⟩
theorem WOk2.mono {W : List (Str × Rul)} {k m : Nat} (h : WOk2 W k) (hk : k ≤ m) : WOk2 W m := ⟨h.nd, Nat.le_trans h.l hk, h.g⟩
theorem putW_okN (W : List (Str × Rul)) : (∀ p ∈ W, goodS p.2.rel = true ∧ p.2.hd.length ≤ 4) → ∀ p ∈ putW [] W, goodS p.1 = true ∧ 0 ≤ p.2 ∧ p.2 ≤ 100 := snoc_ind (p := fun W => (∀ p ∈ W, goodS p.2.rel = true ∧ p.2.hd.length ≤ 4) → ∀ p ∈ putW [] W, goodS p.1 = true ∧ 0 ≤ p.2 ∧ p.2 ≤ 100) (fun _ p hp => nomatch hp) (fun xs x ih h p hp => by
  rw [putW_snoc] at hp
  rcases putG_mem hp with rfl | hp
  · have := h x (by simp)
    exact ⟨this.1, by dsimp only; omega, by dsimp only; omega⟩
  · exact ih (fun z hz => h z (List.mem_append_left _ hz)) p hp) W
theorem mergeG_memN {κ β : Type} [DecidableEq κ] : ∀ (ws l : List (κ × β)) (p : κ × β), p ∈ mergeG l ws → p ∈ l ∨ p ∈ ws
  | [], l, p, h => .inl h
  | w :: ws, l, p, h => by
    have h' : p ∈ mergeG (putG l w.1 w.2) ws := h
    rcases mergeG_memN ws _ p h' with h1 | h1
    · rcases putG_mem h1 with e | h2
      · exact .inr (by rw [e]; exact List.mem_cons_self)
      · exact .inl h2
    · exact .inr (List.mem_cons_of_mem _ h1)
theorem widths_okN {rel : List (Str × Int)} {W : List (Str × Rul)} {k : Nat} (hr : RelOk rel) (h : WOk2 W k) (hk : k ≤ 20) : okW (widthsF rel W) := by
  have l1 := putW_len W
  have l2 := mergeG_len rel (putW [] W)
  have l3 : (widthsF rel W).length ≤ 23 := Nat.le_trans l2 (by have := hr.l; have := h.l; omega)
  have hp := putW_okN W fun p hp => ⟨(h.g p hp).1.2.1, by have := (h.g p hp).2.1; omega⟩
  refine ⟨fun p hp2 => ?_, by omega, fun e => ?_⟩
  · rcases mergeG_memN rel (putW [] W) p hp2 with h1 | h1
    · exact hp p h1
    · have := hr.g p h1
      exact ⟨this.1, this.2.1, Int.le_trans this.2.2 (by decide)⟩
  · cases hrel : rel with
    | nil => exact hr.ne hrel
    | cons q qs =>
      have := widths_val hr.nd W q.1
      rw [e, valG_nodup hr.nd (show (q.1, q.2) ∈ rel by rw [hrel]; exact List.mem_cons_self)] at this
      cases this
/-- where all stands, but the denials -/
structure WSt (M : MH) (p wh wd dr du f : Addr) (rel : List (Str × Int)) (W : List (Str × Rul)) (F : List (Str × List Val)) : Prop where
  pp : ∃ ys, M p = some (.lst ys) ∧ DrawL ys
  hwh : M wh = some (.dK (kvW rel))
  hw : M wd = some (.dK (kwW dr du))
  hr : M dr = some (.dK (kvW rel))
  hu : M du = some (.dK (kvRu W))
  hf : M f = some (.lst (F.map fun p => .dat (encF p)))
  n1 : wd ≠ du
  n2 : dr ≠ du
  n3 : wh ≠ du
  n4 : f ≠ p
theorem WSt.ext {M N : MH} {p wh wd dr du f : Addr} {rel : List (Str × Int)} {W : List (Str × Rul)} {F : List (Str × List Val)} (h : WSt M p wh wd dr du f rel W F) (e : ∀ b u, M b = some u → N b = some u) : WSt N p wh wd dr du f rel W F :=
  ⟨let ⟨ys, h1, h2⟩ := h.pp; ⟨ys, e _ _ h1, h2⟩, e _ _ h.hwh, e _ _ h.hw, e _ _ h.hr, e _ _ h.hu, e _ _ h.hf, h.n1, h.n2, h.n3, h.n4⟩
theorem WSt.osT {M N : MH} {p wh wd dr du f : Addr} {rel : List (Str × Int)} {W : List (Str × Rul)} {F : List (Str × List Val)} {ys : List Sl} (h : WSt M p wh wd dr du f rel W F) (o : OSt M N p ys) : WSt N p wh wd dr du f rel W F := by
  obtain ⟨zs, h1, _⟩ := h.pp
  have ne : ∀ {x : Addr} {l : List (Key × Sl)}, M x = some (.dK l) → x ≠ p := fun hx z => by rw [z, h1] at hx; cases hx
  exact ⟨⟨ys, o.at_, o.d⟩, o.e _ _ h.hwh (ne h.hwh), o.e _ _ h.hw (ne h.hw), o.e _ _ h.hr (ne h.hr), o.e _ _ h.hu (ne h.hu), o.e _ _ h.hf h.n4, h.n1, h.n2, h.n3, h.n4⟩
theorem OSt.drawN {M : MH} {p : Addr} {ys : List Sl} (hy : DrawL ys) : OSt M (Ab.um M p (.lst ys)) p ys := ⟨um_same, hy, fun x u hx xp => by rw [um_ne xp]; exact hx⟩
theorem WSt.fact {M : MH} {p wh wd dr du f : Addr} {rel : List (Str × Int)} {W : List (Str × Rul)} {F : List (Str × List Val)} (h : WSt M p wh wd dr du f rel W F) (G : List (Str × List Val)) : WSt (Ab.um M f (.lst (G.map fun p => .dat (encF p)))) p wh wd dr du f rel W G := by
  have ne : ∀ {x : Addr} {l : List (Key × Sl)}, M x = some (.dK l) → x ≠ f := fun hx z => by rw [z, h.hf] at hx; cases hx
  obtain ⟨ys, h1, h2⟩ := h.pp
  exact ⟨⟨ys, by rw [um_ne h.n4.symm]; exact h1, h2⟩, by rw [um_ne (ne h.hwh)]; exact h.hwh, by rw [um_ne (ne h.hw)]; exact h.hw, by rw [um_ne (ne h.hr)]; exact h.hr, by rw [um_ne (ne h.hu)]; exact h.hu, um_same, h.n1, h.n2, h.n3, h.n4⟩
theorem WSt.rule {M : MH} {p wh wd dr du f : Addr} {rel : List (Str × Int)} {W : List (Str × Rul)} {F : List (Str × List Val)} (h : WSt M p wh wd dr du f rel W F) (V : List (Str × Rul)) : WSt (Ab.um M du (.dK (kvRu V))) p wh wd dr du f rel V F := by
  obtain ⟨ys, h1, h2⟩ := h.pp
  have np : p ≠ du := fun z => by rw [z, h.hu] at h1; cases h1
  have nf : f ≠ du := fun z => by have := h.hf; rw [z, h.hu] at this; cases this
  exact ⟨⟨ys, by rw [um_ne np]; exact h1, h2⟩, by rw [um_ne h.n3]; exact h.hwh, by rw [um_ne h.n1]; exact h.hw, by rw [um_ne h.n2]; exact h.hr, um_same, by rw [um_ne nf]; exact h.hf, h.n1, h.n2, h.n3, h.n4⟩
theorem nm_good : ∀ j : Nat, j < 9 → goodS ("n" ++ (toString (j : Int) : Str)) = true ∧ goodS ("d" ++ (toString (j : Int) : Str)) = true ∧ (toString (j : Int) : Str).length ≤ 5 := fun j hj => by
  match j, hj with
  | 0, _ => decide +kernel
  | 1, _ => decide +kernel
  | 2, _ => decide +kernel
  | 3, _ => decide +kernel
  | 4, _ => decide +kernel
  | 5, _ => decide +kernel
  | 6, _ => decide +kernel
  | 7, _ => decide +kernel
  | 8, _ => decide +kernel
end
end
section
local macro_rules | `(tactic| walk_at "fl") => `(tactic| with_reducible first | exact sl_r _ | exact sl_f _ | exact sl_u _ | exact sl_n _)
section
variable {w : World} {K : PySem.W.Frag} {mg : Str → Option Value} {base : Heap} {a : AD} {d : FD}
theorem ok_law (T : Txt K mg a d) : FnOk P w K mg base CX0 16 a.law d.law ["_law_script"] (scriptA K) := by
  have G_law_next : FnOk P w K mg base CX0 1 a.law_next d.law_next ["_law_state", "_law_limit"] (conc K A_next) := ok_next T
  have G_law_worth : FnOk P w K mg base CX0 2 a.law_worth d.law_worth ["_law_state"] (conc K A_worth) := ok_worth T
  have G_State___init__ := ok_init (w := w) (base := base) T
  have S1 := (ok_sameN (w := w) (base := base) T 9)
  have S2 := (ok_sameM (w := w) (base := base) T 7)
  have G_law_same : FnOk P w K mg base CX0 9 a.law_same d.law_same ["_law_actual", "_law_expected"] (conc K (orA (A_sameN 9) (A_sameM 7))) := fn_or S1 S2
  have G_State_all_items : FnOk P w K mg base CX0 1 a.State_all_items d.State_all_items ["self"] (conc K (A_items a.State)) := ok_items T
  have G_law_widths := ok_widths (w := w) (base := base) T
  have G_law_body := ok_lbody (w := w) (base := base) T
  have G_law_drawn_rule := ok_drawn (w := w) (base := base) T
  have G_is_sound := ok_is_sound (w := w) (base := base) T
  have G_law_is_due := ok_due (w := w) (base := base) T
  refine ab_ok T.F_law sc_law (fun ss M Q ⟨p, xs, e, _⟩ => by subst e; rfl) fun cdv Ar outer s H E hr => ?_
  have hu64 := hr.units
  have hu65 := room65 hr
  refine ⟨_, (pss_cons (ps_set (i := 1) sc_law.nd rfl (Or.inr rfl) (pe_lst (pa_cons (pe_callTy (r := rListS K) call_list_of (by rfl) T.n_list (by decide +kernel) (pa_cons (pv 0) pa_nil)) (pa_cons pe_int (pa_cons pe_int (pa_cons pe_int pa_nil))))))
  (pss_cons (ps_for PassesOwn.never rfl (pi_range1 rfl T.n_range (pa_cons pe_int pa_nil)) (pg_name (i := 2) sc_law.nd rfl (Or.inl rfl)) (pss_cons (ps_set (i := 3) sc_law.nd rfl (Or.inr rfl) (pe_disp (pps_cons pe_str pe_int (pps_cons pe_str pe_int (pps_cons pe_str pe_int pps_nil))) (by rfl) (by rfl) (fun z => by cases z) (by decide)))
  (pss_cons (ps_if (pt_cmpR (r := rEqD K) (op_eqD hu64) (pe_call G_law_next (hr.mono (by omega)) (by rfl) T.g_law_next T.F_law_next.kp T.b_law_next .nil pass0 (pa_cons (pv 1) (pa_cons pe_int pa_nil))) pe_int (nomark _)) (pss_one (ps_expr (pe_dpop1 (pv 3) (pe_ix (r := rIxL K) ix_list (pe_lst (pa_cons pe_str (pa_cons pe_str (pa_cons pe_str pa_nil)))) (pe_call G_law_next (hr.mono (by omega)) (by rfl) T.g_law_next T.F_law_next.kp T.b_law_next .nil pass0 (pa_cons (pv 1) (pa_cons pe_int pa_nil))) (fun _ _ => rfl)) ⟨rfl, rfl, rfl, rfl⟩))) pss_nil)
  (pss_cons (ps_set (i := 4) sc_law.nd rfl (Or.inr rfl) (pe_disp (pps_cons pe_str (pe_callTy (r := rDictD) call_dictD (by rfl) T.n_dict (by decide +kernel) (pa_cons (pv 3) pa_nil)) (pps_cons pe_str pe_dnewK pps_nil)) (by rfl) (by rfl) (fun z => by cases z) (by decide)))
  (pss_cons (ps_set (i := 5) sc_law.nd rfl (Or.inl rfl) (pe_lst pa_nil))
  (pss_cons (ps_for PassesOwn.never rfl (pi_range1 rfl T.n_range (pa_cons (pe_call G_law_next (hr.mono (by omega)) (by rfl) T.g_law_next T.F_law_next.kp T.b_law_next .nil pass0 (pa_cons (pv 1) (pa_cons pe_int pa_nil))) pa_nil)) (pg_name (i := 6) sc_law.nd rfl (Or.inl rfl)) (pss_cons (ps_set (i := 7) sc_law.nd rfl (Or.inl rfl) (pe_ix (r := rIxL K) ix_list (pe_lst (pa_cons pe_str (pa_cons pe_str (pa_cons pe_str (pa_cons pe_str (pa_cons pe_str pa_nil)))))) (pe_op op_fdiv (pe_call G_law_next (hr.mono (by omega)) (by rfl) T.g_law_next T.F_law_next.kp T.b_law_next .nil pass0 (pa_cons (pv 1) (pa_cons pe_int pa_nil))) pe_int) (fun _ _ => rfl)))
  (pss_cons (ps_set (i := 8) sc_law.nd rfl (Or.inl rfl) (pe_callTy (r := rTupS K) call_tuple_of (by rfl) T.n_tuple (by decide +kernel) (pa_cons (pe_lc (own := [("_law_i", 9)]) rfl sc_law.nd (pi_range1 rfl T.n_range (pa_cons (pe_op op_add (pe_dget2 (hu1 hu64) (pe_disp (pps_cons pe_str pe_int (pps_cons pe_str pe_int pps_nil)) (by rfl) (by rfl) (fun z => by cases z) (by decide)) (pv 7) pe_int ⟨rfl, rfl, rfl, rfl⟩) (pe_callTy (r := rInt1) call_int1 (by rfl) T.n_int (by decide +kernel) (pa_cons (pe_cmpR (r := rEqD K) (op_eqD hu64) (pe_call G_law_next (hr.mono (by omega)) (by rfl) T.g_law_next T.F_law_next.kp T.b_law_next .nil pass0 (pa_cons (pv 1) (pa_cons pe_int pa_nil))) pe_int (nomark _)) pa_nil))) pa_nil)) (blkOk_by (own := [("_law_i", 9)]) (N := ["_law_script", "_law_state", "_law_k", "_law_widths_here", "_law_world", "_law_facts", "_law_j", "_law_name", "_law_row", "_law_i", "_law_denials", "_law_items", "_law_actual", "_law_before"]) (sc := (defScope s_law)) (by decide +kernel)) (fun _ _ _ _ _ => (pg_name (i := 9) sc_law.nd rfl (Or.inl rfl))) (fun _ _ _ _ _ => pts_nil) (fun _ _ _ _ _ => (pe_call G_law_worth (hr.mono (by omega)) (by rfl) T.g_law_worth T.F_law_worth.kp T.b_law_worth .nil pass0 (pa_cons (pv 1) pa_nil)))) pa_nil)))
  (pss_one (ps_if (PW.pt (pw_or (pt_cmp (pc_din (hu1 hu64) (pv 7) (pv 3))) (pw_or1 (pt_cmpR (r := rEqD K) (op_eqD hu64) (pe_call G_law_next (hr.mono (by omega)) (by rfl) T.g_law_next T.F_law_next.kp T.b_law_next .nil pass0 (pa_cons (pv 1) (pa_cons pe_int pa_nil))) pe_int (nomark _))))) (pss_one (ps_expr (pe_bm PySem.F.plainAttrs_list PySem.F.slot_list_append PySem.F.type_list_append mt_append (pv 5) (pa_cons (pe_tup (pa_cons (pv 7) (pa_cons (pv 8) pa_nil))) pa_nil)))) pss_nil)))))
  (pss_cons (ps_for PassesOwn.never rfl (pi_range1 rfl T.n_range (pa_cons (pe_call G_law_next (hr.mono (by omega)) (by rfl) T.g_law_next T.F_law_next.kp T.b_law_next .nil pass0 (pa_cons (pv 1) (pa_cons pe_int pa_nil))) pa_nil)) (pg_name (i := 6) sc_law.nd rfl (Or.inl rfl)) (pss_one (ps_dput (hu1 hu64) (pe_dget (hu1 hu64) (pv 4) pe_str (fun _ _ => rfl)) (pe_op op_add_str pe_str (pe_callTy call_str_int (by rfl) T.n_str (by decide +kernel) (pa_cons (pv 6) pa_nil))) (pe_call G_law_drawn_rule (hr.mono (by omega)) (by rfl) T.g_law_drawn_rule T.F_law_drawn_rule.kp T.b_law_drawn_rule .nil pass0 (pa_cons (pv 1) (pa_cons (pv 3) pa_nil))) rfl)))
  (pss_cons (ps_set (i := 10) sc_law.nd rfl (Or.inr rfl) pe_dnewK)
  (pss_cons (ps_for PassesOwn.never rfl (pi_range1 rfl T.n_range (pa_cons (pe_call G_law_next (hr.mono (by omega)) (by rfl) T.g_law_next T.F_law_next.kp T.b_law_next .nil pass0 (pa_cons (pv 1) (pa_cons pe_int pa_nil))) pa_nil)) (pg_name (i := 6) sc_law.nd rfl (Or.inl rfl)) (pss_one (ps_dput (hu1 hu64) (pv 10) (pe_op op_add_str pe_str (pe_callTy call_str_int (by rfl) T.n_str (by decide +kernel) (pa_cons (pv 6) pa_nil))) (pe_call G_law_body (hr.mono (by omega)) (by rfl) T.g_law_body T.F_law_body.kp T.b_law_body .nil pass0 (pa_cons (pv 1) (pa_cons (pe_call G_law_widths (hr.mono (by omega)) (by rfl) T.g_law_widths T.F_law_widths.kp T.b_law_widths .nil pass0 (pa_cons (pv 4) pa_nil)) (pa_cons (pe_cmpR op_gt (pe_call G_law_next (hr.mono (by omega)) (by rfl) T.g_law_next T.F_law_next.kp T.b_law_next .nil pass0 (pa_cons (pv 1) (pa_cons pe_int pa_nil))) pe_int (nomark _)) (pa_cons pe_int pa_nil))))) rfl)))
  (pss_cons (ps_set (i := 11) sc_law.nd rfl (Or.inl rfl) (pe_op (r := rCatL K) op_catL (pe_lock (pe_lc (own := [("_law_name", 7)]) rfl sc_law.nd (pi_keys (pv 3)) (blkOk_by (own := [("_law_name", 7)]) (N := ["_law_script", "_law_state", "_law_k", "_law_widths_here", "_law_world", "_law_facts", "_law_j", "_law_name", "_law_row", "_law_i", "_law_denials", "_law_items", "_law_actual", "_law_before"]) (sc := (defScope s_law)) (by decide +kernel)) (fun _ _ _ _ _ => (pg_name (i := 7) sc_law.nd rfl (Or.inl rfl))) (fun _ _ _ _ _ => pts_nil) (fun _ _ _ _ _ => (pe_tup (pa_cons pe_str (pa_cons (pv 7) (pa_cons (pe_dget (hu1 hu64) (pv 3) (pv 7) (fun _ _ => rfl)) pa_nil))))))) (pe_lc (own := [("_law_name", 7), ("_law_row", 8)]) rfl sc_law.nd (pi_list (pv 5)) (blkOk_by (own := [("_law_name", 7), ("_law_row", 8)]) (N := ["_law_script", "_law_state", "_law_k", "_law_widths_here", "_law_world", "_law_facts", "_law_j", "_law_name", "_law_row", "_law_i", "_law_denials", "_law_items", "_law_actual", "_law_before"]) (sc := (defScope s_law)) (by decide +kernel)) (fun _ _ _ _ _ => (pg_tupK (K := K) (n := 2) rfl rfl (pgs_cons (pg_name (i := 7) sc_law.nd rfl (Or.inl rfl)) (pgs_cons (pg_name (i := 8) sc_law.nd rfl (Or.inl rfl)) pgs_nil)))) (fun _ _ _ _ _ => pts_nil) (fun _ _ _ _ _ => (pe_tup (pa_cons pe_str (pa_cons (pv 7) (pa_cons (pv 8) pa_nil))))))))
  (pss_cons (ps_set (i := 11) sc_law.nd rfl (Or.inl rfl) (pe_op (r := rCatL K) op_catL (pv 11) (pe_lock (pe_lc (own := [("_law_name", 7)]) rfl sc_law.nd (pi_keys (pe_dget (hu1 hu64) (pv 4) pe_str (fun _ _ => rfl))) (blkOk_by (own := [("_law_name", 7)]) (N := ["_law_script", "_law_state", "_law_k", "_law_widths_here", "_law_world", "_law_facts", "_law_j", "_law_name", "_law_row", "_law_i", "_law_denials", "_law_items", "_law_actual", "_law_before"]) (sc := (defScope s_law)) (by decide +kernel)) (fun _ _ _ _ _ => (pg_name (i := 7) sc_law.nd rfl (Or.inl rfl))) (fun _ _ _ _ _ => pts_nil) (fun _ _ _ _ _ => (pe_op (r := rCatA K) op_catA (pe_tup (pa_cons pe_str (pa_cons (pv 7) pa_nil))) (pe_dget (hu1 hu64) (pe_dget (hu1 hu64) (pv 4) pe_str (fun _ _ => rfl)) (pv 7) (fun _ _ => rfl))))))))
  (pss_cons (ps_set (i := 12) sc_law.nd rfl (Or.inl rfl) (pe_make T.mk_State G_State___init__ (hr.mono (by omega)) (by rfl) T.g_State T.b_State___init__ .nil pass0 (pa_cons (pe_op (r := rCatL K) op_catL (pv 11) (pe_lock (pe_lc (own := [("_law_name", 7)]) rfl sc_law.nd (pi_keys (pv 10)) (blkOk_by (own := [("_law_name", 7)]) (N := ["_law_script", "_law_state", "_law_k", "_law_widths_here", "_law_world", "_law_facts", "_law_j", "_law_name", "_law_row", "_law_i", "_law_denials", "_law_items", "_law_actual", "_law_before"]) (sc := (defScope s_law)) (by decide +kernel)) (fun _ _ _ _ _ => (pg_name (i := 7) sc_law.nd rfl (Or.inl rfl))) (fun _ _ _ _ _ => pts_nil) (fun _ _ _ _ _ => (pe_tup (pa_cons pe_str (pa_cons (pv 7) (pa_cons (pe_dget (hu1 hu64) (pv 10) (pv 7) (fun _ _ => rfl)) pa_nil)))))))) pa_nil)))
  (pss_cons (ps_set (i := 13) sc_law.nd rfl (Or.inl rfl) (pe_meth0 (pv 12) T.cl_State T.m_State_all_items G_State_all_items (hr.mono (by omega)) T.b_State_all_items .nil pass0))
  (pss_one (ps_if (PW.pt (pw_or (pt_not (pt_val (pe_call G_law_same (hr.mono (by omega)) (by rfl) T.g_law_same T.F_law_same.kp T.b_law_same .nil pass0 (pa_cons (pe_call G_is_sound (hr.mono (by omega)) (by rfl) T.g_is_sound T.F_is_sound.kp T.b_is_sound .nil pass0 (pa_cons (pv 12) pa_nil)) (pa_cons (pe_call G_law_is_due (hr.mono (by omega)) (by rfl) T.g_law_is_due T.F_law_is_due.kp T.b_law_is_due .nil pass0 (pa_cons (pv 4) (pa_cons (pv 5) (pa_cons (pv 10) pa_nil)))) pa_nil))))) (pw_or1 (pt_not (pt_val (pe_call G_law_same (hr.mono (by omega)) (by rfl) T.g_law_same T.F_law_same.kp T.b_law_same .nil pass0 (pa_cons (pe_meth0 (pv 12) T.cl_State T.m_State_all_items G_State_all_items (hr.mono (by omega)) T.b_State_all_items .nil pass0) (pa_cons (pv 13) pa_nil)))))))) (pss_one (ps_ret pe_bl)) pss_nil)))))))))))))))
  (pss_one (ps_ret pe_bl)))), ?_⟩
  rintro ss M Q ⟨sc, ns, rfl, hl, hb, hs, q⟩
  walk_at "k"
  show WS K _ [some sc, none, none, none, none, none, none, none, none, none, none, none, none, none] M _
  refine ws_seq (ws_set (w_lstM ?_))
  walk_at "g"
  refine wl_list (.inl (hs M)) ?_
  walk_at "g"
  intro p hp
  have hD : DrawL [.dat (.list (ns.map .int)), .int 0, .int 0, .int 1] := ⟨ns, 0, 0, 1, rfl, by decide⟩
  refine ws_seq (ws_forRn (wa_cons (w_int (wa_nil ⟨3, rfl, by decide, by decide, fun k ρ' M' => (∃ z2 z3 z4 z5 z6 z7 z8 z9 z10 z11 z12 z13, ρ' = [some sc, some (.raw (.ref p)), z2, z3, z4, z5, z6, z7, z8, z9, z10, z11, z12, z13]) ∧ ∃ ys, M' p = some (.lst ys) ∧ DrawL ys, ⟨⟨_, _, _, _, _, _, _, _, _, _, _, _, rfl⟩, _, um_same, hD⟩, fun k ρ' M' hk hJ => ?_, fun ρ' M' hJ => ?_⟩))))
  · clear hp hD
    obtain ⟨⟨z2, z3, z4, z5, z6, z7, z8, z9, z10, z11, z12, z13, rfl⟩, ys, hp1, hD1⟩ := hJ
    refine wg_name ?_
    refine ws_mid (fun ρ' N => ∃ wh ys, ρ' = [some sc, some (.raw (.ref p)), some (.int (k : Int)), some (.raw (.ref wh)), z4, z5, z6, z7, z8, z9, z10, z11, z12, z13] ∧ N p = some (.lst ys) ∧ DrawL ys ∧ N wh = some (.dK (kvW rel3))) ?_ ?_
    · refine ws_set (w_disp fun wh hwh => wps_cons (w_str (w_int (wps_cons (w_str (w_int (wps_cons (w_str (w_int ?_)))))))))
      have pw : p ≠ wh := fun z => by rw [z, hwh] at hp1; cases hp1
      refine wps_nil ⟨um_same, [(.inr "p", .int 2), (.inr "q", .int 1), (.inr "r", .int 2)], rfl, by simp, ?_⟩
      have em : mergeG [] [((.inr "p" : Key), Sl.int 2), (.inr "q", .int 1), (.inr "r", .int 2)] = kvW rel3 := by kernel_rfl
      rw [em]
      exact ⟨wh, ys, rfl, by rw [um_ne pw, um_ne pw]; exact hp1, hD1, um_same⟩
    clear hp1 hD1
    rintro ρ' N ⟨wh, ys, rfl, hp1, hD1, hwh⟩
    have pw : p ≠ wh := fun z => by rw [z, hwh] at hp1; cases hp1
    refine ws_mid (fun ρ' N => ∃ rel ys, ρ' = [some sc, some (.raw (.ref p)), some (.int (k : Int)), some (.raw (.ref wh)), z4, z5, z6, z7, z8, z9, z10, z11, z12, z13] ∧ N p = some (.lst ys) ∧ DrawL ys ∧ N wh = some (.dK (kvW rel)) ∧ RelOk rel) ?_ ?_
    · walk_at "g"
      refine ⟨p, 4, ys, rfl, hp1, hD1, by decide, by decide, fun v us v0 v1 hD2 => ?_⟩
      walk_at "g"
      have hw2 : Ab.um N p (.lst us) wh = some (.dK (kvW rel3)) := by rw [um_ne pw.symm]; exact hwh
      refine ite_d (fun h => ?_) (fun h => ?_)
      · refine ws_drop (w_dpop1 (w_var rfl ⟨wh, rfl, ⟨_, hw2⟩, ?_⟩))
        walk_at "g"
        refine ⟨p, 3, us, rfl, um_same, hD2, by decide, by decide, fun v2 vs w0 w1 hD3 => ?_⟩
        rw [um_um]
        walk_at "g"
        intro d hd
        obtain ⟨nm, rfl, hnm⟩ : ∃ nm : Str, d = .str nm ∧ nm ∈ [("p" : Str), "q", "r"] := by
          simp only [List.mem_cons, List.not_mem_nil, or_false] at hd
          rcases hd with rfl | rfl | rfl <;> exact ⟨_, rfl, by simp⟩
        obtain ⟨ro, kk, hk2⟩ := rel2_ok nm hnm
        refine ⟨kvW rel3, .inr nm, _, by rw [um_ne pw.symm]; exact hwh, rfl, kvW_at hk2, ?_⟩
        have ed : dropG (kvW rel3) (.inr nm) = kvW (dropG rel3 nm) := dropG_inr (fun i : Int => Sl.int i) nm rel3
        rw [ed]
        exact ⟨_, vs, rfl, by rw [um_ne pw, um_same], hD3, um_same, ro⟩
      · walk_at "f"
        exact ⟨rel3, us, rfl, um_same, hD2, hw2, rel3_ok⟩
    clear hp1 hD1 hwh
    rintro ρ' N ⟨rel, ys, rfl, hp1, hD1, hwh, hR⟩
    refine ws_mid (fun ρ' N => ∃ wd dr du, ρ' = [some sc, some (.raw (.ref p)), some (.int (k : Int)), some (.raw (.ref wh)), some (.raw (.ref wd)), z5, z6, z7, z8, z9, z10, z11, z12, z13] ∧ N p = some (.lst ys) ∧ N wh = some (.dK (kvW rel)) ∧ N wd = some (.dK (kwW dr du)) ∧ N dr = some (.dK (kvW rel)) ∧ N du = some (.dK (kvRu [])) ∧ wd ≠ du ∧ dr ≠ du ∧ wh ≠ du) ?_ ?_
    · refine ws_set (w_disp fun wd hwd => wps_cons (w_str (w_cb (wa_cons (w_var rfl ?_)))))
      have f1 : p ≠ wd := fun z => by rw [z, hwd] at hp1; cases hp1
      have f2 : wh ≠ wd := fun z => by rw [z, hwd] at hwh; cases hwh
      refine wa_nil (wl_dict (dcv_ref (by rw [um_ne f2]; exact hwh)) fun dr hdr => ?_)
      have f3 : p ≠ dr := fun z => by rw [← z, um_ne f1, hp1] at hdr; cases hdr
      have f4 : wh ≠ dr := fun z => by rw [← z, um_ne f2, hwh] at hdr; cases hdr
      have f5 : wd ≠ dr := fun z => by rw [← z, um_same] at hdr; cases hdr
      refine wps_cons (w_str (w_dnew fun du hdu => wps_nil ?_))
      have f6 : p ≠ du := fun z => by rw [← z, um_ne f3, um_ne f1, hp1] at hdu; cases hdu
      have f7 : wh ≠ du := fun z => by rw [← z, um_ne f4, um_ne f2, hwh] at hdu; cases hdu
      have f8 : wd ≠ du := fun z => by rw [← z, um_ne f5, um_same] at hdu; cases hdu
      have f9 : dr ≠ du := fun z => by rw [← z, um_same] at hdu; cases hdu
      refine ⟨by rw [um_ne f8, um_ne f5, um_same], [(.inr "relations", .raw (.ref dr)), (.inr "rules", .raw (.ref du))], rfl, by simp, ?_⟩
      exact ⟨wd, dr, du, rfl, by rw [um_ne f1, um_ne f6, um_ne f3, um_ne f1]; exact hp1, by rw [um_ne f2, um_ne f7, um_ne f4, um_ne f2]; exact hwh, by rw [um_same]; kernel_rfl, by rw [um_ne f5.symm, um_ne f9, um_same], by rw [um_ne f8.symm, um_same]; rfl, f8, f9, f7⟩
    clear hp1 hwh
    rintro ρ' N ⟨wd, dr, du, rfl, hp1, hwh, hwd, hdr, hdu, n1, n2, n3⟩
    refine ws_seq (ws_set (w_lstM (wa_nil ⟨by decide, fun f hf => ?_⟩)))
    have L : WSt (Ab.um N f (.lst [])) p wh wd dr du f rel [] [] := by
      have ne : ∀ {x : Addr} {u : MO}, N x = some u → x ≠ f := fun hx z => by rw [z, hf] at hx; cases hx
      exact ⟨⟨ys, by rw [um_ne (ne hp1)]; exact hp1, hD1⟩, by rw [um_ne (ne hwh)]; exact hwh, by rw [um_ne (ne hwd)]; exact hwd, by rw [um_ne (ne hdr)]; exact hdr, by rw [um_ne (ne hdu)]; exact hdu, um_same, n1, n2, n3, (ne hp1).symm⟩
    generalize Ab.um N f (.lst []) = N1 at L
    clear hp1 hwh hwd hdr hdu n1 n2 n3 hf hD1 pw
    refine ws_mid (fun ρ' N => ∃ F z6 z7 z8 z9, ρ' = [some sc, some (.raw (.ref p)), some (.int (k : Int)), some (.raw (.ref wh)), some (.raw (.ref wd)), some (.raw (.ref f)), z6, z7, z8, z9, z10, z11, z12, z13] ∧ FOk F 6 ∧ WSt N p wh wd dr du f rel [] F) ?_ ?_
    · refine ws_forRn ?_
      walk_at "g"
      obtain ⟨ys, hp1, hD1⟩ := L.pp
      refine ⟨p, 7, ys, rfl, hp1, hD1, by decide, by decide, fun v us v0 v1 hD2 => ?_⟩
      refine wa_nil ⟨v, rfl, Int.le_trans (b := 0) (by decide) v0, Int.lt_trans (b := 100) (by omega) (by decide), fun i ρ' N => ∃ F z6 z7 z8 z9, ρ' = [some sc, some (.raw (.ref p)), some (.int (k : Int)), some (.raw (.ref wh)), some (.raw (.ref wd)), some (.raw (.ref f)), z6, z7, z8, z9, z10, z11, z12, z13] ∧ FOk F i ∧ WSt N p wh wd dr du f rel [] F, ⟨[], _, _, _, _, rfl, ⟨Nat.le_refl _, fun _ h => nomatch h⟩, L.osT (OSt.drawN hD2)⟩, fun i ρ' N hi hJ => ?_, fun ρ' N hJ => ?_⟩
      · clear L hp1 hD1 hD2
        obtain ⟨F, z6, z7, z8, z9, rfl, hF, L⟩ := hJ
        refine wg_name ?_
        refine ws_mid (fun ρ' N => ∃ nm, ρ' = [some sc, some (.raw (.ref p)), some (.int (k : Int)), some (.raw (.ref wh)), some (.raw (.ref wd)), some (.raw (.ref f)), some (.int (i : Int)), some (.str nm), z8, z9, z10, z11, z12, z13] ∧ goodS nm = true ∧ WSt N p wh wd dr du f rel [] F) ?_ ?_
        · walk_at "g"
          obtain ⟨ys, hp1, hD1⟩ := L.pp
          refine ⟨p, 40, ys, rfl, hp1, hD1, by decide, by decide, fun v us v0 v1 hD2 => ?_⟩
          walk_at "g"
          intro d hd
          obtain ⟨nm, rfl, hnm⟩ : ∃ nm : Str, d = .str nm ∧ nm ∈ [("p" : Str), "q", "r", "u", "none"] := by
            simp only [List.mem_cons, List.not_mem_nil, or_false] at hd
            rcases hd with rfl | rfl | rfl | rfl | rfl <;> exact ⟨_, rfl, by simp⟩
          exact ⟨nm, rfl, (by decide +kernel : ∀ z ∈ [("p" : Str), "q", "r", "u", "none"], goodS z = true) nm hnm, L.osT (OSt.drawN hD2)⟩
        clear L
        rintro ρ' N ⟨nm, rfl, gnm, L⟩
        refine ws_mid (fun ρ' N => ∃ row, ρ' = [some sc, some (.raw (.ref p)), some (.int (k : Int)), some (.raw (.ref wh)), some (.raw (.ref wd)), some (.raw (.ref f)), some (.int (i : Int)), some (.str nm), some (.dat (encR row)), z9, z10, z11, z12, z13] ∧ okR row ∧ row ≠ [] ∧ row.length ≤ 3 ∧ WSt N p wh wd dr du f rel [] F) ?_ ?_
        · refine ws_set (w_cb (wa_cons (w_lcGen (p := p) (by decide) (fun d => isVal d = true) ?_)))
          refine wa_cons (w_op (w_dget2 (w_disp fun q2 hq2 => wps_cons (w_str (w_int (wps_cons (w_str (w_int (wps_nil ⟨um_same, [(.inr "p", .int 2), (.inr "r", .int 2)], rfl, by simp, ?_⟩)))))))))
          rw [um_um]
          have em : mergeG [] [((.inr "p" : Key), Sl.int 2), (.inr "r", .int 2)] = kvW [("p", 2), ("r", 2)] := by kernel_rfl
          rw [em]
          have L2 : WSt (Ab.um N q2 (.dK (kvW [("p", 2), ("r", 2)]))) p wh wd dr du f rel [] F := L.ext fun b u hb => by rw [um_ne fun z => by rw [z, hq2] at hb; cases hb]; exact hb
          refine ⟨⟨_, dcv_ref um_same⟩, w_var rfl (w_int ⟨kvW [("p", 2), ("r", 2)], .inr nm, dcv_ref um_same, rfl, ?_⟩)⟩
          obtain ⟨kk, ek, k0, k1⟩ : ∃ k : Int, (valG (kvW [("p", 2), ("r", 2)]) (.inr nm)).getD (.int 1) = .int k ∧ 1 ≤ k ∧ k ≤ 2 := by
            cases e : valG [(("p" : Str), (2 : Int)), ("r", 2)] nm with
            | none => rw [kvW_none e]; exact ⟨1, rfl, by decide, by decide⟩
            | some k =>
              rw [kvW_at e]
              have := valG_mem e
              simp only [List.mem_cons, List.not_mem_nil, or_false, Prod.mk.injEq] at this
              exact ⟨k, rfl, by omega, by omega⟩
          rw [ek]
          generalize Ab.um N q2 (.dK (kvW [("p", 2), ("r", 2)])) = N2 at L2
          obtain ⟨ys, hp1, hD1⟩ := L2.pp
          walk_at "g"
          refine ⟨p, 20, ys, rfl, hp1, hD1, by decide, by decide, fun v us v0 v1 hD2 => ?_⟩
          walk_at "g"
          refine ⟨_, N2, us, rfl, rfl, hD2, by split <;> omega, by split <;> omega, fun i M2 us hi hu => ?_, fun ds us hu hl hP => ?_⟩
          · walk_at "g"
            exact a_gen0 hu rfl fun d zs hP hD => ⟨d, zs, rfl, rfl, hD, hP⟩
          · obtain ⟨row, rfl, hrow⟩ := list_enc fun d hd => isVal_of (hP d hd)
            rw [List.length_map] at hl
            have hl3 : 1 ≤ row.length ∧ row.length ≤ 3 := by
              rw [hl]
              constructor <;> split <;> omega
            refine wa_nil (wl_tuple lsv_dat ?_)
            exact ⟨row, rfl, ⟨by omega, hrow⟩, fun e => (by rw [e] at hl3; exact absurd hl3.1 (by decide)), hl3.2, L2.osT (OSt.drawN hu)⟩
        clear L
        rintro ρ' N ⟨row, rfl, hrow, hne, hrl, L⟩
        have hF2 : FOk (F ++ [(nm, row)]) (i + 1) := ⟨by rw [List.length_append]; have := hF.l; simp; omega, fun p hp => (List.mem_append.mp hp).elim (hF.g p) fun h => by rw [List.mem_singleton.mp h]; exact ⟨⟨gnm, hrow, hne⟩, by show row.length ≤ 1000; omega⟩⟩
        have hF3 : FOk F (i + 1) := ⟨Nat.le_succ_of_le hF.l, hF.g⟩
        have hfl := hF.l
        have app : ∀ {N : MH}, WSt N p wh wd dr du f rel [] F → Ab.um N f (.lst ((F.map fun p => Sl.dat (encF p)) ++ [.dat (.tuple [.str nm, encR row])])) = Ab.um N f (.lst ((F ++ [(nm, row)]).map fun p => Sl.dat (encF p))) := fun L => by rw [List.map_append]; rfl
        refine ws_if (wt_or (wt_B (w_din (w_var rfl (w_var rfl ⟨kvW rel, .inr nm, dcv_ref L.hwh, rfl, _, rfl, ?_⟩)))))
        cases hin : (valG (kvW rel) (.inr nm)).isSome with
        | true =>
          rw [if_pos rfl, if_pos rfl]
          refine ws_drop (w_bm (w_var rfl ⟨ty_lst (lsv_ref L.hf), wa_cons (w_tupD (wa_cons (w_var rfl (wa_cons (w_var rfl (wa_nil ⟨_, rfl, by simp, wa_nil (wm_append L.hf (by rw [List.length_map]; omega) ?_)⟩))))))⟩))
          rw [app L]
          exact ⟨_, _, _, _, _, rfl, hF2, L.fact _⟩
        | false =>
          rw [if_neg (by decide)]
          walk_at "g"
          obtain ⟨ys, hp1, hD1⟩ := L.pp
          refine ⟨p, 4, ys, rfl, hp1, hD1, by decide, by decide, fun v us v0 v1 hD2 => ?_⟩
          have L2 := L.osT (OSt.drawN hD2)
          walk_at "g"
          refine ite_d (fun h => ?_) (fun h => ?_)
          · refine ws_drop (w_bm (w_var rfl ⟨ty_lst (lsv_ref L2.hf), wa_cons (w_tupD (wa_cons (w_var rfl (wa_cons (w_var rfl (wa_nil ⟨_, rfl, by simp, wa_nil (wm_append L2.hf (by rw [List.length_map]; omega) ?_)⟩))))))⟩))
            rw [app L2]
            exact ⟨_, _, _, _, _, rfl, hF2, L2.fact _⟩
          · walk_at "f"
            exact ⟨F, _, _, _, _, rfl, hF3, L2⟩
      · obtain ⟨F, z6, z7, z8, z9, rfl, hF, L⟩ := hJ
        exact ⟨F, _, _, _, _, rfl, ⟨by have := hF.l; omega, hF.g⟩, L⟩
    clear L
    rintro ρ' N ⟨F, z6, z7, z8, z9, rfl, hF, L⟩
    refine ws_mid (fun ρ' N => ∃ W z6, ρ' = [some sc, some (.raw (.ref p)), some (.int (k : Int)), some (.raw (.ref wh)), some (.raw (.ref wd)), some (.raw (.ref f)), z6, z7, z8, z9, z10, z11, z12, z13] ∧ WOk2 W 4 ∧ WSt N p wh wd dr du f rel W F) ?_ ?_
    · refine ws_forRn ?_
      walk_at "g"
      obtain ⟨ys, hp1, hD1⟩ := L.pp
      refine ⟨p, 5, ys, rfl, hp1, hD1, by decide, by decide, fun v us v0 v1 hD2 => ?_⟩
      refine wa_nil ⟨v, rfl, Int.le_trans (b := 0) (by decide) v0, Int.lt_trans (b := 100) (by omega) (by decide), fun i ρ' N => ∃ W z6, ρ' = [some sc, some (.raw (.ref p)), some (.int (k : Int)), some (.raw (.ref wh)), some (.raw (.ref wd)), some (.raw (.ref f)), z6, z7, z8, z9, z10, z11, z12, z13] ∧ WOk2 W i ∧ WSt N p wh wd dr du f rel W F, ⟨[], _, rfl, ⟨List.nodup_nil, Nat.le_refl _, fun _ h => nomatch h⟩, L.osT (OSt.drawN hD2)⟩, fun i ρ' N hi hJ => ?_, fun ρ' N hJ => ?_⟩
      · clear L hp1 hD1 hD2
        obtain ⟨W, z6, rfl, hW, L⟩ := hJ
        refine wg_name ?_
        obtain ⟨ys, hp1, hD1⟩ := L.pp
        have hrl := hR.l
        have oW : okW rel := ⟨fun p hp => ⟨(hR.g p hp).1, (hR.g p hp).2.1, Int.le_trans (hR.g p hp).2.2 (by decide)⟩, by omega, hR.ne⟩
        obtain ⟨ng, _, nl⟩ := nm_good i (by omega)
        refine ws_dput (w_call (wa_cons (w_var rfl (wa_cons (w_var rfl (wa_nil ⟨p, wh, rel, ys, rfl, hp1, hD1, L.hwh, oW, by omega, fun N2 r ts b us hr0 hts tsl hb hbl hO => ?_⟩))))))
        have L2 := L.osT hO
        have hwl := hW.l
        refine w_dget (w_var rfl (w_str ⟨_, .inr "rules", _, dcv_ref L2.hw, rfl, rfl, ?_⟩))
        refine w_op (w_str (w_cb (wa_cons (w_var rfl (wa_nil (wl_strI ?_ (w2_addS (Nat.le_trans (Nat.add_le_add_left nl _) (by decide +kernel)) ?_))))))) 
        · have h9 : (i : Int).natAbs < 9 := by omega
          have : (i : Int).natAbs.log2 ≤ (i : Int).natAbs := Nat.log2_le_self _
          omega
        refine ⟨du, kvRu W, .inr ("n" ++ (toString (i : Int) : Str)), rfl, rfl, L2.hu, by rw [List.length_map]; omega, ?_⟩
        have eput : putG (kvRu W) (.inr ("n" ++ (toString (i : Int) : Str))) (.dat (.tuple [.str r, encT ts, encB b])) = kvRu (putG W ("n" ++ (toString (i : Int) : Str)) ⟨r, ts, b⟩) := putG_inr (fun u : Rul => Sl.dat u.enc) _ ⟨r, ts, b⟩ W
        rw [eput]
        exact ⟨_, _, rfl, hW.put (u := ⟨r, ts, b⟩) ⟨ng, drRel_good r hr0, hts, hb⟩ tsl hbl, L2.rule _⟩
      · obtain ⟨W, z6, rfl, hW, L⟩ := hJ
        exact ⟨W, _, rfl, hW.mono (by omega), L⟩
    clear L z6
    rintro ρ' N ⟨W, z6, rfl, hW, L⟩
    refine ws_seq (ws_set (w_dnew fun q0 hq0 => ?_))
    have L2 : WSt (Ab.um N q0 (.dK [])) p wh wd dr du f rel W F := L.ext fun b u hb => by rw [um_ne fun z => by rw [z, hq0] at hb; cases hb]; exact hb
    have nq : ∀ {x : Addr} {u : MO}, N x = some u → q0 ≠ x := fun hx z => by rw [← z, hq0] at hx; cases hx
    have q1 := nq L.hwh
    have q2 := nq L.hw
    have q3 := nq L.hr
    have q4 := nq L.hu
    have q5 := nq L.hf
    have q6 : q0 ≠ p := by obtain ⟨ys, hp1, _⟩ := L.pp; exact nq hp1
    have hqq : Ab.um N q0 (.dK []) q0 = some (.dK (kvDe [])) := um_same
    generalize Ab.um N q0 (.dK []) = N2 at L2 hqq
    clear L hq0 nq
    have oWi := widths_okN hR hW (by decide)
    have hrl := hR.l
    have hwl := hW.l
    refine ws_mid (fun ρ' N => ∃ D z6, ρ' = [some sc, some (.raw (.ref p)), some (.int (k : Int)), some (.raw (.ref wh)), some (.raw (.ref wd)), some (.raw (.ref f)), z6, z7, z8, z9, some (.raw (.ref q0)), z11, z12, z13] ∧ DOk2 D 2 ∧ N q0 = some (.dK (kvDe D)) ∧ WSt N p wh wd dr du f rel W F) ?_ ?_
    · refine ws_forRn ?_
      walk_at "g"
      obtain ⟨ys, hp1, hD1⟩ := L2.pp
      refine ⟨p, 3, ys, rfl, hp1, hD1, by decide, by decide, fun v us v0 v1 hD2 => ?_⟩
      refine wa_nil ⟨v, rfl, Int.le_trans (b := 0) (by decide) v0, Int.lt_trans (b := 100) (by omega) (by decide), fun i ρ' N => ∃ D z6, ρ' = [some sc, some (.raw (.ref p)), some (.int (k : Int)), some (.raw (.ref wh)), some (.raw (.ref wd)), some (.raw (.ref f)), z6, z7, z8, z9, some (.raw (.ref q0)), z11, z12, z13] ∧ DOk2 D i ∧ N q0 = some (.dK (kvDe D)) ∧ WSt N p wh wd dr du f rel W F, ⟨[], _, rfl, ⟨List.nodup_nil, Nat.le_refl _, fun _ h => nomatch h⟩, by rw [um_ne q6]; exact hqq, L2.osT (OSt.drawN hD2)⟩, fun i ρ' N hi hJ => ?_, fun ρ' N hJ => ?_⟩
      · clear L2 hp1 hD1 hD2 hqq
        obtain ⟨D, z6, rfl, hD, hqq, L⟩ := hJ
        refine wg_name ?_
        obtain ⟨_, ng, nl⟩ := nm_good i (by omega)
        refine ws_dput (w_call (wa_cons (w_var rfl (wa_cons (w_call (wa_cons (w_var rfl (wa_nil ⟨wd, dr, du, _, rel, W, rfl, L.hw, rfl, rfl, L.hr, L.hu, L.n1, hW.nd, by omega, by omega, fun q9 hq9 => ?_⟩)))))))) 
        have L3 : WSt (Ab.um N q9 (.dK (kvW (widthsF rel W)))) p wh wd dr du f rel W F := L.ext fun b u hb => by rw [um_ne fun z => by rw [z, hq9] at hb; cases hb]; exact hb
        have hq3 : Ab.um N q9 (.dK (kvW (widthsF rel W))) q0 = some (.dK (kvDe D)) := by rw [um_ne fun z => by rw [← z, hqq] at hq9; cases hq9]; exact hqq
        have hq4 : Ab.um N q9 (.dK (kvW (widthsF rel W))) q9 = some (.dK (kvW (widthsF rel W))) := um_same
        have q9q : q9 ≠ q0 := fun z => by rw [z, hqq] at hq9; cases hq9
        generalize Ab.um N q9 (.dK (kvW (widthsF rel W))) = N3 at L3 hq3 hq4
        obtain ⟨ys, hp1, hD1⟩ := L3.pp
        have q9p : q9 ≠ p := fun z => by rw [z, hp1] at hq4; cases hq4
        walk_at "g"
        refine ⟨p, 6, ys, rfl, hp1, hD1, by decide, by decide, fun v2 us w0 w1 hD2 => ?_⟩
        have L4 := L3.osT (OSt.drawN hD2)
        have hq5 : Ab.um N3 p (.lst us) q0 = some (.dK (kvDe D)) := by rw [um_ne q6]; exact hq3
        have hq6 : Ab.um N3 p (.lst us) q9 = some (.dK (kvW (widthsF rel W))) := by rw [um_ne q9p]; exact hq4
        have hp2 : Ab.um N3 p (.lst us) p = some (.lst us) := um_same
        generalize Ab.um N3 p (.lst us) = N4 at L4 hq5 hq6 hp2
        walk_at "g"
        refine ⟨p, q9, us, widthsF rel W, _, 3, rfl, hp2, hD2, hq6, oWi, by decide, by decide, fun b vs hb hbl hD3 => ?_⟩
        have L5 := L4.osT (OSt.drawN hD3)
        have hq7 : Ab.um N4 p (.lst vs) q0 = some (.dK (kvDe D)) := by rw [um_ne q6]; exact hq5
        generalize Ab.um N4 p (.lst vs) = N5 at L5 hq7
        have hdl := hD.l
        refine w_var rfl ?_
        refine w_op (w_str (w_cb (wa_cons (w_var rfl (wa_nil (wl_strI ?_ (w2_addS (Nat.le_trans (Nat.add_le_add_left nl _) (by decide +kernel)) ?_))))))) 
        · have h9 : (i : Int).natAbs < 9 := by omega
          have : (i : Int).natAbs.log2 ≤ (i : Int).natAbs := Nat.log2_le_self _
          omega
        refine ⟨q0, kvDe D, .inr ("d" ++ (toString (i : Int) : Str)), rfl, rfl, hq7, by rw [List.length_map]; omega, ?_⟩
        have eput : putG (kvDe D) (.inr ("d" ++ (toString (i : Int) : Str))) (.dat (encB b)) = kvDe (putG D ("d" ++ (toString (i : Int) : Str)) b) := putG_inr (fun b : List Lit => Sl.dat (encB b)) _ b D
        rw [eput]
        refine ⟨_, _, rfl, hD.put ⟨ng, hb⟩ (by omega), um_same, ?_⟩
        obtain ⟨zs, hz1, hz2⟩ := L5.pp
        exact ⟨⟨zs, by rw [um_ne q6.symm]; exact hz1, hz2⟩, by rw [um_ne q1.symm]; exact L5.hwh, by rw [um_ne q2.symm]; exact L5.hw, by rw [um_ne q3.symm]; exact L5.hr, by rw [um_ne q4.symm]; exact L5.hu, by rw [um_ne q5.symm]; exact L5.hf, L5.n1, L5.n2, L5.n3, L5.n4⟩
      · obtain ⟨D, z6, rfl, hD, hqq, L⟩ := hJ
        exact ⟨D, _, rfl, ⟨hD.nd, by have := hD.l; omega, hD.g⟩, hqq, L⟩
    clear L2 hqq z6
    rintro ρ' N ⟨D, z6, rfl, hDn, hqq, L⟩
    have hfl := hF.l
    have hdl := hDn.l
    have kU : (kvRu W).map (·.1) = (W.map (·.1)).map Sum.inr := by rw [List.map_map, List.map_map]; rfl
    have kN : (kvDe D).map (·.1) = (D.map (·.1)).map Sum.inr := by rw [List.map_map, List.map_map]; rfl
    refine ws_mid (fun ρ' N' => N' = N ∧ ρ' = [some sc, some (.raw (.ref p)), some (.int (k : Int)), some (.raw (.ref wh)), some (.raw (.ref wd)), some (.raw (.ref f)), z6, z7, z8, z9, some (.raw (.ref q0)), some (.dat (.list ((rel.map fun p => (Item.relation p.1 p.2).enc) ++ F.map fun p => (Item.fact p.1 p.2).enc))), z12, z13]) ?_ ?_
    · refine ws_set (w_op (w_lockLc (ns := rel.map (·.1)) (by decide) L.hwh (kvW_keys rel) (by rw [List.length_map]; omega) (fun n => (Item.relation n ((valG rel n).getD 0)).enc) (fun x ⟨od, v, ex⟩ => w_var rfl ⟨rfl, rfl⟩) (fun n D o x ⟨od, v, ex⟩ hn hD ne => ?_) ?_))
      · obtain ⟨kk, hk2⟩ := valG_of hn
        refine w_tupD (wa_cons (w_str (wa_cons (w_var rfl (wa_cons (w_dget (w_var rfl (w_var rfl ⟨kvW rel, .inr n, .int kk, dcv_frz (by rw [um_ne ne.symm, um_same]; exact congrArg some ex), rfl, kvW_at hk2, wa_nil ⟨_, rfl, by simp, ?_, rfl⟩⟩))))))))
        rw [hk2]
        rfl
      · refine w_lcR2 (ea := fun p : Str × List Val => .str p.1) (eb := fun p => encR p.2) (xs := F) (M1 := N) (by decide) (by decide) (w_var rfl ⟨rfl, rfl⟩) L.hf (by omega) (fun p => (Item.fact p.1 p.2).enc) (fun p D o hp hD => ?_) ?_
        · exact w_tupD (wa_cons (w_str (wa_cons (w_var rfl (wa_cons (w_var rfl (wa_nil ⟨_, rfl, by simp, rfl, rfl⟩)))))))
        · refine w2_cat lsv_dat lsv_dat (by rw [List.length_map, List.length_map, List.length_map]; omega) ⟨rfl, ?_⟩
          have e1 : (rel.map (·.1)).map (fun n => (Item.relation n ((valG rel n).getD 0)).enc) = rel.map fun p => (Item.relation p.1 p.2).enc := by
            rw [List.map_map]
            refine List.map_congr_left fun p hp => ?_
            show (Item.relation p.1 ((valG rel p.1).getD 0)).enc = _
            rw [valG_nodup hR.nd (show (p.1, p.2) ∈ rel from hp)]
            rfl
          rw [e1]
          rfl
    rintro ρ' N' ⟨rfl, rfl⟩
    refine ws_mid (fun ρ' N => N = N' ∧ ρ' = [some sc, some (.raw (.ref p)), some (.int (k : Int)), some (.raw (.ref wh)), some (.raw (.ref wd)), some (.raw (.ref f)), z6, z7, z8, z9, some (.raw (.ref q0)), some (.dat (.list (((rel.map fun p => (Item.relation p.1 p.2).enc) ++ F.map fun p => (Item.fact p.1 p.2).enc) ++ W.map fun p => (Item.rule p.1 p.2.rel p.2.hd p.2.b).enc))), z12, z13]) ?_ ?_
    · refine ws_set (w_op (w_var rfl (w_lockLc (ns := W.map (·.1)) (by decide) L.hu kU (by rw [List.length_map]; omega) (fun n => match valG W n with | some u => (Item.rule n u.rel u.hd u.b).enc | none => .none) (fun x ⟨od, v, ex⟩ => ?_) (fun n D o x ⟨od, v, ex⟩ hn hD ne => ?_) ?_)))
      · exact w_dget (w_var rfl (w_str ⟨_, .inr "rules", _, dcv_ref (by rw [um_ne L.n1]; exact L.hw), rfl, rfl, rfl, rfl⟩))
      · have wD : wd ≠ D := fun z => by have := L.hw; rw [z, hD] at this; cases this
        obtain ⟨u, hu⟩ := valG_of hn
        have vu : valG (kvRu W) (.inr n) = some (.dat u.enc) := by
          have := valG_inr (fun u : Rul => Sl.dat u.enc) n W
          rw [hu] at this
          exact this
        refine w_op (w_tupD (wa_cons (w_str (wa_cons (w_var rfl (wa_nil ⟨_, rfl, by simp, w_dget (w_dget (w_var rfl (w_str ⟨_, .inr "rules", _, dcv_ref (by rw [um_ne wD, um_ne L.n1]; exact L.hw), rfl, rfl, w_var rfl ⟨kvRu W, .inr n, _, dcv_frz (by rw [um_ne ne.symm, um_same]; exact congrArg some ex), rfl, vu, ?_⟩⟩)))⟩))))))
        refine w2_catT (by simp) ?_
        rw [hu]
        exact ⟨rfl, rfl⟩
      · refine w2_cat lsv_dat lsv_dat (by rw [List.length_map, List.length_map, List.length_append, List.length_map, List.length_map]; omega) ⟨rfl, ?_⟩
        have e1 : (W.map (·.1)).map (fun n => match valG W n with | some u => (Item.rule n u.rel u.hd u.b).enc | none => .none) = W.map fun p => (Item.rule p.1 p.2.rel p.2.hd p.2.b).enc := by
          rw [List.map_map]
          refine List.map_congr_left fun p hp => ?_
          show (match valG W p.1 with | some u => (Item.rule p.1 u.rel u.hd u.b).enc | none => .none) = _
          rw [valG_nodup hW.nd (show (p.1, p.2) ∈ W from hp)]
        rw [e1]
        rfl
    rintro ρ' N ⟨rfl, rfl⟩
    have eits : (((rel.map fun p => (Item.relation p.1 p.2).enc) ++ F.map fun p => (Item.fact p.1 p.2).enc) ++ W.map fun p => (Item.rule p.1 p.2.rel p.2.hd p.2.b).enc) ++ (D.map fun p => (Item.denial p.1 p.2).enc) = (itsOf rel W F D).map Item.enc := by
      unfold itsOf
      rw [List.map_append, List.map_append, List.map_append, List.map_map, List.map_map, List.map_map, List.map_map]
      rfl
    have hits : ∀ it ∈ itsOf rel W F D, it.ok := fun it hit => by
      rw [mem_itsOf] at hit
      cases it with
      | relation n v => have := hR.g _ hit; exact ⟨this.1, this.2.1, Int.le_trans this.2.2 (by decide)⟩
      | fact n row => exact (hF.g _ hit).1
      | rule n r h b => exact (hW.g _ hit).1
      | denial n b => exact (hDn.g _ hit).1
    have hil : (itsOf rel W F D).length ≤ 19 := by
      unfold itsOf
      rw [List.length_append, List.length_append, List.length_append, List.length_map, List.length_map, List.length_map, List.length_map]
      omega
    have nd : WNd rel W D := ⟨hR.nd, hW.nd, hDn.nd⟩
    have hS := StH.make (k := 19) hits hil (by decide)
    have hm : ∀ it, it ∈ orderd (itsOf rel W F D) ↔ memW rel W F D it := fun it => (orderd_same _ (its_uniq nd) it).trans (mem_itsOf it)
    have hsd := sound_due hS hm nd
    refine ws_mid (fun ρ' N2 => ∃ A, ρ' = [some sc, some (.raw (.ref p)), some (.int (k : Int)), some (.raw (.ref wh)), some (.raw (.ref wd)), some (.raw (.ref f)), z6, z7, z8, z9, some (.raw (.ref q0)), some (.dat (.list (((rel.map fun p => (Item.relation p.1 p.2).enc) ++ F.map fun p => (Item.fact p.1 p.2).enc) ++ W.map fun p => (Item.rule p.1 p.2.rel p.2.hd p.2.b).enc))), some (.raw (.ref (SA.o A))), z13] ∧ SeAt a.State N2 A (puts (itsOf rel W F D)).tidy ∧ ∀ b u, N b = some u → N2 b = some u) ?_ ?_
    · refine ws_set (w_make (wa_cons (w_op (w_var rfl (w_lockLc (ns := D.map (·.1)) (by decide) hqq kN (by rw [List.length_map]; omega) (fun n => (Item.denial n ((valG D n).getD [])).enc) (fun x ⟨od, v, ex⟩ => w_var rfl ⟨rfl, rfl⟩) (fun n DD o x ⟨od, v, ex⟩ hn hD ne => ?_) ?_)))))
      · obtain ⟨b, hb⟩ := valG_of hn
        have vb : valG (kvDe D) (.inr n) = some (.dat (encB b)) := by
          have := valG_inr (fun b : List Lit => Sl.dat (encB b)) n D
          rw [hb] at this
          exact this
        refine w_tupD (wa_cons (w_str (wa_cons (w_var rfl (wa_cons (w_dget (w_var rfl (w_var rfl ⟨kvDe D, .inr n, _, dcv_frz (by rw [um_ne ne.symm, um_same]; exact congrArg some ex), rfl, vb, wa_nil ⟨_, rfl, by simp, ?_, rfl⟩⟩))))))))
        rw [hb]
        rfl
      · refine w2_cat lsv_dat lsv_dat (by rw [List.length_map, List.length_map, List.length_append, List.length_append, List.length_map, List.length_map, List.length_map]; omega) ?_
        have e1 : (D.map (·.1)).map (fun n => (Item.denial n ((valG D n).getD [])).enc) = D.map fun p => (Item.denial p.1 p.2).enc := by
          rw [List.map_map]
          refine List.map_congr_left fun p hp => ?_
          show (Item.denial p.1 ((valG D p.1).getD [])).enc = _
          rw [valG_nodup hDn.nd (show (p.1, p.2) ∈ D from hp)]
          rfl
        rw [e1, eits]
        refine wa_nil fun x dx hx => ?_
        refine .inl ⟨x, dx, _, itsOf rel W F D, rfl, um_same, by have z := lsv_dat (K := K) (M := Ab.um N x (.ins a.State dx [])) (ds := (itsOf rel W F D).map Item.enc); rw [List.map_map] at z; exact z, init_ofN hits (by omega), fun M3 ⟨A, eo, hA, fA⟩ => ⟨rfl, ?_⟩⟩
        subst eo
        have ext : ∀ b u, N b = some u → M3 b = some u := fun b u hb => by
          have nb : b ≠ A.o := fun z => by rw [z, hx] at hb; cases hb
          exact (fA b u (by rw [um_ne nb]; exact hb) nb).1
        exact ⟨A, rfl, hA, ext⟩
    rintro ρ' N2 ⟨A, rfl, hA, e2⟩
    have L2 := L.ext e2
    have hq2 := e2 _ _ hqq
    clear L hqq e2
    generalize hc : (puts (itsOf rel W F D)).tidy = c at hA hS hsd
    generalize hos : orderd (itsOf rel W F D) = os at hS hm
    refine ws_seq (ws_set (w_frz (w_meth (w_var rfl ⟨A.o, A.dx, sfld A, rfl, hA.ho, by kernel_rfl, wa_nil ⟨A, c, rfl, hA, hS.ok, hS.sm, fun N3 p3 hp3 h3 x3 => ⟨p3, c.items.map Item.enc, rfl, by rw [h3, List.map_map]; rfl, ?_⟩⟩⟩))))
    have e4 : ∀ b u, N2 b = some u → Ab.del N3 p3 b = some u := fun b u hb => by
      rw [Ab.del_ne fun z => by rw [z, hp3] at hb; cases hb]
      exact x3 b u hb
    have L4 := L2.ext e4
    have hq4 := e4 _ _ hq2
    have hA4 := hA.ext e4
    clear L2 hq2 hA e4 h3 x3 hp3
    generalize Ab.del N3 p3 = N4 at L4 hq4 hA4
    refine ws_if (wt_or (WT.imp (Q := fun b N5 => b = false ∧ ∀ x u, N4 x = some u → N5 x = some u) ?_ fun bb N5 ⟨eb, x5⟩ => ?_))
    · refine wt_not (wt_B (w_call (wa_cons (w_call (wa_cons (w_var rfl (wa_nil ⟨A, c, os, rfl, hA4, hS, fun N5 b1 e5 hb1 => ?_⟩)))))))
      have L5 := L4.ext e5
      have hq5 := e5 _ _ hq4
      have hWr : RuOk W := ⟨hW.nd, by omega, fun p hp => (hW.g p hp).1.1, fun p hp => (hW.g p hp).1.2.1, fun p hp => (hW.g p hp).1.2.2.2⟩
      refine wa_cons (w_call (wa_cons (w_var rfl (wa_cons (w_var rfl (wa_cons (w_var rfl (wa_nil ⟨wd, f, q0, dr, du, _, rel, W, F, D, rfl, L5.hw, rfl, rfl, L5.hr, L5.hu, L5.n1, L5.n2, L5.hf, fun p hp => ⟨(hF.g p hp).1.1, (hF.g p hp).2⟩, hq5, q2, q3, q4, ⟨hDn.nd, by omega, fun p hp => ⟨(hDn.g p hp).1.1, (hDn.g p hp).1.2, by have := (hDn.g p hp).2; omega⟩⟩, hWr, fun p hp => ⟨(hW.g p hp).1.2.2.1, by have := (hW.g p hp).2.2; omega⟩, by omega, fun N6 b2 e6 hb2 => ?_⟩))))))))
      have eb : b1 = b2 := by
        have := hb1.trans (hsd.trans hb2.symm)
        cases b1 <;> cases b2 <;> simp_all
      subst eb
      refine wa_nil (.inl ⟨.bool b1, rfl, rfl, ⟨_, rfl, rfl, fun x u hx => e6 _ _ (e5 _ _ hx)⟩⟩)
    · subst eb
      rw [if_neg Bool.false_ne_true]
      have hA5 := hA4.ext x5
      have L5 := L4.ext x5
      refine wt_not (wt_B (w_call (wa_cons (w_meth (w_var rfl ⟨A.o, A.dx, sfld A, rfl, hA5.ho, by kernel_rfl, wa_nil ⟨A, c, rfl, hA5, hS.ok, hS.sm, fun N6 p6 hp6 h6 x6 => ?_⟩⟩)))))
      have hsl := hS.l
      refine wa_cons (w_var rfl (wa_nil (.inr ⟨p6, c.items.map Item.enc, rfl, by rw [h6, List.map_map]; rfl, okD_mkL (by rw [List.length_map, hS.it]; omega) (okAll_of fun d hd => ?_), ⟨_, rfl, ?_⟩⟩)))
      · obtain ⟨it, hit2, rfl⟩ := List.mem_map.mp hd
        rw [hS.it] at hit2
        exact Item.okD (n := 2) (hS.its it hit2)
      · walk_at "f"
        obtain ⟨zs, hz1, hz2⟩ := (L5.ext x6).pp
        exact ⟨⟨_, _, _, _, _, _, _, _, _, _, _, _, rfl⟩, zs, hz1, hz2⟩
  · obtain ⟨⟨z2, z3, z4, z5, z6, z7, z8, z9, z10, z11, z12, z13, rfl⟩, ys, hp1, hD1⟩ := hJ
    walk_at "g"
    exact q _
end
end
section
theorem all_mk {w : World} {K : PySem.W.Frag} {h : Heap} {mg : Str → Option Value} {fa cc_State cc_Refused f8  : Addr} (X : K.In h) (G : h.Ns mainGlobals mg) (hfa : mg "law" = some (.ref fa))
    {od8 an8 : Option Addr} {sl8 : Array (Option Value)} {oc8 kV8 dc8 pm8 cd8 ct8 : Value} {t0 : Tok}
    {fI_Refused : Addr} {fd_Refused : FuncData}
    (p0 : Ab.FnG K "value_key" s_value_key)
    (p1 : Ab.FnG K "row_key" s_row_key)
    (p2 : Ab.FnG K "columns" s_columns)
    (p3 : Ab.FnG K "check_atom" s_check_atom)
    (p4 : Ab.FnG K "check_terms" s_check_terms)
    (p5 : Ab.FnG K "variables_of" s_variables_of)
    (p6 : Ab.FnG K "check_literal" s_check_literal)
    (p7 : Ab.FnG K "check_body" s_check_body)
    {dT8 dE8 : Addr} {oT8 oE8 : Obj}
    (a8 : PySem.W.findIn K (.ref cc_State) "__init__" = some (some (.ref f8))) (q8 : PySem.W.isFn K (.ref f8) = true) (l8 : K.lookup f8 = some ⟨oc8, od8, .func (PySem.W.fnOf "__init__" "State.__init__" (defArgs s_State___init__) (defBody s_State___init__) (defScope s_State___init__) (.ref dT8) kV8 dc8 pm8 an8 cd8 ct8), sl8⟩) (c_8 : PySem.W.codeIn K cd8 "State.__init__" = true) (k8 : PySem.W.keepIn K (.ref f8) = true)
    (lT8 : K.lookup dT8 = some oT8) (dTo8 : ∃ n, oT8.data = .seq #[.ref dE8] n) (lE8 : K.lookup dE8 = some oE8) (dEo8 : oE8.cls = .type "tuple" ∧ oE8.dict = none ∧ ∃ n, oE8.data = .seq #[] n)
    (p9 : Ab.MtG K "State" "put" "State.put" s_State_put)
    (p10 : Ab.MtG K "State" "tidy" "State.tidy" s_State_tidy)
    (p11 : Ab.MtG K "State" "all_items" "State.all_items" s_State_all_items)
    (p12 : Ab.MtG K "State" "has" "State.has" s_State_has)
    (p13 : Ab.FnG K "_law_next" s_law_next)
    (p14 : Ab.FnG K "_law_same" s_law_same)
    (p15 : Ab.FnG K "_law_worth" s_law_worth)
    (p16 : Ab.FnG K "_law_variable" s_law_variable)
    (p17 : Ab.FnG K "_law_term" s_law_term)
    (p18 : Ab.FnG K "_law_settled" s_law_settled)
    (p19 : Ab.FnG K "_law_literal" s_law_literal)
    (p20 : Ab.FnG K "_law_binds" s_law_binds)
    (p21 : Ab.FnG K "_law_body" s_law_body)
    (p22 : Ab.FnG K "_law_loose" s_law_loose)
    (p23 : Ab.FnG K "_law_literal_problem" s_law_literal_problem)
    (p24 : Ab.FnG K "_law_body_problem" s_law_body_problem)
    (p25 : Ab.FnG K "_law_each_once" s_law_each_once)
    (p26 : Ab.FnG K "_law_widths" s_law_widths)
    (p27 : Ab.MtG K "State" "take" "State.take" s_State_take)
    (p28 : Ab.MtG K "State" "copy" "State.copy" s_State_copy)
    (p29 : Ab.MtG K "State" "change" "State.change" s_State_change)
    (p30 : Ab.FnG K "relations_of" s_relations_of)
    (p31 : Ab.FnG K "makes" s_makes)
    (p32 : Ab.FnG K "edges" s_edges)
    (p33 : Ab.FnG K "reached" s_reached)
    (p34 : Ab.FnG K "has_ring" s_has_ring)
    (p35 : Ab.FnG K "growing" s_growing)
    (p36 : Ab.FnG K "check_rule" s_check_rule)
    (p37 : Ab.FnG K "_law_relations_of" s_law_relations_of)
    (p38 : Ab.FnG K "_law_reach" s_law_reach)
    (p39 : Ab.FnG K "_law_makes" s_law_makes)
    (p40 : Ab.FnG K "_law_ring" s_law_ring)
    (p41 : Ab.FnG K "_law_growing" s_law_growing)
    (p42 : Ab.FnG K "_law_rule_problem" s_law_rule_problem)
    (p43 : Ab.FnG K "check_denial" s_check_denial)
    (p44 : Ab.FnG K "is_sound" s_is_sound)
    (p45 : Ab.FnG K "_law_is_due" s_law_is_due)
    (p46 : Ab.FnG K "_law_drawn_rule" s_law_drawn_rule)
    (p47 : Ab.FnG K "law" s_law)
    (g_State : PySem.W.nsIn K mainGlobals "State" = some (some (.ref cc_State))) (pg_State : PySem.W.plainGet K cc_State Str.empty = true) (hd_State : PySem.W.hasDictIn K cc_State = true) (po_State : PySem.W.plainOver K cc_State = true) (sa_State : PySem.W.findIn K (.ref cc_State) "__setattr__" = some (some (.builtin "object.__setattr__"))) (mk_State : PySem.W.makesIn K cc_State = true) (kc_State : PySem.W.keepIn K (.ref cc_State) = true)
    (na_State_relations : PySem.W.findIn K (.ref cc_State) "relations" = some none)
    (na_State_facts : PySem.W.findIn K (.ref cc_State) "facts" = some none)
    (na_State_rules : PySem.W.findIn K (.ref cc_State) "rules" = some none)
    (na_State_denials : PySem.W.findIn K (.ref cc_State) "denials" = some none)
    (g_Refused : PySem.W.nsIn K mainGlobals "Refused" = some (some (.ref cc_Refused))) (X_Refused : SupX.ExF P K mg cc_Refused fI_Refused fd_Refused "problem" "problem") (kp_Refused : PySem.W.keepIn K (.ref cc_Refused) = true) (bs_Refused : PySem.W.subIn K (.ref cc_Refused) (.type "BaseException") = some true) (ty_Refused : PySem.W.typeIn K (.ref cc_Refused) = some (.type "type")) (hd_Refused : PySem.W.hasDictIn K cc_Refused = true)
    (s_Refused_Refused : PySem.W.subIn K (.ref cc_Refused) (.ref cc_Refused) = some true)
    (z0 : PySem.W.nsIn K mainGlobals "bool" = some none)
    (z1 : PySem.W.nsIn K mainGlobals "dict" = some none)
    (z2 : PySem.W.nsIn K mainGlobals "int" = some none)
    (z3 : PySem.W.nsIn K mainGlobals "isinstance" = some none)
    (z4 : PySem.W.nsIn K mainGlobals "len" = some none)
    (z5 : PySem.W.nsIn K mainGlobals "list" = some none)
    (z6 : PySem.W.nsIn K mainGlobals "range" = some none)
    (z7 : PySem.W.nsIn K mainGlobals "sorted" = some none)
    (z8 : PySem.W.nsIn K mainGlobals "str" = some none)
    (z9 : PySem.W.nsIn K mainGlobals "tuple" = some none)
    (i0 : PySem.W.nsIn K mainGlobals "MOST_COLUMNS" = some (some (.int 4 t0)))
    : ∃ fd : FuncData, (∀ (s : Shared) (v : Value), BindsTo s fd ⟨[v], []⟩ [("_law_script", v)]) ∧ ∀ base : Heap, K.In base → base.Ns mainGlobals mg → FnOk P w K mg base CX0 16 fa fd ["_law_script"] (Ab.scriptA K) := by
  obtain ⟨f0, oc0, od0, kV0, dc0, pm0, cd0, ct0, an0, sl0, a0, l0, c_0, k0⟩ := p0
  obtain ⟨f1, oc1, od1, kV1, dc1, pm1, cd1, ct1, an1, sl1, a1, l1, c_1, k1⟩ := p1
  obtain ⟨f2, oc2, od2, kV2, dc2, pm2, cd2, ct2, an2, sl2, a2, l2, c_2, k2⟩ := p2
  obtain ⟨f3, oc3, od3, kV3, dc3, pm3, cd3, ct3, an3, sl3, a3, l3, c_3, k3⟩ := p3
  obtain ⟨f4, oc4, od4, kV4, dc4, pm4, cd4, ct4, an4, sl4, a4, l4, c_4, k4⟩ := p4
  obtain ⟨f5, oc5, od5, kV5, dc5, pm5, cd5, ct5, an5, sl5, a5, l5, c_5, k5⟩ := p5
  obtain ⟨f6, oc6, od6, kV6, dc6, pm6, cd6, ct6, an6, sl6, a6, l6, c_6, k6⟩ := p6
  obtain ⟨f7, oc7, od7, kV7, dc7, pm7, cd7, ct7, an7, sl7, a7, l7, c_7, k7⟩ := p7
  obtain ⟨cc9, f9, oc9, od9, kV9, dc9, pm9, cd9, ct9, an9, sl9, cx9, a9, q9, l9, c_9, k9⟩ := p9
  have ce9 := cx9.symm.trans g_State
  cases ce9
  obtain ⟨cc10, f10, oc10, od10, kV10, dc10, pm10, cd10, ct10, an10, sl10, cx10, a10, q10, l10, c_10, k10⟩ := p10
  have ce10 := cx10.symm.trans g_State
  cases ce10
  obtain ⟨cc11, f11, oc11, od11, kV11, dc11, pm11, cd11, ct11, an11, sl11, cx11, a11, q11, l11, c_11, k11⟩ := p11
  have ce11 := cx11.symm.trans g_State
  cases ce11
  obtain ⟨cc12, f12, oc12, od12, kV12, dc12, pm12, cd12, ct12, an12, sl12, cx12, a12, q12, l12, c_12, k12⟩ := p12
  have ce12 := cx12.symm.trans g_State
  cases ce12
  obtain ⟨f13, oc13, od13, kV13, dc13, pm13, cd13, ct13, an13, sl13, a13, l13, c_13, k13⟩ := p13
  obtain ⟨f14, oc14, od14, kV14, dc14, pm14, cd14, ct14, an14, sl14, a14, l14, c_14, k14⟩ := p14
  obtain ⟨f15, oc15, od15, kV15, dc15, pm15, cd15, ct15, an15, sl15, a15, l15, c_15, k15⟩ := p15
  obtain ⟨f16, oc16, od16, kV16, dc16, pm16, cd16, ct16, an16, sl16, a16, l16, c_16, k16⟩ := p16
  obtain ⟨f17, oc17, od17, kV17, dc17, pm17, cd17, ct17, an17, sl17, a17, l17, c_17, k17⟩ := p17
  obtain ⟨f18, oc18, od18, kV18, dc18, pm18, cd18, ct18, an18, sl18, a18, l18, c_18, k18⟩ := p18
  obtain ⟨f19, oc19, od19, kV19, dc19, pm19, cd19, ct19, an19, sl19, a19, l19, c_19, k19⟩ := p19
  obtain ⟨f20, oc20, od20, kV20, dc20, pm20, cd20, ct20, an20, sl20, a20, l20, c_20, k20⟩ := p20
  obtain ⟨f21, oc21, od21, kV21, dc21, pm21, cd21, ct21, an21, sl21, a21, l21, c_21, k21⟩ := p21
  obtain ⟨f22, oc22, od22, kV22, dc22, pm22, cd22, ct22, an22, sl22, a22, l22, c_22, k22⟩ := p22
  obtain ⟨f23, oc23, od23, kV23, dc23, pm23, cd23, ct23, an23, sl23, a23, l23, c_23, k23⟩ := p23
  obtain ⟨f24, oc24, od24, kV24, dc24, pm24, cd24, ct24, an24, sl24, a24, l24, c_24, k24⟩ := p24
  obtain ⟨f25, oc25, od25, kV25, dc25, pm25, cd25, ct25, an25, sl25, a25, l25, c_25, k25⟩ := p25
  obtain ⟨f26, oc26, od26, kV26, dc26, pm26, cd26, ct26, an26, sl26, a26, l26, c_26, k26⟩ := p26
  obtain ⟨cc27, f27, oc27, od27, kV27, dc27, pm27, cd27, ct27, an27, sl27, cx27, a27, q27, l27, c_27, k27⟩ := p27
  have ce27 := cx27.symm.trans g_State
  cases ce27
  obtain ⟨cc28, f28, oc28, od28, kV28, dc28, pm28, cd28, ct28, an28, sl28, cx28, a28, q28, l28, c_28, k28⟩ := p28
  have ce28 := cx28.symm.trans g_State
  cases ce28
  obtain ⟨cc29, f29, oc29, od29, kV29, dc29, pm29, cd29, ct29, an29, sl29, cx29, a29, q29, l29, c_29, k29⟩ := p29
  have ce29 := cx29.symm.trans g_State
  cases ce29
  obtain ⟨f30, oc30, od30, kV30, dc30, pm30, cd30, ct30, an30, sl30, a30, l30, c_30, k30⟩ := p30
  obtain ⟨f31, oc31, od31, kV31, dc31, pm31, cd31, ct31, an31, sl31, a31, l31, c_31, k31⟩ := p31
  obtain ⟨f32, oc32, od32, kV32, dc32, pm32, cd32, ct32, an32, sl32, a32, l32, c_32, k32⟩ := p32
  obtain ⟨f33, oc33, od33, kV33, dc33, pm33, cd33, ct33, an33, sl33, a33, l33, c_33, k33⟩ := p33
  obtain ⟨f34, oc34, od34, kV34, dc34, pm34, cd34, ct34, an34, sl34, a34, l34, c_34, k34⟩ := p34
  obtain ⟨f35, oc35, od35, kV35, dc35, pm35, cd35, ct35, an35, sl35, a35, l35, c_35, k35⟩ := p35
  obtain ⟨f36, oc36, od36, kV36, dc36, pm36, cd36, ct36, an36, sl36, a36, l36, c_36, k36⟩ := p36
  obtain ⟨f37, oc37, od37, kV37, dc37, pm37, cd37, ct37, an37, sl37, a37, l37, c_37, k37⟩ := p37
  obtain ⟨f38, oc38, od38, kV38, dc38, pm38, cd38, ct38, an38, sl38, a38, l38, c_38, k38⟩ := p38
  obtain ⟨f39, oc39, od39, kV39, dc39, pm39, cd39, ct39, an39, sl39, a39, l39, c_39, k39⟩ := p39
  obtain ⟨f40, oc40, od40, kV40, dc40, pm40, cd40, ct40, an40, sl40, a40, l40, c_40, k40⟩ := p40
  obtain ⟨f41, oc41, od41, kV41, dc41, pm41, cd41, ct41, an41, sl41, a41, l41, c_41, k41⟩ := p41
  obtain ⟨f42, oc42, od42, kV42, dc42, pm42, cd42, ct42, an42, sl42, a42, l42, c_42, k42⟩ := p42
  obtain ⟨f43, oc43, od43, kV43, dc43, pm43, cd43, ct43, an43, sl43, a43, l43, c_43, k43⟩ := p43
  obtain ⟨f44, oc44, od44, kV44, dc44, pm44, cd44, ct44, an44, sl44, a44, l44, c_44, k44⟩ := p44
  obtain ⟨f45, oc45, od45, kV45, dc45, pm45, cd45, ct45, an45, sl45, a45, l45, c_45, k45⟩ := p45
  obtain ⟨f46, oc46, od46, kV46, dc46, pm46, cd46, ct46, an46, sl46, a46, l46, c_46, k46⟩ := p46
  obtain ⟨f47, oc47, od47, kV47, dc47, pm47, cd47, ct47, an47, sl47, a47, l47, c_47, k47⟩ := p47
  have e := hfa.symm.trans (PySem.W.mg_of X G a47)
  cases e
  have F0 := fun_mk (st := s_value_key) l0 c_0 k0
  have b0 := F0.binds (ps := ["value"]) fun _ _ _ _ _ _ us hl => match us, hl with | [_], _ => rfl
  have F1 := fun_mk (st := s_row_key) l1 c_1 k1
  have b1 := F1.binds (ps := ["row"]) fun _ _ _ _ _ _ us hl => match us, hl with | [_], _ => rfl
  have F2 := fun_mk (st := s_columns) l2 c_2 k2
  have b2 := F2.binds (ps := ["state", "relation"]) fun _ _ _ _ _ _ us hl => match us, hl with | [_, _], _ => rfl
  have F3 := fun_mk (st := s_check_atom) l3 c_3 k3
  have b3 := F3.binds (ps := ["state", "relation", "terms"]) fun _ _ _ _ _ _ us hl => match us, hl with | [_, _, _], _ => rfl
  have F4 := fun_mk (st := s_check_terms) l4 c_4 k4
  have b4 := F4.binds (ps := ["terms", "known", "lets_any"]) fun _ _ _ _ _ _ us hl => match us, hl with | [_, _, _], _ => rfl
  have F5 := fun_mk (st := s_variables_of) l5 c_5 k5
  have b5 := F5.binds (ps := ["terms"]) fun _ _ _ _ _ _ us hl => match us, hl with | [_], _ => rfl
  have F6 := fun_mk (st := s_check_literal) l6 c_6 k6
  have b6 := F6.binds (ps := ["state", "literal", "known"]) fun _ _ _ _ _ _ us hl => match us, hl with | [_, _, _], _ => rfl
  have F7 := fun_mk (st := s_check_body) l7 c_7 k7
  have b7 := F7.binds (ps := ["state", "body"]) fun _ _ _ _ _ _ us hl => match us, hl with | [_, _], _ => rfl
  obtain ⟨nT8, hT8⟩ := dTo8
  have F8 := fund_mk (st := s_State___init__) l8 c_8 k8 lT8 hT8
  obtain ⟨dsb8, vb8, b8⟩ := F8.binds1 (ps := ["self", "items"]) 2 1 (by simp) rfl fun _ _ _ _ _ _ _ us its h1 h2 => match us, its, h1, h2 with | [_, _], [_], _, _ => ⟨_, rfl, rfl⟩
  rw [vals_nil vb8] at b8
  obtain ⟨dsbd8, vbd8, bd8⟩ := F8.binds1 (ps := ["self", "items"]) 1 0 (by simp) rfl fun _ _ _ _ _ _ _ us its h1 h2 => match us, its, h1, h2 with | [_], [_], _, _ => ⟨_, rfl, rfl⟩
  rw [vals_ref1 vbd8] at bd8
  have F9 := fun_mk (st := s_State_put) l9 c_9 k9
  have b9 := F9.binds (ps := ["self", "item"]) fun _ _ _ _ _ _ us hl => match us, hl with | [_, _], _ => rfl
  have F10 := fun_mk (st := s_State_tidy) l10 c_10 k10
  have b10 := F10.binds (ps := ["self"]) fun _ _ _ _ _ _ us hl => match us, hl with | [_], _ => rfl
  have F11 := fun_mk (st := s_State_all_items) l11 c_11 k11
  have b11 := F11.binds (ps := ["self"]) fun _ _ _ _ _ _ us hl => match us, hl with | [_], _ => rfl
  have F12 := fun_mk (st := s_State_has) l12 c_12 k12
  have b12 := F12.binds (ps := ["self", "relation", "row"]) fun _ _ _ _ _ _ us hl => match us, hl with | [_, _, _], _ => rfl
  have F13 := fun_mk (st := s_law_next) l13 c_13 k13
  have b13 := F13.binds (ps := ["_law_state", "_law_limit"]) fun _ _ _ _ _ _ us hl => match us, hl with | [_, _], _ => rfl
  have F14 := fun_mk (st := s_law_same) l14 c_14 k14
  have b14 := F14.binds (ps := ["_law_actual", "_law_expected"]) fun _ _ _ _ _ _ us hl => match us, hl with | [_, _], _ => rfl
  have F15 := fun_mk (st := s_law_worth) l15 c_15 k15
  have b15 := F15.binds (ps := ["_law_state"]) fun _ _ _ _ _ _ us hl => match us, hl with | [_], _ => rfl
  have F16 := fun_mk (st := s_law_variable) l16 c_16 k16
  have b16 := F16.binds (ps := ["_law_state"]) fun _ _ _ _ _ _ us hl => match us, hl with | [_], _ => rfl
  have F17 := fun_mk (st := s_law_term) l17 c_17 k17
  have b17 := F17.binds (ps := ["_law_state", "_law_bound"]) fun _ _ _ _ _ _ us hl => match us, hl with | [_, _], _ => rfl
  have F18 := fun_mk (st := s_law_settled) l18 c_18 k18
  have b18 := F18.binds (ps := ["_law_term_here", "_law_bound"]) fun _ _ _ _ _ _ us hl => match us, hl with | [_, _], _ => rfl
  have F19 := fun_mk (st := s_law_literal) l19 c_19 k19
  have b19 := F19.binds (ps := ["_law_state", "_law_widths_here", "_law_bound", "_law_careful"]) fun _ _ _ _ _ _ us hl => match us, hl with | [_, _, _, _], _ => rfl
  have F20 := fun_mk (st := s_law_binds) l20 c_20 k20
  have b20 := F20.binds (ps := ["_law_literal_here"]) fun _ _ _ _ _ _ us hl => match us, hl with | [_], _ => rfl
  have F21 := fun_mk (st := s_law_body) l21 c_21 k21
  have b21 := F21.binds (ps := ["_law_state", "_law_widths_here", "_law_careful", "_law_most"]) fun _ _ _ _ _ _ us hl => match us, hl with | [_, _, _, _], _ => rfl
  have F22 := fun_mk (st := s_law_loose) l22 c_22 k22
  have b22 := F22.binds (ps := ["_law_terms", "_law_bound", "_law_lets_any"]) fun _ _ _ _ _ _ us hl => match us, hl with | [_, _, _], _ => rfl
  have F23 := fun_mk (st := s_law_literal_problem) l23 c_23 k23
  have b23 := F23.binds (ps := ["_law_widths_here", "_law_literal_here", "_law_bound"]) fun _ _ _ _ _ _ us hl => match us, hl with | [_, _, _], _ => rfl
  have F24 := fun_mk (st := s_law_body_problem) l24 c_24 k24
  have b24 := F24.binds (ps := ["_law_widths_here", "_law_body_here"]) fun _ _ _ _ _ _ us hl => match us, hl with | [_, _], _ => rfl
  have F25 := fun_mk (st := s_law_each_once) l25 c_25 k25
  have b25 := F25.binds (ps := ["_law_names"]) fun _ _ _ _ _ _ us hl => match us, hl with | [_], _ => rfl
  have F26 := fun_mk (st := s_law_widths) l26 c_26 k26
  have b26 := F26.binds (ps := ["_law_world"]) fun _ _ _ _ _ _ us hl => match us, hl with | [_], _ => rfl
  have F27 := fun_mk (st := s_State_take) l27 c_27 k27
  have b27 := F27.binds (ps := ["self", "key"]) fun _ _ _ _ _ _ us hl => match us, hl with | [_, _], _ => rfl
  have F28 := fun_mk (st := s_State_copy) l28 c_28 k28
  have b28 := F28.binds (ps := ["self"]) fun _ _ _ _ _ _ us hl => match us, hl with | [_], _ => rfl
  have F29 := fun_mk (st := s_State_change) l29 c_29 k29
  have b29 := F29.binds (ps := ["self", "changes"]) fun _ _ _ _ _ _ us hl => match us, hl with | [_, _], _ => rfl
  have F30 := fun_mk (st := s_relations_of) l30 c_30 k30
  have b30 := F30.binds (ps := ["body"]) fun _ _ _ _ _ _ us hl => match us, hl with | [_], _ => rfl
  have F31 := fun_mk (st := s_makes) l31 c_31 k31
  have b31 := F31.binds (ps := ["body"]) fun _ _ _ _ _ _ us hl => match us, hl with | [_], _ => rfl
  have F32 := fun_mk (st := s_edges) l32 c_32 k32
  have b32 := F32.binds (ps := ["state"]) fun _ _ _ _ _ _ us hl => match us, hl with | [_], _ => rfl
  have F33 := fun_mk (st := s_reached) l33 c_33 k33
  have b33 := F33.binds (ps := ["graph", "relation"]) fun _ _ _ _ _ _ us hl => match us, hl with | [_, _], _ => rfl
  have F34 := fun_mk (st := s_has_ring) l34 c_34 k34
  have b34 := F34.binds (ps := ["state"]) fun _ _ _ _ _ _ us hl => match us, hl with | [_], _ => rfl
  have F35 := fun_mk (st := s_growing) l35 c_35 k35
  have b35 := F35.binds (ps := ["state"]) fun _ _ _ _ _ _ us hl => match us, hl with | [_], _ => rfl
  have F36 := fun_mk (st := s_check_rule) l36 c_36 k36
  have b36 := F36.binds (ps := ["state", "name", "relation", "terms", "body"]) fun _ _ _ _ _ _ us hl => match us, hl with | [_, _, _, _, _], _ => rfl
  have F37 := fun_mk (st := s_law_relations_of) l37 c_37 k37
  have b37 := F37.binds (ps := ["_law_body_here"]) fun _ _ _ _ _ _ us hl => match us, hl with | [_], _ => rfl
  have F38 := fun_mk (st := s_law_reach) l38 c_38 k38
  have b38 := F38.binds (ps := ["_law_rules"]) fun _ _ _ _ _ _ us hl => match us, hl with | [_], _ => rfl
  have F39 := fun_mk (st := s_law_makes) l39 c_39 k39
  have b39 := F39.binds (ps := ["_law_body_here"]) fun _ _ _ _ _ _ us hl => match us, hl with | [_], _ => rfl
  have F40 := fun_mk (st := s_law_ring) l40 c_40 k40
  have b40 := F40.binds (ps := ["_law_rules"]) fun _ _ _ _ _ _ us hl => match us, hl with | [_], _ => rfl
  have F41 := fun_mk (st := s_law_growing) l41 c_41 k41
  have b41 := F41.binds (ps := ["_law_rules"]) fun _ _ _ _ _ _ us hl => match us, hl with | [_], _ => rfl
  have F42 := fun_mk (st := s_law_rule_problem) l42 c_42 k42
  have b42 := F42.binds (ps := ["_law_world", "_law_name", "_law_relation", "_law_terms", "_law_body_here"]) fun _ _ _ _ _ _ us hl => match us, hl with | [_, _, _, _, _], _ => rfl
  have F43 := fun_mk (st := s_check_denial) l43 c_43 k43
  have b43 := F43.binds (ps := ["state", "name", "body"]) fun _ _ _ _ _ _ us hl => match us, hl with | [_, _, _], _ => rfl
  have F44 := fun_mk (st := s_is_sound) l44 c_44 k44
  have b44 := F44.binds (ps := ["state"]) fun _ _ _ _ _ _ us hl => match us, hl with | [_], _ => rfl
  have F45 := fun_mk (st := s_law_is_due) l45 c_45 k45
  have b45 := F45.binds (ps := ["_law_world", "_law_facts", "_law_denials"]) fun _ _ _ _ _ _ us hl => match us, hl with | [_, _, _], _ => rfl
  have F46 := fun_mk (st := s_law_drawn_rule) l46 c_46 k46
  have b46 := F46.binds (ps := ["_law_state", "_law_widths_here"]) fun _ _ _ _ _ _ us hl => match us, hl with | [_, _], _ => rfl
  have F47 := fun_mk (st := s_law) l47 c_47 k47
  have b47 := F47.binds (ps := ["_law_script"]) fun _ _ _ _ _ _ us hl => match us, hl with | [_], _ => rfl
  have T : Txt K mg ⟨fI_Refused, f0, f1, f2, f3, f4, f5, f6, f7, f8, f9, f10, f11, f12, f13, f14, f15, f16, f17, f18, f19, f20, f21, f22, f23, f24, f25, f26, f27, f28, f29, f30, f31, f32, f33, f34, f35, f36, f37, f38, f39, f40, f41, f42, f43, f44, f45, f46, fa, dE8, cc_State, cc_Refused, t0⟩ ⟨_, _, _, _, _, _, _, _, _, _, _, _, _, _, _, _, _, _, _, _, _, _, _, _, _, _, _, _, _, _, _, _, _, _, _, _, _, _, _, _, _, _, _, _, _, _, _, _, _⟩ := ⟨F0, PySem.W.mg_of X G a0, b0, F1, PySem.W.mg_of X G a1, b1, F2, PySem.W.mg_of X G a2, b2, F3, PySem.W.mg_of X G a3, b3, F4, PySem.W.mg_of X G a4, b4, F5, PySem.W.mg_of X G a5, b5, F6, PySem.W.mg_of X G a6, b6, F7, PySem.W.mg_of X G a7, b7, F8, bd8, ⟨oE8, dEo8.2.2.choose, lE8, dEo8.1, dEo8.2.1, dEo8.2.2.choose_spec⟩, ⟨a8, q8, k8⟩, b8, F9, ⟨a9, q9, k9⟩, b9, F10, ⟨a10, q10, k10⟩, b10, F11, ⟨a11, q11, k11⟩, b11, F12, ⟨a12, q12, k12⟩, b12, F13, PySem.W.mg_of X G a13, b13, F14, PySem.W.mg_of X G a14, b14, F15, PySem.W.mg_of X G a15, b15, F16, PySem.W.mg_of X G a16, b16, F17, PySem.W.mg_of X G a17, b17, F18, PySem.W.mg_of X G a18, b18, F19, PySem.W.mg_of X G a19, b19, F20, PySem.W.mg_of X G a20, b20, F21, PySem.W.mg_of X G a21, b21, F22, PySem.W.mg_of X G a22, b22, F23, PySem.W.mg_of X G a23, b23, F24, PySem.W.mg_of X G a24, b24, F25, PySem.W.mg_of X G a25, b25, F26, PySem.W.mg_of X G a26, b26, F27, ⟨a27, q27, k27⟩, b27, F28, ⟨a28, q28, k28⟩, b28, F29, ⟨a29, q29, k29⟩, b29, F30, PySem.W.mg_of X G a30, b30, F31, PySem.W.mg_of X G a31, b31, F32, PySem.W.mg_of X G a32, b32, F33, PySem.W.mg_of X G a33, b33, F34, PySem.W.mg_of X G a34, b34, F35, PySem.W.mg_of X G a35, b35, F36, PySem.W.mg_of X G a36, b36, F37, PySem.W.mg_of X G a37, b37, F38, PySem.W.mg_of X G a38, b38, F39, PySem.W.mg_of X G a39, b39, F40, PySem.W.mg_of X G a40, b40, F41, PySem.W.mg_of X G a41, b41, F42, PySem.W.mg_of X G a42, b42, F43, PySem.W.mg_of X G a43, b43, F44, PySem.W.mg_of X G a44, b44, F45, PySem.W.mg_of X G a45, b45, F46, PySem.W.mg_of X G a46, b46, F47, PySem.W.mg_of X G a47, b47, PySem.W.mg_of X G g_State, ⟨pg_State, hd_State, po_State, sa_State⟩, ⟨mk_State, a8, q8, kc_State⟩, na_State_relations, na_State_facts, na_State_rules, na_State_denials, PySem.W.mg_of X G g_Refused, X_Refused, kp_Refused, bs_Refused, ty_Refused, hd_Refused, s_Refused_Refused, PySem.W.mg_none_of X G z0, PySem.W.mg_none_of X G z1, PySem.W.mg_none_of X G z2, PySem.W.mg_none_of X G z3, PySem.W.mg_none_of X G z4, PySem.W.mg_none_of X G z5, PySem.W.mg_none_of X G z6, PySem.W.mg_none_of X G z7, PySem.W.mg_none_of X G z8, PySem.W.mg_none_of X G z9, PySem.W.mg_of X G i0⟩
  exact ⟨_, fun s v => .of_eq rfl, fun base _ _ => ok_law T⟩
end
end K23
open PySem PySem.W PyProof.Rows
set_option maxRecDepth 100000 in
set_option maxHeartbeats 0 in
theorem PySem.Challenge.cw_rulestead_k23_sound_states_holds : PySem.Challenge.rw_rulestead_k23_sound_states.Holds := by
  w_on; o_law; k_head; (case hw => w_witness2)
  k_fill
  refine L2.walk_ofB (l := PySem.Challenge.rw_rulestead_k23_sound_states) (n := 63) (k := 16) (x := "_law_script") (CX := fun _ => L2.CX0) (sp := fun w => Ab.scriptA _) rfl (by decide) rfl ⟨rfl, by decide, by decide⟩ (fun w h Y => PySem.W.kIn_of Y) ?F (fun _ H a ns hl hb hO hS => Ab.script_in hl hb hS) (fun _ _ _ _ _ h => h)
  case F =>
    intro w mg fa h KX G hmg
    have p0 : Ab.fnIn KX "value_key" K23.s_value_key := by
      refine' Ab.fnG_mk KX ?h1 ?h2 ?h3 ?h4
      (case h1 => k_is)
      (case h2 => k_is)
      (case h3 => k_is)
      (case h4 => k_is)
    have p1 : Ab.fnIn KX "row_key" K23.s_row_key := by
      refine' Ab.fnG_mk KX ?h1 ?h2 ?h3 ?h4
      (case h1 => k_is)
      (case h2 => k_is)
      (case h3 => k_is)
      (case h4 => k_is)
    have p2 : Ab.fnIn KX "columns" K23.s_columns := by
      refine' Ab.fnG_mk KX ?h1 ?h2 ?h3 ?h4
      (case h1 => k_is)
      (case h2 => k_is)
      (case h3 => k_is)
      (case h4 => k_is)
    have p3 : Ab.fnIn KX "check_atom" K23.s_check_atom := by
      refine' Ab.fnG_mk KX ?h1 ?h2 ?h3 ?h4
      (case h1 => k_is)
      (case h2 => k_is)
      (case h3 => k_is)
      (case h4 => k_is)
    have p4 : Ab.fnIn KX "check_terms" K23.s_check_terms := by
      refine' Ab.fnG_mk KX ?h1 ?h2 ?h3 ?h4
      (case h1 => k_is)
      (case h2 => k_is)
      (case h3 => k_is)
      (case h4 => k_is)
    have p5 : Ab.fnIn KX "variables_of" K23.s_variables_of := by
      refine' Ab.fnG_mk KX ?h1 ?h2 ?h3 ?h4
      (case h1 => k_is)
      (case h2 => k_is)
      (case h3 => k_is)
      (case h4 => k_is)
    have p6 : Ab.fnIn KX "check_literal" K23.s_check_literal := by
      refine' Ab.fnG_mk KX ?h1 ?h2 ?h3 ?h4
      (case h1 => k_is)
      (case h2 => k_is)
      (case h3 => k_is)
      (case h4 => k_is)
    have p7 : Ab.fnIn KX "check_body" K23.s_check_body := by
      refine' Ab.fnG_mk KX ?h1 ?h2 ?h3 ?h4
      (case h1 => k_is)
      (case h2 => k_is)
      (case h3 => k_is)
      (case h4 => k_is)
    have p9 : Ab.mtIn KX "State" "put" "State.put" K23.s_State_put := by
      refine' Ab.mtG_mk KX ?h1 ?h2 ?h3 ?h4 ?h5 ?h6
      (case h1 => k_is)
      (case h2 => k_is)
      (case h3 => k_is)
      (case h4 => k_is)
      (case h5 => k_is)
      (case h6 => k_is)
    have p10 : Ab.mtIn KX "State" "tidy" "State.tidy" K23.s_State_tidy := by
      refine' Ab.mtG_mk KX ?h1 ?h2 ?h3 ?h4 ?h5 ?h6
      (case h1 => k_is)
      (case h2 => k_is)
      (case h3 => k_is)
      (case h4 => k_is)
      (case h5 => k_is)
      (case h6 => k_is)
    have p11 : Ab.mtIn KX "State" "all_items" "State.all_items" K23.s_State_all_items := by
      refine' Ab.mtG_mk KX ?h1 ?h2 ?h3 ?h4 ?h5 ?h6
      (case h1 => k_is)
      (case h2 => k_is)
      (case h3 => k_is)
      (case h4 => k_is)
      (case h5 => k_is)
      (case h6 => k_is)
    have p12 : Ab.mtIn KX "State" "has" "State.has" K23.s_State_has := by
      refine' Ab.mtG_mk KX ?h1 ?h2 ?h3 ?h4 ?h5 ?h6
      (case h1 => k_is)
      (case h2 => k_is)
      (case h3 => k_is)
      (case h4 => k_is)
      (case h5 => k_is)
      (case h6 => k_is)
    have p13 : Ab.fnIn KX "_law_next" K23.s_law_next := by
      refine' Ab.fnG_mk KX ?h1 ?h2 ?h3 ?h4
      (case h1 => k_is)
      (case h2 => k_is)
      (case h3 => k_is)
      (case h4 => k_is)
    have p14 : Ab.fnIn KX "_law_same" K23.s_law_same := by
      refine' Ab.fnG_mk KX ?h1 ?h2 ?h3 ?h4
      (case h1 => k_is)
      (case h2 => k_is)
      (case h3 => k_is)
      (case h4 => k_is)
    have p15 : Ab.fnIn KX "_law_worth" K23.s_law_worth := by
      refine' Ab.fnG_mk KX ?h1 ?h2 ?h3 ?h4
      (case h1 => k_is)
      (case h2 => k_is)
      (case h3 => k_is)
      (case h4 => k_is)
    have p16 : Ab.fnIn KX "_law_variable" K23.s_law_variable := by
      refine' Ab.fnG_mk KX ?h1 ?h2 ?h3 ?h4
      (case h1 => k_is)
      (case h2 => k_is)
      (case h3 => k_is)
      (case h4 => k_is)
    have p17 : Ab.fnIn KX "_law_term" K23.s_law_term := by
      refine' Ab.fnG_mk KX ?h1 ?h2 ?h3 ?h4
      (case h1 => k_is)
      (case h2 => k_is)
      (case h3 => k_is)
      (case h4 => k_is)
    have p18 : Ab.fnIn KX "_law_settled" K23.s_law_settled := by
      refine' Ab.fnG_mk KX ?h1 ?h2 ?h3 ?h4
      (case h1 => k_is)
      (case h2 => k_is)
      (case h3 => k_is)
      (case h4 => k_is)
    have p19 : Ab.fnIn KX "_law_literal" K23.s_law_literal := by
      refine' Ab.fnG_mk KX ?h1 ?h2 ?h3 ?h4
      (case h1 => k_is)
      (case h2 => k_is)
      (case h3 => k_is)
      (case h4 => k_is)
    have p20 : Ab.fnIn KX "_law_binds" K23.s_law_binds := by
      refine' Ab.fnG_mk KX ?h1 ?h2 ?h3 ?h4
      (case h1 => k_is)
      (case h2 => k_is)
      (case h3 => k_is)
      (case h4 => k_is)
    have p21 : Ab.fnIn KX "_law_body" K23.s_law_body := by
      refine' Ab.fnG_mk KX ?h1 ?h2 ?h3 ?h4
      (case h1 => k_is)
      (case h2 => k_is)
      (case h3 => k_is)
      (case h4 => k_is)
    have p22 : Ab.fnIn KX "_law_loose" K23.s_law_loose := by
      refine' Ab.fnG_mk KX ?h1 ?h2 ?h3 ?h4
      (case h1 => k_is)
      (case h2 => k_is)
      (case h3 => k_is)
      (case h4 => k_is)
    have p23 : Ab.fnIn KX "_law_literal_problem" K23.s_law_literal_problem := by
      refine' Ab.fnG_mk KX ?h1 ?h2 ?h3 ?h4
      (case h1 => k_is)
      (case h2 => k_is)
      (case h3 => k_is)
      (case h4 => k_is)
    have p24 : Ab.fnIn KX "_law_body_problem" K23.s_law_body_problem := by
      refine' Ab.fnG_mk KX ?h1 ?h2 ?h3 ?h4
      (case h1 => k_is)
      (case h2 => k_is)
      (case h3 => k_is)
      (case h4 => k_is)
    have p25 : Ab.fnIn KX "_law_each_once" K23.s_law_each_once := by
      refine' Ab.fnG_mk KX ?h1 ?h2 ?h3 ?h4
      (case h1 => k_is)
      (case h2 => k_is)
      (case h3 => k_is)
      (case h4 => k_is)
    have p26 : Ab.fnIn KX "_law_widths" K23.s_law_widths := by
      refine' Ab.fnG_mk KX ?h1 ?h2 ?h3 ?h4
      (case h1 => k_is)
      (case h2 => k_is)
      (case h3 => k_is)
      (case h4 => k_is)
    have p27 : Ab.mtIn KX "State" "take" "State.take" K23.s_State_take := by
      refine' Ab.mtG_mk KX ?h1 ?h2 ?h3 ?h4 ?h5 ?h6
      (case h1 => k_is)
      (case h2 => k_is)
      (case h3 => k_is)
      (case h4 => k_is)
      (case h5 => k_is)
      (case h6 => k_is)
    have p28 : Ab.mtIn KX "State" "copy" "State.copy" K23.s_State_copy := by
      refine' Ab.mtG_mk KX ?h1 ?h2 ?h3 ?h4 ?h5 ?h6
      (case h1 => k_is)
      (case h2 => k_is)
      (case h3 => k_is)
      (case h4 => k_is)
      (case h5 => k_is)
      (case h6 => k_is)
    have p29 : Ab.mtIn KX "State" "change" "State.change" K23.s_State_change := by
      refine' Ab.mtG_mk KX ?h1 ?h2 ?h3 ?h4 ?h5 ?h6
      (case h1 => k_is)
      (case h2 => k_is)
      (case h3 => k_is)
      (case h4 => k_is)
      (case h5 => k_is)
      (case h6 => k_is)
    have p30 : Ab.fnIn KX "relations_of" K23.s_relations_of := by
      refine' Ab.fnG_mk KX ?h1 ?h2 ?h3 ?h4
      (case h1 => k_is)
      (case h2 => k_is)
      (case h3 => k_is)
      (case h4 => k_is)
    have p31 : Ab.fnIn KX "makes" K23.s_makes := by
      refine' Ab.fnG_mk KX ?h1 ?h2 ?h3 ?h4
      (case h1 => k_is)
      (case h2 => k_is)
      (case h3 => k_is)
      (case h4 => k_is)
    have p32 : Ab.fnIn KX "edges" K23.s_edges := by
      refine' Ab.fnG_mk KX ?h1 ?h2 ?h3 ?h4
      (case h1 => k_is)
      (case h2 => k_is)
      (case h3 => k_is)
      (case h4 => k_is)
    have p33 : Ab.fnIn KX "reached" K23.s_reached := by
      refine' Ab.fnG_mk KX ?h1 ?h2 ?h3 ?h4
      (case h1 => k_is)
      (case h2 => k_is)
      (case h3 => k_is)
      (case h4 => k_is)
    have p34 : Ab.fnIn KX "has_ring" K23.s_has_ring := by
      refine' Ab.fnG_mk KX ?h1 ?h2 ?h3 ?h4
      (case h1 => k_is)
      (case h2 => k_is)
      (case h3 => k_is)
      (case h4 => k_is)
    have p35 : Ab.fnIn KX "growing" K23.s_growing := by
      refine' Ab.fnG_mk KX ?h1 ?h2 ?h3 ?h4
      (case h1 => k_is)
      (case h2 => k_is)
      (case h3 => k_is)
      (case h4 => k_is)
    have p36 : Ab.fnIn KX "check_rule" K23.s_check_rule := by
      refine' Ab.fnG_mk KX ?h1 ?h2 ?h3 ?h4
      (case h1 => k_is)
      (case h2 => k_is)
      (case h3 => k_is)
      (case h4 => k_is)
    have p37 : Ab.fnIn KX "_law_relations_of" K23.s_law_relations_of := by
      refine' Ab.fnG_mk KX ?h1 ?h2 ?h3 ?h4
      (case h1 => k_is)
      (case h2 => k_is)
      (case h3 => k_is)
      (case h4 => k_is)
    have p38 : Ab.fnIn KX "_law_reach" K23.s_law_reach := by
      refine' Ab.fnG_mk KX ?h1 ?h2 ?h3 ?h4
      (case h1 => k_is)
      (case h2 => k_is)
      (case h3 => k_is)
      (case h4 => k_is)
    have p39 : Ab.fnIn KX "_law_makes" K23.s_law_makes := by
      refine' Ab.fnG_mk KX ?h1 ?h2 ?h3 ?h4
      (case h1 => k_is)
      (case h2 => k_is)
      (case h3 => k_is)
      (case h4 => k_is)
    have p40 : Ab.fnIn KX "_law_ring" K23.s_law_ring := by
      refine' Ab.fnG_mk KX ?h1 ?h2 ?h3 ?h4
      (case h1 => k_is)
      (case h2 => k_is)
      (case h3 => k_is)
      (case h4 => k_is)
    have p41 : Ab.fnIn KX "_law_growing" K23.s_law_growing := by
      refine' Ab.fnG_mk KX ?h1 ?h2 ?h3 ?h4
      (case h1 => k_is)
      (case h2 => k_is)
      (case h3 => k_is)
      (case h4 => k_is)
    have p42 : Ab.fnIn KX "_law_rule_problem" K23.s_law_rule_problem := by
      refine' Ab.fnG_mk KX ?h1 ?h2 ?h3 ?h4
      (case h1 => k_is)
      (case h2 => k_is)
      (case h3 => k_is)
      (case h4 => k_is)
    have p43 : Ab.fnIn KX "check_denial" K23.s_check_denial := by
      refine' Ab.fnG_mk KX ?h1 ?h2 ?h3 ?h4
      (case h1 => k_is)
      (case h2 => k_is)
      (case h3 => k_is)
      (case h4 => k_is)
    have p44 : Ab.fnIn KX "is_sound" K23.s_is_sound := by
      refine' Ab.fnG_mk KX ?h1 ?h2 ?h3 ?h4
      (case h1 => k_is)
      (case h2 => k_is)
      (case h3 => k_is)
      (case h4 => k_is)
    have p45 : Ab.fnIn KX "_law_is_due" K23.s_law_is_due := by
      refine' Ab.fnG_mk KX ?h1 ?h2 ?h3 ?h4
      (case h1 => k_is)
      (case h2 => k_is)
      (case h3 => k_is)
      (case h4 => k_is)
    have p46 : Ab.fnIn KX "_law_drawn_rule" K23.s_law_drawn_rule := by
      refine' Ab.fnG_mk KX ?h1 ?h2 ?h3 ?h4
      (case h1 => k_is)
      (case h2 => k_is)
      (case h3 => k_is)
      (case h4 => k_is)
    have p47 : Ab.fnIn KX "law" K23.s_law := by
      refine' Ab.fnG_mk KX ?h1 ?h2 ?h3 ?h4
      (case h1 => k_is)
      (case h2 => k_is)
      (case h3 => k_is)
      (case h4 => k_is)
    refine' K23.all_mk KX G hmg p0 p1 p2 p3 p4 p5 p6 p7 ?a8 ?q8 ?l8 ?c_8 ?k8 ?lT8 ?dTo8 ?lE8 ?dEo8 p9 p10 p11 p12 p13 p14 p15 p16 p17 p18 p19 p20 p21 p22 p23 p24 p25 p26 p27 p28 p29 p30 p31 p32 p33 p34 p35 p36 p37 p38 p39 p40 p41 p42 p43 p44 p45 p46 p47 ?g_State ?pg_State ?hd_State ?po_State ?sa_State ?mk_State ?kc_State ?na_State_relations ?na_State_facts ?na_State_rules ?na_State_denials ?g_Refused ?X_Refused ?kp_Refused ?bs_Refused ?ty_Refused ?hd_Refused ?s_Refused_Refused ?z0 ?z1 ?z2 ?z3 ?z4 ?z5 ?z6 ?z7 ?z8 ?z9 ?i0
    (case g_State => k_is)
    (case g_Refused => k_is)
    (case a8 => k_is)
    (case q8 => k_is)
    (case l8 => k_is)
    (case c_8 => k_is)
    (case k8 => k_is)
    (case lT8 => k_is)
    (case dTo8 => exact ⟨_, rfl⟩)
    (case lE8 => k_is)
    (case dEo8 => exact ⟨rfl, rfl, _, rfl⟩)
    (case pg_State => k_is)
    (case hd_State => k_is)
    (case po_State => k_is)
    (case sa_State => k_is)
    (case mk_State => k_is)
    (case kc_State => k_is)
    (case na_State_relations => k_is)
    (case na_State_facts => k_is)
    (case na_State_rules => k_is)
    (case na_State_denials => k_is)
    (case X_Refused =>
      refine' SupX.exF_mk KX G ?xxo ?xxb ?xsa ?xbe ?xty ?xkp ?xxi ?xxt ?xxl ?xxc ?xxh ?xxv ?xxf ?xxtop ?xxq ?xxk ?xxm ?xxg ?xxa ?xxs ?xxu ?xga ?xgg ?xhd ?xno ?xZ ?xhh ?xhin ?xhev ?xhsw ?xhd1 ?xhd2 ?xhbd
      (case xxo => k_is)
      (case xxb => exact rfl)
      (case xsa => k_is)
      (case xbe => k_is)
      (case xty => k_is)
      (case xkp => k_is)
      (case xxi => k_is)
      (case xxt => k_is)
      (case xxl => k_is)
      (case xxc => k_is)
      (case xxh => k_is)
      (case xxv => exact rfl)
      (case xxf => decide +kernel)
      (case xxtop => decide +kernel)
      (case xxq => k_is)
      (case xxk => k_is)
      (case xxm => k_is)
      (case xxg => k_is)
      (case xxa => k_is)
      (case xxs => ks_is)
      (case xxu => k_is)
      (case xga => k_is)
      (case xgg => k_is)
      (case xhd => k_is)
      (case xno => k_is)
      (case xZ => exact ⟨by decide, rfl, by decide, by decide, by decide, rfl, rfl, rfl, rfl, rfl⟩)
      (case xhh => exact ⟨_, rfl, rfl⟩)
      (case xhin => exact fun _ _ _ _ => rfl)
      (case xhev => exact fun _ _ _ _ => ⟨_, rfl⟩)
      (case xhsw => exact fun _ _ _ _ => rfl)
      (case xhd1 => decide)
      (case xhd2 => decide)
      (case xhbd => exact fun us hl => match us, hl with | [_, _], _ => rfl))
    (case kp_Refused => k_is)
    (case bs_Refused => k_is)
    (case ty_Refused => k_is)
    (case hd_Refused => k_is)
    (case s_Refused_Refused => k_is)
    (case z0 => k_is)
    (case z1 => k_is)
    (case z2 => k_is)
    (case z3 => k_is)
    (case z4 => k_is)
    (case z5 => k_is)
    (case z6 => k_is)
    (case z7 => k_is)
    (case z8 => k_is)
    (case z9 => k_is)
    (case i0 => k_is)
