import PyProof.Rows.All
import Wide.All
import OpenK.AllK
import Wide.FinOn
import KE.KeyNested
import KE.DataFind
import HandS.Deep
import HandS.DictComp
import HandS.Iter
import HandS.ForMost
import HandS.Wide
import HandS.IsInst
import HandS.Style
import HandS.ForExc
import HandS.ExcOwn
import HandS.TryOnly
import HandS.SetKeys
import HandS.EndBits
import KE.DataCmp
import HandS.TupLe
import HandS.Text
import HandS.Strs
import HandS.TupAny
import HandS.CallSlots
import HandS.WordsDict
import PyProof.DictUpdate
import HandS.ExcIs
import KE.SortKeyHeap
import HandS.SortKw
import HandS.Defaults
import HandS.More
import HandS.StrMore
import KE.GoesRaise
import HandS.ExcInit
import HandS.ExcField
import HandS.ClsMeth
import HandS.Nested
import KE.KExcSuper
import KE.KSuper
import KE.KExcMake
import HandS.Zip
import PyProof.ReprReads
import PyProof.ReprRoads
import PyProof.ReprLen
import PySem.Challenge.RW_rulestead_k20_ways_of_bodies
set_option Elab.async false
set_option linter.all false
set_option maxRecDepth 1000000
set_option  maxHeartbeats 4000000
namespace Ab
open PySem PySem.Spec PyProof.Rows L2
abbrev NK := NestedKey
/-- what is true of the object at a -/
def NDict (P : Program) (w : World) (a : Addr) (kvs : List (NK × Addr × V)) (h : Heap) : Prop :=
  kvs.length ≤ sizeLine ∧ (a == sysModules) = false ∧ ∃ xs : List (NK × Addr × Value), Paired (fun p q => p.1 = q.1 ∧ p.2.1 = q.2.1 ∧ RelV p.2.2 q.2.2) kvs xs ∧
    ∃ o es ep, h.get? a = some o ∧ o.ExactDict ∧ o.data = .dict es ep ∧ es.toList = xs.map (entryOfKey (nestedKind P w)) ∧ (xs.map (·.1)).Nodup
def HN (P : Program) (w : World) (a : Addr) (kvs : List (NK × Addr × V)) : HO := .ext (NDict P w a kvs)
/-- what stands of a walk within the block -/
structure Mid (Y : Cx) (fp : List Addr) (tn : Nat → Heap → Prop) (σ : L2.St) (i : Nat) (H : Hp) (s : Shared) : Prop where
  inv : Inv Y [] σ H s
  at_ : tn i s.heap
  fr : ∀ b ∈ fp, H b = none
end Ab
set_option Elab.async false
set_option linter.all false
set_option maxRecDepth 1000000
set_option  maxHeartbeats 4000000
namespace Ab
open PySem L2
theorem same_new {H : Hp} {p : Addr} {o : HO} (h : H p = none) : Same H (upd H p o) := fun b u e => by
  rw [upd_ne (ne_of_none e h)]
  exact e
theorem same_rd {H H' : Hp} {a : Addr} {u : HO} (e : Same H H') (h : Rd H a u) : Rd H' a u := by
  rcases h with h | ⟨o, h⟩
  · exact .inl (e _ _ h)
  · exact .inr ⟨o, e _ _ h⟩
theorem same_t {K : PySem.W.Frag} {H H' : Hp} {a : Addr} {xs : List V} (e : Same H H') (h : SqT K H a xs) : SqT K H' a xs := by
  rcases h with h | h
  · exact .inl (same_rd e h)
  · exact .inr h
/-- as Same, but dicts may have been locked or unlocked -/
def Re (H H' : Hp) : Prop := ∀ b o, H b = some o → H' b = some o ∨ ∃ kvs, Rd H b (.dK kvs) ∧ Rd H' b (.dK kvs)
theorem Same.re {H H' : Hp} (e : Same H H') : Re H H' := fun b o h => .inl (e b o h)
theorem dK_nf {kvs : List (Key × V)} : ∀ o x, HO.dK kvs ≠ .frz o x := fun _ _ h => by cases h
theorem lst_nf {xs : List V} : ∀ o x, HO.lst xs ≠ .frz o x := fun _ _ h => by cases h
theorem tup_nf {xs : List V} : ∀ o x, HO.tup xs ≠ .frz o x := fun _ _ h => by cases h
theorem rd_inj {H : Hp} {a : Addr} {u v : HO} (hu : ∀ o x, u ≠ .frz o x) (hv : ∀ o x, v ≠ .frz o x) (h : Rd H a u) (h' : Rd H a v) : u = v := by
  rcases h with h | ⟨o, h⟩ <;> rcases h' with h' | ⟨o', h'⟩ <;> rw [h] at h' <;> cases h'
  · rfl
  · exact absurd rfl (hu _ _)
  · exact absurd rfl (hv _ _)
  · rfl
theorem re_rd {H H' : Hp} {a : Addr} {u : HO} (hu : ∀ o x, u ≠ .frz o x) (e : Re H H') (h : Rd H a u) : Rd H' a u := by
  have two : ∀ kvs, Rd H a (.dK kvs) → Rd H' a (.dK kvs) → Rd H' a u := fun kvs h1 h2 => by
    rw [rd_inj hu dK_nf h h1]
    exact h2
  rcases h with h | ⟨o, h⟩
  · rcases e _ _ h with z | ⟨kvs, h1, h2⟩
    · exact .inl z
    · exact two kvs h1 h2
  · rcases e _ _ h with z | ⟨kvs, h1, h2⟩
    · exact .inr ⟨o, z⟩
    · exact two kvs h1 h2
theorem re_lst {H H' : Hp} {a : Addr} {xs : List V} (e : Re H H') (h : H a = some (.lst xs)) : H' a = some (.lst xs) := by
  rcases e _ _ h with z | ⟨kvs, h1, h2⟩
  · exact z
  · rcases h1 with h1 | ⟨o, h1⟩ <;> rw [h] at h1 <;> cases h1
theorem re_t {K : PySem.W.Frag} {H H' : Hp} {a : Addr} {xs : List V} (e : Re H H') (h : SqT K H a xs) : SqT K H' a xs := by
  rcases h with h | h
  · exact .inl (re_rd tup_nf e h)
  · exact .inr h
theorem re_dK {H H' : Hp} {a : Addr} {kvs : List (Key × V)} (e : Re H H') (h : Rd H a (.dK kvs)) : Rd H' a (.dK kvs) := re_rd dK_nf e h
def kD : Key → PyData
  | .inl i => .int i
  | .inr x => .str x
mutual
inductive Dq (K : PySem.W.Frag) (H : Hp) : V → PyData → Prop
  | non : Dq K H .non .none
  | bl (b : Bool) : Dq K H (.bl b) (.bool b)
  | int (i : Int) : Dq K H (.int i) (.int i)
  | str (x : Str) : Dq K H (.str x) (.str x)
  | lst {a : Addr} {xs : List V} {ds : List PyData} : H a = some (.lst xs) → DqAll K H xs ds → Dq K H (.ref a) (.list ds)
  | tup {a : Addr} {xs : List V} {ds : List PyData} : SqT K H a xs → DqAll K H xs ds → Dq K H (.ref a) (.tuple ds)
  | dct {a : Addr} {vs : List (Key × V)} {kvs : List (PyData × PyData)} : Rd H a (.dK vs) → DqKs K H vs kvs → Dq K H (.ref a) (.dict kvs)
inductive DqAll (K : PySem.W.Frag) (H : Hp) : List V → List PyData → Prop
  | nil : DqAll K H [] []
  | cons {v : V} {vs : List V} {d : PyData} {ds : List PyData} : Dq K H v d → DqAll K H vs ds → DqAll K H (v :: vs) (d :: ds)
inductive DqKs (K : PySem.W.Frag) (H : Hp) : List (Key × V) → List (PyData × PyData) → Prop
  | nil : DqKs K H [] []
  | cons {k : Key} {v : V} {vs : List (Key × V)} {x d : PyData} {ds : List (PyData × PyData)} : x = kD k → Dq K H v d → DqKs K H vs ds → DqKs K H ((k, v) :: vs) ((x, d) :: ds)
end
section
variable {K : PySem.W.Frag} {B B' : Hp}
mutual
theorem dq_dp : ∀ (d : PyData) (v : V), d.hasDict = false → Dq K B v d → Dp K B v d
  | .none, _, _, h => by cases h; exact .non
  | .bool b, _, _, h => by cases h; exact .bl b
  | .int i, _, _, h => by cases h; exact .int i
  | .str x, _, _, h => by cases h; exact .str x
  | .list ds, _, l, h => by
    cases h with
    | lst hs ha => exact .lst (.inl (.inl hs)) (dqa_dp ds _ (by simpa [PyData.hasDict] using l) ha)
  | .tuple ds, _, l, h => by
    cases h with
    | tup hs ha => exact .tup hs (dqa_dp ds _ (by simpa [PyData.hasDict] using l) ha)
  | .dict _, _, l, h => by simp [PyData.hasDict] at l
theorem dqa_dp : ∀ (ds : List PyData) (vs : List V), PyData.hasDictAll ds = false → DqAll K B vs ds → DpAll K B vs ds
  | [], _, _, h => by cases h; exact .nil
  | d :: ds, _, l, h => by
    cases h with
    | cons h1 h2 =>
      rw [PyData.hasDictAll, Bool.or_eq_false_iff] at l
      exact .cons (dq_dp d _ l.1 h1) (dqa_dp ds _ l.2 h2)
end
theorem dq_dpS {d : PyData} {v : V} (h : SeqAt.shaped d = true) (o : Dq K B v d) : Dp K B v d := dq_dp d v (PyData.hasDict_of_canLay d (SeqAt.canLay_of_shaped h)) o
theorem dqa_dpS {ds : List PyData} {vs : List V} (h : SeqAt.shaped (.list ds) = true) (o : DqAll K B vs ds) : DpAll K B vs ds := dqa_dp ds vs (by simpa [PyData.hasDict] using PyData.hasDict_of_canLay _ (SeqAt.canLay_of_shaped h)) o
mutual
theorem dp_same0 (e : Same B B') : ∀ {v : V} {d : PyData}, Dq K B v d → Dq K B' v d
  | _, _, .non => .non
  | _, _, .bl b => .bl b
  | _, _, .int i => .int i
  | _, _, .str x => .str x
  | _, _, .lst hs ha => .lst (e _ _ hs) (dpa_same0 e ha)
  | _, _, .tup hs ha => .tup (same_t e hs) (dpa_same0 e ha)
  | _, _, .dct hs ha => .dct (same_rd e hs) (dpk_same0 e ha)
theorem dpa_same0 (e : Same B B') : ∀ {vs : List V} {ds : List PyData}, DqAll K B vs ds → DqAll K B' vs ds
  | _, _, .nil => .nil
  | _, _, .cons h t => .cons (dp_same0 e h) (dpa_same0 e t)
theorem dpk_same0 (e : Same B B') : ∀ {vs : List (Key × V)} {ds : List (PyData × PyData)}, DqKs K B vs ds → DqKs K B' vs ds
  | _, _, .nil => .nil
  | _, _, .cons q h t => .cons q (dp_same0 e h) (dpk_same0 e t)
end
mutual
theorem dp_re0 (e : Re B B') : ∀ {v : V} {d : PyData}, Dq K B v d → Dq K B' v d
  | _, _, .non => .non
  | _, _, .bl b => .bl b
  | _, _, .int i => .int i
  | _, _, .str x => .str x
  | _, _, .lst hs ha => .lst (re_lst e hs) (dpa_re0 e ha)
  | _, _, .tup hs ha => .tup (re_t e hs) (dpa_re0 e ha)
  | _, _, .dct hs ha => .dct (re_dK e hs) (dpk_re0 e ha)
theorem dpa_re0 (e : Re B B') : ∀ {vs : List V} {ds : List PyData}, DqAll K B vs ds → DqAll K B' vs ds
  | _, _, .nil => .nil
  | _, _, .cons h t => .cons (dp_re0 e h) (dpa_re0 e t)
theorem dpk_re0 (e : Re B B') : ∀ {vs : List (Key × V)} {ds : List (PyData × PyData)}, DqKs K B vs ds → DqKs K B' vs ds
  | _, _, .nil => .nil
  | _, _, .cons q h t => .cons q (dp_re0 e h) (dpk_re0 e t)
end
theorem dp_same (e : Same B B') (d : PyData) (v : V) (h : Dq K B v d) : Dq K B' v d := dp_same0 e h
theorem dpa_same (e : Same B B') (ds : List PyData) (vs : List V) (h : DqAll K B vs ds) : DqAll K B' vs ds := dpa_same0 e h
end
inductive Sl where
  /-- data that nobody changes -/
  | dat (d : PyData)
  /-- just this value -/
  | raw (v : V)
  /-- what else is known of it, as long as things are only added -/
  | abs (P : Hp → V → Prop) (m : ∀ B B' v, Re B B' → P B v → P B' v)
abbrev Sl.int (i : Int) : Sl := .dat (.int i)
abbrev Sl.bl (b : Bool) : Sl := .dat (.bool b)
abbrev Sl.str (x : Str) : Sl := .dat (.str x)
abbrev Sl.non : Sl := .dat .none
abbrev Sl.ref (a : Addr) : Sl := .raw (.ref a)
def SlOk (K : PySem.W.Frag) (B : Hp) (v : V) : Sl → Prop
  | .dat d => Dq K B v d
  | .raw u => v = u
  | .abs P _ => P B v
section
variable {K : PySem.W.Frag} {B B' : Hp} {v : V} {s : Sl}
theorem SlOk.re (e : Re B B') (h : SlOk K B v s) : SlOk K B' v s := by
  cases s with
  | dat d => exact dp_re0 e h
  | raw u => exact h
  | abs P m => exact m _ _ _ e h
theorem SlOk.mono (e : Same B B') (h : SlOk K B v s) : SlOk K B' v s := h.re (Same.re e)
theorem slok_int {i : Int} : SlOk K B (.int i) (.int i) := Dq.int i
theorem slok_bl {b : Bool} : SlOk K B (.bl b) (.bl b) := Dq.bl b
theorem slok_str {x : Str} : SlOk K B (.str x) (.str x) := Dq.str x
theorem slok_non : SlOk K B .non .non := Dq.non
theorem slok_ref {a : Addr} : SlOk K B (.ref a) (.ref a) := rfl
theorem of_int {i : Int} (h : SlOk K B v (.int i)) : v = .int i := by cases h; rfl
theorem of_bl {b : Bool} (h : SlOk K B v (.bl b)) : v = .bl b := by cases h; rfl
theorem of_str {x : Str} (h : SlOk K B v (.str x)) : v = .str x := by cases h; rfl
theorem of_non (h : SlOk K B v .non) : v = .non := by cases h; rfl
abbrev SlAll (K : PySem.W.Frag) (B : Hp) : List V → List Sl → Prop := Paired fun v s => SlOk K B v s
theorem SlAll.mono (e : Same B B') {vs : List V} {ss : List Sl} (h : SlAll K B vs ss) : SlAll K B' vs ss := Paired.mapP h fun _ _ q => q.mono e
theorem sla_dat : ∀ {vs : List V} {ds : List PyData}, DqAll K B vs ds → SlAll K B vs (ds.map .dat)
  | _, _, .nil => .nil
  | _, _, .cons h t => .cons h (sla_dat t)
theorem dpa_of : ∀ {vs : List V} {ds : List PyData}, SlAll K B vs (ds.map .dat) → DqAll K B vs ds
  | _, [], .nil => .nil
  | _, _ :: _, .cons h t => .cons h (dpa_of t)
theorem DqAll.length : ∀ {vs : List V} {ds : List PyData}, DqAll K B vs ds → vs.length = ds.length
  | _, _, .nil => rfl
  | _, _, .cons _ t => congrArg (· + 1) (DqAll.length t)
theorem DqAll.app : ∀ {vs ws : List V} {ds es : List PyData}, DqAll K B vs ds → DqAll K B ws es → DqAll K B (vs ++ ws) (ds ++ es)
  | _, _, _, _, .nil, h => h
  | _, _, _, _, .cons h t, h' => .cons h (DqAll.app t h')
theorem DqAll.take : ∀ (n : Nat) {vs : List V} {ds : List PyData}, DqAll K B vs ds → DqAll K B (vs.take n) (ds.take n)
  | 0, _, _, _ => .nil
  | _ + 1, _, _, .nil => .nil
  | n + 1, _, _, .cons h t => .cons h (DqAll.take n t)
theorem DqAll.drop : ∀ (n : Nat) {vs : List V} {ds : List PyData}, DqAll K B vs ds → DqAll K B (vs.drop n) (ds.drop n)
  | 0, _, _, h => h
  | _ + 1, _, _, .nil => .nil
  | n + 1, _, _, .cons _ t => DqAll.drop n t
theorem DqAll.get : ∀ {i : Nat} {vs : List V} {ds : List PyData} {d : PyData}, DqAll K B vs ds → ds[i]? = some d → ∃ v, vs[i]? = some v ∧ Dq K B v d
  | _, _, _, _, .nil, e => by simp at e
  | 0, _, _, _, .cons h _, e => by simp at e; subst e; exact ⟨_, rfl, h⟩
  | i + 1, _, _, _, .cons _ t, e => by
    obtain ⟨v, h1, h2⟩ := DqAll.get (i := i) t (by simpa using e)
    exact ⟨v, by simpa using h1, h2⟩
theorem SlAll.get : ∀ {i : Nat} {vs : List V} {ss : List Sl} {s : Sl}, SlAll K B vs ss → ss[i]? = some s → ∃ v, vs[i]? = some v ∧ SlOk K B v s
  | _, _, _, _, .nil, e => by simp at e
  | 0, _, _, _, .cons h _, e => by simp at e; subst e; exact ⟨_, rfl, h⟩
  | i + 1, _, _, _, .cons _ t, e => by
    obtain ⟨v, h1, h2⟩ := SlAll.get (i := i) t (by simpa using e)
    exact ⟨v, by simpa using h1, h2⟩
theorem SlAll.setI {v : V} {s : Sl} (r : SlOk K B v s) : ∀ (i : Nat) {vs : List V} {ss : List Sl}, SlAll K B vs ss → SlAll K B (vs.set i v) (ss.set i s)
  | _, _, _, .nil => .nil
  | 0, _, _, .cons _ t => .cons r t
  | i + 1, _, _, .cons q t => .cons q (SlAll.setI r i t)
theorem SlAll.app : ∀ {vs ws : List V} {ds es : List Sl}, SlAll K B vs ds → SlAll K B ws es → SlAll K B (vs ++ ws) (ds ++ es)
  | _, _, _, _, .nil, h => h
  | _, _, _, _, .cons h t, h' => .cons h (SlAll.app t h')
end
abbrev Rho := List (Option Sl)
def Rl0 (K : PySem.W.Frag) (B : Hp) : L2.St → Rho → Prop
  | [], [] => True
  | x :: σ, y :: ρ => (∀ s, y = some s → ∃ v, x = some v ∧ SlOk K B v s) ∧ Rl0 K B σ ρ
  | _, _ => False
section
variable {K : PySem.W.Frag} {B B' : Hp}
theorem Rl0.mono (e : Same B B') : ∀ {σ : L2.St} {ρ : Rho}, Rl0 K B σ ρ → Rl0 K B' σ ρ
  | [], [], _ => trivial
  | _ :: _, _ :: _, ⟨h, t⟩ => ⟨fun s q => let ⟨v, e1, e2⟩ := h s q; ⟨v, e1, e2.mono e⟩, Rl0.mono e t⟩
theorem Rl0.get : ∀ {i : Nat} {σ : L2.St} {ρ : Rho} {s : Sl}, Rl0 K B σ ρ → ρ[i]? = some (some s) → ∃ v, σ[i]? = some (some v) ∧ SlOk K B v s
  | _, [], [], _, _, e => by simp at e
  | 0, _ :: _, _ :: _, s, ⟨h, _⟩, e => by
    obtain ⟨v, e1, e2⟩ := h s (by simpa using e)
    exact ⟨v, by rw [e1]; rfl, e2⟩
  | i + 1, _ :: _, _ :: _, s, ⟨_, t⟩, e => by
    obtain ⟨v, h1, h2⟩ := Rl0.get (i := i) t (by simpa using e)
    exact ⟨v, by simpa using h1, h2⟩
theorem Rl0.put {v : V} {s : Sl} (r : SlOk K B v s) : ∀ (i : Nat) {σ : L2.St} {ρ : Rho}, Rl0 K B σ ρ → Rl0 K B (σ.set i (some v)) (ρ.set i (some s))
  | _, [], [], _ => trivial
  | 0, _ :: _, _ :: _, ⟨_, t⟩ => ⟨fun s' q => (by cases q; exact ⟨v, rfl, r⟩), t⟩
  | i + 1, _ :: _, _ :: _, ⟨h, t⟩ => ⟨h, Rl0.put r i t⟩
theorem Rl0.non : ∀ (i : Nat) {σ : L2.St} {ρ : Rho}, Rl0 K B σ ρ → Rl0 K B (σ.set i none) (ρ.set i none)
  | _, [], [], _ => trivial
  | 0, _ :: _, _ :: _, ⟨_, t⟩ => ⟨fun s' q => (by cases q), t⟩
  | i + 1, _ :: _, _ :: _, ⟨h, t⟩ => ⟨h, Rl0.non i t⟩
def wipeR (ρ : Rho) : List Nat → Rho
  | [] => ρ
  | v :: vs => (wipeR ρ vs).set v none
theorem Rl0.wiped {σ : L2.St} {ρ : Rho} (h : Rl0 K B σ ρ) : ∀ vs : List Nat, Rl0 K B (wipe σ vs) (wipeR ρ vs)
  | [] => h
  | v :: vs => Rl0.non v (Rl0.wiped h vs)
theorem rl_start : ∀ {vs : List V} {ss : List Sl} (n : Nat), SlAll K B vs ss → Rl0 K B (vs.map some ++ List.replicate n none) (ss.map some ++ List.replicate n none)
  | _, _, n, .nil => by
    show Rl0 K B (List.replicate n none) (List.replicate n none)
    induction n with
    | zero => trivial
    | succ n ih => exact ⟨fun s q => (by cases q), ih⟩
  | _, _, n, .cons h t => ⟨fun s q => (by cases q; exact ⟨_, rfl, h⟩), rl_start n t⟩
/-- what is known of a frame stands in another list of what is known, slot by slot -/
theorem wipe_set (σ : L2.St) (x : Option V) : ∀ (vs : List Nat) (j : Nat), j ∈ vs → wipe (σ.set j x) vs = wipe σ vs
  | [], _, h => by cases h
  | v :: vs, j, h => by
    show (wipe (σ.set j x) vs).set v none = (wipe σ vs).set v none
    by_cases hj : j ∈ vs
    · rw [wipe_set σ x vs j hj]
    · have e : j = v := by
        rcases List.mem_cons.mp h with h | h
        · exact h
        · exact absurd h hj
      subst e
      have out : ∀ (vs : List Nat) (σ : L2.St), j ∉ vs → wipe (σ.set j x) vs = (wipe σ vs).set j x := by
        intro vs
        induction vs with
        | nil => intro σ _; rfl
        | cons w ws ih =>
          intro σ hn
          have h1 : j ≠ w := fun e => hn (by rw [e]; exact List.mem_cons_self)
          have h2 : j ∉ ws := fun e => hn (List.mem_cons_of_mem _ e)
          show (wipe (σ.set j x) ws).set w none = ((wipe σ ws).set w none).set j x
          rw [ih σ h2, List.set_comm _ _ h1]
      rw [out vs σ hj, List.set_set]
theorem wipe_wipe (σ : L2.St) : ∀ (vs : List Nat), wipe (wipe σ vs) vs = wipe σ vs
  | [] => rfl
  | v :: vs => by
    show (wipe ((wipe σ vs).set v none) vs).set v none = (wipe σ vs).set v none
    by_cases hv : v ∈ vs
    · rw [wipe_set _ _ vs v hv, wipe_wipe σ vs]
    · have out : ∀ (vs : List Nat) (σ : L2.St), v ∉ vs → wipe (σ.set v none) vs = (wipe σ vs).set v none := by
        intro vs
        induction vs with
        | nil => intro σ _; rfl
        | cons w ws ih =>
          intro σ hn
          have h1 : v ≠ w := fun e => hn (by rw [e]; exact List.mem_cons_self)
          have h2 : v ∉ ws := fun e => hn (List.mem_cons_of_mem _ e)
          show (wipe (σ.set v none) ws).set w none = ((wipe σ ws).set w none).set v none
          rw [ih σ h2, List.set_comm _ _ h1]
      rw [out vs _ hv, wipe_wipe σ vs, List.set_set]
end
inductive MO where
  | lst (xs : List Sl)
  | dK (kvs : List (Key × Sl))
  | ins (C dx : Addr) (fs : List (Str × Sl))
  | xd (fs : List (Str × Sl))
  | ho (o : HO)
  /-- a dict whose keys are nested tuples -/
  | dN (P : Program) (w : World) (a : Addr) (kvs : List (NK × Sl))
  /-- known to somebody else for a while: read, not changed -/
  | frz (ob : Obj) (v : HO) (o : MO)
abbrev MH := Addr → Option MO
def um (M : MH) (a : Addr) (o : MO) : MH := fun b => if b = a then some o else M b
def del (M : MH) (a : Addr) : MH := fun b => if b = a then none else M b
theorem um_same {M : MH} {a : Addr} {o : MO} : um M a o a = some o := by unfold um; rw [if_pos rfl]
theorem um_ne {M : MH} {a b : Addr} {o : MO} (h : b ≠ a) : um M a o b = M b := by unfold um; rw [if_neg h]
theorem um_um {M : MH} {a : Addr} {o u : MO} : um (um M a o) a u = um M a u := by
  funext b; unfold um; split <;> rfl
theorem um_id {M : MH} {a : Addr} {o : MO} (h : M a = some o) : um M a o = M := by
  funext b
  by_cases e : b = a
  · subst e; rw [um_same, h]
  · rw [um_ne e]
theorem um_comm {M : MH} {a b : Addr} {o u : MO} (h : a ≠ b) : um (um M a o) b u = um (um M b u) a o := by
  funext c
  by_cases e1 : c = a
  · subst e1
    rw [um_ne h, um_same, um_same]
  · by_cases e2 : c = b
    · subst e2
      rw [um_same, um_ne e1, um_same]
    · rw [um_ne e2, um_ne e1, um_ne e1, um_ne e2]
theorem del_same {M : MH} {a : Addr} : del M a a = none := by unfold del; rw [if_pos rfl]
theorem del_ne {M : MH} {a b : Addr} (h : b ≠ a) : del M a b = M b := by unfold del; rw [if_neg h]
theorem del_um {M : MH} {a : Addr} {o : MO} (h : M a = none) : del (um M a o) a = M := by
  funext b
  by_cases e : b = a
  · subst e; rw [del_same, h]
  · rw [del_ne e, um_ne e]
abbrev SlKs {κ : Type} (K : PySem.W.Frag) (B : Hp) : List (κ × V) → List (κ × Sl) → Prop := Paired fun p q => p.1 = q.1 ∧ SlOk K B p.2 q.2
/-- keys and values stand -/
abbrev SlNs (K : PySem.W.Frag) (B : Hp) : List (NK × Addr × V) → List (NK × Sl) → Prop := Paired fun p q => p.1 = q.1 ∧ (Dq K B (.ref p.2.1) p.1.data ∧ p.1.depth ≤ 8) ∧ SlOk K B p.2.2 q.2
def MOk (K : PySem.W.Frag) (B : Hp) (u : HO) : MO → Prop
  | .lst xs => ∃ vs, u = .lst vs ∧ SlAll K B vs xs
  | .dK kvs => ∃ vs, u = .dK vs ∧ SlKs K B vs kvs
  | .ins C dx fs => ∃ vs, u = .ins C dx vs ∧ SlKs K B vs fs
  | .xd fs => ∃ vs, u = .xd vs ∧ SlKs K B vs fs
  | .ho o => u = o
  | .dN P w a kvs => ∃ vs, u = HN P w a vs ∧ SlNs K B vs kvs
  | .frz ob v o => u = .frz ob v ∧ MOk K B v o
theorem MOk.re {K : PySem.W.Frag} {B B' : Hp} (e : Re B B') {u : HO} {o : MO} (h : MOk K B u o) : MOk K B' u o := by
  induction o generalizing u with
  | lst xs => obtain ⟨vs, h1, h2⟩ := h; exact ⟨vs, h1, Paired.mapP h2 fun _ _ q => q.re e⟩
  | dK xs => obtain ⟨vs, h1, h2⟩ := h; exact ⟨vs, h1, Paired.mapP h2 fun _ _ q => ⟨q.1, q.2.re e⟩⟩
  | ins C dx xs => obtain ⟨vs, h1, h2⟩ := h; exact ⟨vs, h1, Paired.mapP h2 fun _ _ q => ⟨q.1, q.2.re e⟩⟩
  | xd xs => obtain ⟨vs, h1, h2⟩ := h; exact ⟨vs, h1, Paired.mapP h2 fun _ _ q => ⟨q.1, q.2.re e⟩⟩
  | ho o => exact h
  | dN P w a kvs => obtain ⟨vs, h1, h2⟩ := h; exact ⟨vs, h1, Paired.mapP h2 fun _ _ q => ⟨q.1, ⟨dp_re0 e q.2.1.1, q.2.1.2⟩, q.2.2.re e⟩⟩
  | frz ob v o ih => exact ⟨h.1, ih h.2⟩
theorem MOk.mono {K : PySem.W.Frag} {B B' : Hp} (e : Same B B') {u : HO} {o : MO} (h : MOk K B u o) : MOk K B' u o := by
  induction o generalizing u with
  | lst xs => obtain ⟨vs, h1, h2⟩ := h; exact ⟨vs, h1, h2.mono e⟩
  | dK xs => obtain ⟨vs, h1, h2⟩ := h; exact ⟨vs, h1, Paired.mapP h2 fun _ _ q => ⟨q.1, q.2.mono e⟩⟩
  | ins C dx xs => obtain ⟨vs, h1, h2⟩ := h; exact ⟨vs, h1, Paired.mapP h2 fun _ _ q => ⟨q.1, q.2.mono e⟩⟩
  | xd xs => obtain ⟨vs, h1, h2⟩ := h; exact ⟨vs, h1, Paired.mapP h2 fun _ _ q => ⟨q.1, q.2.mono e⟩⟩
  | ho o => exact h
  | dN P w a kvs => obtain ⟨vs, h1, h2⟩ := h; exact ⟨vs, h1, Paired.mapP h2 fun _ _ q => ⟨q.1, ⟨dp_same e _ _ q.2.1.1, q.2.1.2⟩, q.2.2.mono e⟩⟩
  | frz ob v o ih => exact ⟨h.1, ih h.2⟩
structure Sep (K : PySem.W.Frag) (B : Hp) (M : MH) (H : Hp) : Prop where
  sub : Same B H
  has : ∀ a o, M a = some o → B a = none ∧ ∃ u, H a = some u ∧ MOk K B u o
section
variable {K : PySem.W.Frag} {B H : Hp} {M : MH}
theorem Sep.freeB (S : Sep K B M H) {p : Addr} (h : H p = none) : B p = none := S.sub.free h
theorem Sep.freeM (S : Sep K B M H) {p : Addr} (h : H p = none) : M p = none := by
  cases e : M p with
  | none => rfl
  | some o =>
    obtain ⟨_, u, hu, _⟩ := S.has p o e
    rw [h] at hu; cases hu
/-- a new object that nobody will change -/
theorem Sep.alloc (S : Sep K B M H) {p : Addr} {o : HO} (h : H p = none) : Sep K (upd B p o) M (upd H p o) := by
  have hB := S.freeB h
  refine ⟨fun b u e => ?_, fun a u e => ?_⟩
  · by_cases hb : b = p
    · subst hb; rw [upd_same] at e ⊢; exact e
    · rw [upd_ne hb] at e ⊢; exact S.sub b u e
  · obtain ⟨h1, w, h2, h3⟩ := S.has a u e
    have hne : a ≠ p := ne_of_none h2 h
    exact ⟨by rw [upd_ne hne]; exact h1, w, by rw [upd_ne hne]; exact h2, h3.mono (same_new hB)⟩
/-- a new object that may be changed -/
theorem Sep.new (S : Sep K B M H) {p : Addr} {u : HO} {o : MO} (h : H p = none) (ok : MOk K B u o) : Sep K B (um M p o) (upd H p u) := by
  have hB := S.freeB h
  refine ⟨fun b w e => ?_, fun a w e => ?_⟩
  · rw [upd_ne (ne_of_none e hB)]; exact S.sub b w e
  · by_cases ha : a = p
    · subst ha
      rw [um_same] at e; cases e
      exact ⟨hB, u, upd_same, ok⟩
    · rw [um_ne ha] at e
      obtain ⟨h1, w', h2, h3⟩ := S.has a w e
      exact ⟨h1, w', by rw [upd_ne ha]; exact h2, h3⟩
/-- it is changed -/
theorem Sep.put (S : Sep K B M H) {p : Addr} {u : HO} {o o' : MO} (h : M p = some o) (ok : MOk K B u o') : Sep K B (um M p o') (upd H p u) := by
  obtain ⟨hB, _, _, _⟩ := S.has p o h
  refine ⟨fun b w e => ?_, fun a w e => ?_⟩
  · rw [upd_ne (ne_of_none e hB)]; exact S.sub b w e
  · by_cases ha : a = p
    · subst ha
      rw [um_same] at e; cases e
      exact ⟨hB, u, upd_same, ok⟩
    · rw [um_ne ha] at e
      obtain ⟨h1, w', h2, h3⟩ := S.has a w e
      exact ⟨h1, w', by rw [upd_ne ha]; exact h2, h3⟩
/-- it will not be changed any more -/
theorem Sep.freeze (S : Sep K B M H) {p : Addr} {u : HO} {o : MO} (h : M p = some o) (hu : H p = some u) : Sep K (upd B p u) (del M p) H := by
  obtain ⟨hB, _, _, _⟩ := S.has p o h
  refine ⟨fun b w e => ?_, fun a w e => ?_⟩
  · by_cases hb : b = p
    · subst hb; rw [upd_same] at e; cases e; exact hu
    · rw [upd_ne hb] at e; exact S.sub b w e
  · by_cases ha : a = p
    · subst ha; rw [del_same] at e; cases e
    · rw [del_ne ha] at e
      obtain ⟨h1, w', h2, h3⟩ := S.has a w e
      exact ⟨by rw [upd_ne ha]; exact h1, w', h2, h3.mono (same_new hB)⟩
/-- less may be said -/
theorem Sep.drop (S : Sep K B M H) {p : Addr} : Sep K B (del M p) H := ⟨S.sub, fun a o e => by
  by_cases ha : a = p
  · subst ha; rw [del_same] at e; cases e
  · rw [del_ne ha] at e; exact S.has a o e⟩
end
/-- a list that is known else -/
def LsK (K : PySem.W.Frag) (s : Sl) (xs : List Sl) : Prop := ∀ (B H : Hp) (v : V), Same B H → SlOk K B v s → ∃ a vs, v = .ref a ∧ SqL K H a vs ∧ SlAll K B vs xs
/-- a list that is read: data, or one that may change -/
def LsV (K : PySem.W.Frag) (s : Sl) (M : MH) (xs : List Sl) : Prop := (∃ ds, s = .dat (.list ds) ∧ xs = ds.map .dat) ∨ (∃ a, s = .raw (.ref a) ∧ M a = some (.lst xs)) ∨ LsK K s xs
def TpV (s : Sl) (xs : List Sl) : Prop := ∃ ds, s = .dat (.tuple ds) ∧ xs = ds.map .dat
theorem lsv_dat {K : PySem.W.Frag} {ds : List PyData} {M : MH} : LsV K (.dat (.list ds)) M (ds.map .dat) := .inl ⟨ds, rfl, rfl⟩
theorem lsv_ref {K : PySem.W.Frag} {a : Addr} {M : MH} {xs : List Sl} (h : M a = some (.lst xs)) : LsV K (.raw (.ref a)) M xs := .inr (.inl ⟨a, rfl, h⟩)
theorem tpv_dat {ds : List PyData} : TpV (.dat (.tuple ds)) (ds.map .dat) := ⟨ds, rfl, rfl⟩
section
variable {K : PySem.W.Frag} {B H : Hp} {M : MH} {v : V} {s : Sl} {xs : List Sl}
theorem LsV.get (h : LsV K s M xs) (S : Sep K B M H) (o : SlOk K B v s) : ∃ a vs, v = .ref a ∧ SqL K H a vs ∧ SlAll K B vs xs := by
  rcases h with ⟨ds, rfl, rfl⟩ | ⟨a, rfl, e⟩ | h
  · cases o with
    | lst hs ha => exact ⟨_, _, rfl, .inl (.inl (S.sub _ _ hs)), sla_dat ha⟩
  · obtain ⟨_, u, hu, vs, rfl, ha⟩ := S.has a _ e
    exact ⟨a, vs, o, SqL.of hu, ha⟩
  · exact h B H v S.sub o
/-- a list that is no constant of the module -/
def LsR (s : Sl) (M : MH) (xs : List Sl) : Prop := (∃ ds, s = .dat (.list ds) ∧ xs = ds.map .dat) ∨ ∃ a, s = .raw (.ref a) ∧ M a = some (.lst xs)
theorem lsr_dat {ds : List PyData} {M : MH} : LsR (.dat (.list ds)) M (ds.map .dat) := .inl ⟨ds, rfl, rfl⟩
theorem LsR.get (h : LsR s M xs) (S : Sep K B M H) (o : SlOk K B v s) : ∃ a vs, v = .ref a ∧ Rd H a (.lst vs) ∧ SlAll K B vs xs := by
  rcases h with ⟨ds, rfl, rfl⟩ | ⟨a, rfl, e⟩
  · cases o with
    | lst hs ha => exact ⟨_, _, rfl, .inl (S.sub _ _ hs), sla_dat ha⟩
  · obtain ⟨_, u, hu, vs, rfl, ha⟩ := S.has a _ e
    exact ⟨a, vs, o, Rd.of hu, ha⟩
theorem TpV.get (h : TpV s xs) (S : Sep K B M H) (o : SlOk K B v s) : ∃ a vs, v = .ref a ∧ SqT K H a vs ∧ SlAll K B vs xs := by
  obtain ⟨ds, rfl, rfl⟩ := h
  cases o with
  | tup hs ha => exact ⟨_, _, rfl, same_t S.sub hs, sla_dat ha⟩
theorem SlAll.len {vs : List V} (h : SlAll K B vs xs) : vs.length = xs.length := Paired.length h
end
/-- where a def stands: the module's part, what is wanted of an exception (W), and what is told of it (X) -/
structure KX where
  K : PySem.W.Frag
  W : WX
  X : Value → Option Addr → Rho → MH → Prop
/-- nothing is raised -/
abbrev KX.pure (K : PySem.W.Frag) : KX := ⟨K, fun _ _ _ _ => False, fun _ _ _ _ => False⟩
instance : Coe KX PySem.W.Frag := ⟨KX.K⟩
instance : Coe PySem.W.Frag KX := ⟨KX.pure⟩
def XOk (k : KX) (B : Hp) : Prop := ∀ C d ρ' M' σ' B' H', k.X C d ρ' M' → Same B B' → Rl0 k.K B' σ' ρ' → Sep k.K B' M' H' → k.W C d σ' H'
structure Rl (k : KX) (B : Hp) (σ : L2.St) (ρ : Rho) : Prop where
  r : Rl0 k.K B σ ρ
  x : XOk k B
section
variable {k : KX} {B B' : Hp} {σ : L2.St} {ρ : Rho}
theorem Rl.mono (e : Same B B') (h : Rl k B σ ρ) : Rl k B' σ ρ := ⟨h.r.mono e, fun C d ρ' M' σ' B2 H' q e2 => h.x C d ρ' M' σ' B2 H' q (e.trans e2)⟩
theorem Rl.get {i : Nat} {s : Sl} (h : Rl k B σ ρ) (e : ρ[i]? = some (some s)) : ∃ v, σ[i]? = some (some v) ∧ SlOk k.K B v s := h.r.get e
theorem Rl.put {v : V} {s : Sl} (r : SlOk k.K B v s) (i : Nat) (h : Rl k B σ ρ) : Rl k B (σ.set i (some v)) (ρ.set i (some s)) := ⟨h.r.put r i, h.x⟩
theorem Rl.non (i : Nat) (h : Rl k B σ ρ) : Rl k B (σ.set i none) (ρ.set i none) := ⟨h.r.non i, h.x⟩
theorem Rl.wiped (h : Rl k B σ ρ) (vs : List Nat) : Rl k B (wipe σ vs) (wipeR ρ vs) := ⟨h.r.wiped vs, h.x⟩
end
def W (K : KX) (te : TE) (ρ : Rho) (M : MH) (Q : Sl → MH → Prop) : Prop :=
  ∀ σ B H, Rl K B σ ρ → Sep K B M H → ∀ Q0 : VK, (∀ s v M' B' H', Q s M' → Same B B' → Sep K B' M' H' → SlOk K B' v s → Q0 v H') → te σ H Q0
def WT (K : KX) (te : TT) (ρ : Rho) (M : MH) (Q : Bool → MH → Prop) : Prop :=
  ∀ σ B H, Rl K B σ ρ → Sep K B M H → ∀ Q0 : Bool → Hp → Prop, (∀ b M' B' H', Q b M' → Same B B' → Sep K B' M' H' → Q0 b H') → te σ H Q0
def WA (K : KX) (te : TA) (ρ : Rho) (M : MH) (Q : List Sl → MH → Prop) : Prop :=
  ∀ σ B H, Rl K B σ ρ → Sep K B M H → ∀ Q0 : List V → Hp → Prop, (∀ ss vs M' B' H', Q ss M' → Same B B' → Sep K B' M' H' → SlAll K B' vs ss → Q0 vs H') → te σ H Q0
def WO (K : KX) (te : TO) (ρ : Rho) (M : MH) (Q : Option Int → MH → Prop) : Prop :=
  ∀ σ B H, Rl K B σ ρ → Sep K B M H → ∀ Q0 : Option Int → Hp → Prop, (∀ b M' B' H', Q b M' → Same B B' → Sep K B' M' H' → Q0 b H') → te σ H Q0
/-- operations on values -/
def W2 (K : PySem.W.Frag) (r : R2) (x y : Sl) (M : MH) (Q : Sl → MH → Prop) : Prop :=
  ∀ B H v w, Sep K B M H → SlOk K B v x → SlOk K B w y → ∀ Q0 : VK, (∀ s z M' B' H', Q s M' → Same B B' → Sep K B' M' H' → SlOk K B' z s → Q0 z H') → r v w H Q0
def W1 (K : PySem.W.Frag) (r : V → Hp → VK → Prop) (x : Sl) (M : MH) (Q : Sl → MH → Prop) : Prop :=
  ∀ B H v, Sep K B M H → SlOk K B v x → ∀ Q0 : VK, (∀ s z M' B' H', Q s M' → Same B B' → Sep K B' M' H' → SlOk K B' z s → Q0 z H') → r v H Q0
def WL (K : PySem.W.Frag) (r : List V → Hp → VK → Prop) (xs : List Sl) (M : MH) (Q : Sl → MH → Prop) : Prop :=
  ∀ B H vs, Sep K B M H → SlAll K B vs xs → ∀ Q0 : VK, (∀ s z M' B' H', Q s M' → Same B B' → Sep K B' M' H' → SlOk K B' z s → Q0 z H') → r vs H Q0
def WM (K : PySem.W.Frag) (r : V → List V → Hp → VK → Prop) (x : Sl) (xs : List Sl) (M : MH) (Q : Sl → MH → Prop) : Prop :=
  ∀ B H v vs, Sep K B M H → SlOk K B v x → SlAll K B vs xs → ∀ Q0 : VK, (∀ s z M' B' H', Q s M' → Same B B' → Sep K B' M' H' → SlOk K B' z s → Q0 z H') → r v vs H Q0
def WSl (K : PySem.W.Frag) (r : V → Option Int → Option Int → Hp → VK → Prop) (x : Sl) (lo hi : Option Int) (M : MH) (Q : Sl → MH → Prop) : Prop :=
  ∀ B H v, Sep K B M H → SlOk K B v x → ∀ Q0 : VK, (∀ s z M' B' H', Q s M' → Same B B' → Sep K B' M' H' → SlOk K B' z s → Q0 z H') → r v lo hi H Q0
/-- targets -/
def WG (K : KX) (g : TG) (x : Sl) (ρ : Rho) (M : MH) (Q : Rho → MH → Prop) : Prop :=
  ∀ σ B H v, Rl K B σ ρ → Sep K B M H → SlOk K B v x → ∀ Q0 : L2.St → Hp → Prop, (∀ ρ' M' σ' B' H', Q ρ' M' → Same B B' → Rl K B' σ' ρ' → Sep K B' M' H' → Q0 σ' H') → g v σ H Q0
/-- statements -/
structure AE where
  nx : Rho → MH → Prop
  rt : Sl → MH → Prop
  bk : Rho → MH → Prop
  ct : Rho → MH → Prop
def NoR : Rho → MH → Prop := fun _ _ => False
def WS (K : KX) (t : TS) (ρ : Rho) (M : MH) (P : AE) : Prop :=
  ∀ σ B H D, Rl K B σ ρ → Sep K B M H →
    (∀ ρ' M' σ' B' H', P.nx ρ' M' → Same B B' → Rl K B' σ' ρ' → Sep K B' M' H' → D.nx σ' H') →
    (∀ s v M' B' H', P.rt s M' → Same B B' → Sep K B' M' H' → SlOk K B' v s → D.rt v H') →
    (∀ ρ' M' σ' B' H', P.bk ρ' M' → Same B B' → Rl K B' σ' ρ' → Sep K B' M' H' → D.bk σ' H') →
    (∀ ρ' M' σ' B' H', P.ct ρ' M' → Same B B' → Rl K B' σ' ρ' → Sep K B' M' H' → D.ct σ' H') → t D σ H
section
variable {K : KX} {ρ : Rho} {M : MH} {Q Q' : Sl → MH → Prop} {ta tb te tc : TE} {r r' : R2} {P : AE}
theorem W.imp (h : W K te ρ M Q) (k : ∀ s M', Q s M' → Q' s M') : W K te ρ M Q' := fun σ B H hR hS Q0 q => h σ B H hR hS Q0 fun s v M' B' H' z => q s v M' B' H' (k _ _ z)
theorem WS.imp {t : TS} {P' : AE} (h : WS K t ρ M P) (h1 : ∀ ρ' M', P.nx ρ' M' → P'.nx ρ' M') (h2 : ∀ s M', P.rt s M' → P'.rt s M') (h3 : ∀ ρ' M', P.bk ρ' M' → P'.bk ρ' M') (h4 : ∀ ρ' M', P.ct ρ' M' → P'.ct ρ' M') : WS K t ρ M P' :=
  fun σ B H D hR hS a b c d => h σ B H D hR hS (fun ρ' M' σ' B' H' z => a ρ' M' σ' B' H' (h1 _ _ z)) (fun s v M' B' H' z => b s v M' B' H' (h2 _ _ z)) (fun ρ' M' σ' B' H' z => c ρ' M' σ' B' H' (h3 _ _ z)) (fun ρ' M' σ' B' H' z => d ρ' M' σ' B' H' (h4 _ _ z))
theorem w_var {i : Nat} {s : Sl} (h : ρ[i]? = some (some s)) (q : Q s M) : W K (tVar i) ρ M Q := fun σ B H hR hS Q0 k => by
  obtain ⟨v, e, o⟩ := hR.get h
  exact ⟨v, e, k s v M B H q (Same.refl B) hS o⟩
theorem w_int {i : Int} (q : Q (.int i) M) : W K (tC (.int i)) ρ M Q := fun σ B H hR hS Q0 k => k _ _ M B H q (Same.refl B) hS slok_int
theorem w_str {x : Str} (q : Q (.str x) M) : W K (tC (.str x)) ρ M Q := fun σ B H hR hS Q0 k => k _ _ M B H q (Same.refl B) hS slok_str
theorem w_bl {b : Bool} (q : Q (.bl b) M) : W K (tC (.bl b)) ρ M Q := fun σ B H hR hS Q0 k => k _ _ M B H q (Same.refl B) hS slok_bl
theorem w_non (q : Q .non M) : W K (tC .non) ρ M Q := fun σ B H hR hS Q0 k => k _ _ M B H q (Same.refl B) hS slok_non
theorem w_raw {v : V} (q : Q (.raw v) M) : W K (tC v) ρ M Q := fun σ B H hR hS Q0 k => k (.raw v) v M B H q (Same.refl B) hS rfl
theorem w_op (h : W K ta ρ M fun x M1 => W K tb ρ M1 fun y M2 => W2 K r x y M2 Q) : W K (tOp r ta tb) ρ M Q := fun σ B H hR hS Q0 k =>
  h σ B H hR hS _ fun x v M1 B1 H1 hb e1 S1 o1 => hb σ B1 H1 (hR.mono e1) S1 _ fun y w M2 B2 H2 hr e2 S2 o2 =>
    hr B2 H2 v w S2 (o1.mono e2) o2 Q0 fun s z M3 B3 H3 q e3 S3 o3 => k s z M3 B3 H3 q ((e1.trans e2).trans e3) S3 o3
theorem w_un {r : V → Hp → VK → Prop} (h : W K ta ρ M fun x M1 => W1 K r x M1 Q) : W K (tUn r ta) ρ M Q := fun σ B H hR hS Q0 k =>
  h σ B H hR hS _ fun x v M1 B1 H1 hr e1 S1 o1 => hr B1 H1 v S1 o1 Q0 fun s z M3 B3 H3 q e3 S3 o3 => k s z M3 B3 H3 q (e1.trans e3) S3 o3
theorem wa_nil {Q : List Sl → MH → Prop} (q : Q [] M) : WA K tNil ρ M Q := fun σ B H hR hS Q0 k => k [] [] M B H q (Same.refl B) hS .nil
theorem wa_cons {tr : TA} {Q : List Sl → MH → Prop} (h : W K ta ρ M fun x M1 => WA K tr ρ M1 fun xs M2 => Q (x :: xs) M2) : WA K (tCons ta tr) ρ M Q := fun σ B H hR hS Q0 k =>
  h σ B H hR hS _ fun x v M1 B1 H1 hb e1 S1 o1 => hb σ B1 H1 (hR.mono e1) S1 _ fun xs vs M2 B2 H2 q e2 S2 o2 =>
    k (x :: xs) (v :: vs) M2 B2 H2 q (e1.trans e2) S2 (.cons (o1.mono e2) o2)
/-- a built-in called -/
theorem w_cb {t : TA} {r : List V → Hp → VK → Prop} (h : WA K t ρ M fun xs M1 => WL K r xs M1 Q) : W K (tCB r t) ρ M Q := fun σ B H hR hS Q0 k =>
  h σ B H hR hS _ fun xs vs M1 B1 H1 hr e1 S1 o1 => hr B1 H1 vs S1 o1 Q0 fun s z M3 B3 H3 q e3 S3 o3 => k s z M3 B3 H3 q (e1.trans e3) S3 o3
/-- a tuple, a list of data -/
theorem w_tup {t : TA} (h : WA K t ρ M fun xs M1 => ∃ ds, xs = ds.map .dat ∧ ds.length ≤ 1000000 ∧ Q (.dat (.tuple ds)) M1) : W K (tTup t) ρ M Q := fun σ B H hR hS Q0 k =>
  h σ B H hR hS _ fun xs vs M1 B1 H1 ⟨ds, e, hl, q⟩ e1 S1 o1 => by
    subst e
    have hd := dpa_of o1
    have hlen := DqAll.length hd
    exact ⟨Nat.le_trans (by omega) (show 1000000 ≤ sizeLine by decide), fun p hp => k _ _ M1 (upd B1 p (.tup vs)) _ q (e1.trans (same_new (S1.freeB hp))) (S1.alloc hp) (Dq.tup (SqT.of upd_same) (dpa_same (same_new (S1.freeB hp)) _ _ hd))⟩
theorem w_lst {t : TA} (h : WA K t ρ M fun xs M1 => ∃ ds, xs = ds.map .dat ∧ ds.length ≤ 1000000 ∧ Q (.dat (.list ds)) M1) : W K (tLst t) ρ M Q := fun σ B H hR hS Q0 k =>
  h σ B H hR hS _ fun xs vs M1 B1 H1 ⟨ds, e, hl, q⟩ e1 S1 o1 => by
    subst e
    have hd := dpa_of o1
    have hlen := DqAll.length hd
    exact ⟨Nat.le_trans (by omega) (show 1000000 ≤ sizeLine by decide), fun p hp => k _ _ M1 (upd B1 p (.lst vs)) _ q (e1.trans (same_new (S1.freeB hp))) (S1.alloc hp) (Dq.lst upd_same (dpa_same (same_new (S1.freeB hp)) _ _ hd))⟩
/-- a list that will be changed -/
theorem w_lstM {t : TA} (h : WA K t ρ M fun xs M1 => xs.length ≤ 1000000 ∧ ∀ p, M1 p = none → Q (.raw (.ref p)) (um M1 p (.lst xs))) : W K (tLst t) ρ M Q := fun σ B H hR hS Q0 k =>
  h σ B H hR hS _ fun xs vs M1 B1 H1 ⟨hl, q⟩ e1 S1 o1 => by
    have hlen := SlAll.len o1
    exact ⟨Nat.le_trans (by omega) (show 1000000 ≤ sizeLine by decide), fun p hp => k _ _ _ B1 _ (q p (S1.freeM hp)) e1 (S1.new hp ⟨vs, rfl, o1⟩) rfl⟩
/-- tests -/
theorem wt_test {Q : Bool → MH → Prop} (h : W K te ρ M fun s M1 => ∃ b, s = .bl b ∧ Q b M1) : WT K (tTest te) ρ M Q := fun σ B H hR hS Q0 k =>
  h σ B H hR hS _ fun s v M1 B1 H1 ⟨b, e, q⟩ e1 S1 o1 => by
    subst e
    exact ⟨b, of_bl o1, k b M1 B1 H1 q e1 S1⟩
theorem wt_B {Q : Bool → MH → Prop} (h : W K te ρ M fun s M1 => ∃ b, s = .bl b ∧ Q b M1) : WT K (tB te) ρ M Q := fun σ B H hR hS Q0 k =>
  h σ B H hR hS _ fun s v M1 B1 H1 ⟨b, e, q⟩ e1 S1 o1 => by
    subst e
    exact ⟨b, of_bl o1, k b M1 B1 H1 q e1 S1⟩
theorem wt_and {t u : TT} {Q : Bool → MH → Prop} (h : WT K t ρ M fun b M1 => if b = true then WT K u ρ M1 Q else Q false M1) : WT K (tAnd t u) ρ M Q := fun σ B H hR hS Q0 k =>
  h σ B H hR hS _ fun b M1 B1 H1 q e1 S1 => by
    cases b with
    | true => exact q σ B1 H1 (hR.mono e1) S1 Q0 fun b2 M2 B2 H2 q2 e2 S2 => k b2 M2 B2 H2 q2 (e1.trans e2) S2
    | false => exact k false M1 B1 H1 q e1 S1
theorem wt_or {t u : TT} {Q : Bool → MH → Prop} (h : WT K t ρ M fun b M1 => if b = true then Q true M1 else WT K u ρ M1 Q) : WT K (tOr t u) ρ M Q := fun σ B H hR hS Q0 k =>
  h σ B H hR hS _ fun b M1 B1 H1 q e1 S1 => by
    cases b with
    | false => exact q σ B1 H1 (hR.mono e1) S1 Q0 fun b2 M2 B2 H2 q2 e2 S2 => k b2 M2 B2 H2 q2 (e1.trans e2) S2
    | true => exact k true M1 B1 H1 q e1 S1
theorem wt_not {t : TT} {Q : Bool → MH → Prop} (h : WT K t ρ M fun b M1 => Q (!b) M1) : WT K (tNot t) ρ M Q := fun σ B H hR hS Q0 k =>
  h σ B H hR hS _ fun b M1 B1 H1 q e1 S1 => k _ M1 B1 H1 q e1 S1
theorem w_andV (h : W K ta ρ M fun s M1 => ∃ b, s = .bl b ∧ if b = true then W K tb ρ M1 Q else Q (.bl false) M1) : W K (tAndV ta tb) ρ M Q := fun σ B H hR hS Q0 k =>
  h σ B H hR hS _ fun s v M1 B1 H1 ⟨b, e, q⟩ e1 S1 o1 => by
    subst e
    refine ⟨b, of_bl o1, ?_⟩
    cases b with
    | true => exact q σ B1 H1 (hR.mono e1) S1 Q0 fun s v M2 B2 H2 q2 e2 S2 o2 => k s v M2 B2 H2 q2 (e1.trans e2) S2 o2
    | false => exact k _ _ M1 B1 H1 q e1 S1 slok_bl
theorem w_orV (h : W K ta ρ M fun s M1 => ∃ b, s = .bl b ∧ if b = true then Q (.bl true) M1 else W K tb ρ M1 Q) : W K (tOrV ta tb) ρ M Q := fun σ B H hR hS Q0 k =>
  h σ B H hR hS _ fun s v M1 B1 H1 ⟨b, e, q⟩ e1 S1 o1 => by
    subst e
    refine ⟨b, of_bl o1, ?_⟩
    cases b with
    | false => exact q σ B1 H1 (hR.mono e1) S1 Q0 fun s v M2 B2 H2 q2 e2 S2 o2 => k s v M2 B2 H2 q2 (e1.trans e2) S2 o2
    | true => exact k _ _ M1 B1 H1 q e1 S1 slok_bl
theorem w_notV (h : W K ta ρ M fun s M1 => ∃ b, s = .bl b ∧ Q (.bl (!b)) M1) : W K (tNotV ta) ρ M Q := fun σ B H hR hS Q0 k =>
  h σ B H hR hS _ fun s v M1 B1 H1 ⟨b, e, q⟩ e1 S1 o1 => by
    subst e
    exact ⟨b, of_bl o1, k _ _ M1 B1 H1 q e1 S1 slok_bl⟩
theorem w_chain (h : W K ta ρ M fun x M1 => W K tb ρ M1 fun y M2 => W2 K r x y M2 fun z M3 => ∃ b, z = .bl b ∧ if b = true then W K tc ρ M3 fun w M4 => W2 K r' y w M4 Q else Q (.bl false) M3) :
    W K (tChain r r' ta tb tc) ρ M Q := fun σ B H hR hS Q0 k =>
  h σ B H hR hS _ fun x v M1 B1 H1 hb e1 S1 o1 => hb σ B1 H1 (hR.mono e1) S1 _ fun y w M2 B2 H2 hr e2 S2 o2 =>
    hr B2 H2 v w S2 (o1.mono e2) o2 _ fun s z M3 B3 H3 ⟨b, eb, q⟩ e3 S3 o3 => by
      subst eb
      refine ⟨b, of_bl o3, ?_⟩
      cases b with
      | true =>
        show tc σ H3 _
        exact q σ B3 H3 (hR.mono ((e1.trans e2).trans e3)) S3 _ fun y' w' M4 B4 H4 q4 e4 S4 o4 => q4 B4 H4 w w' S4 (o2.mono (e3.trans e4)) o4 Q0 fun s5 z5 M5 B5 H5 q5 e5 S5 o5 => k s5 z5 M5 B5 H5 q5 ((((e1.trans e2).trans e3).trans e4).trans e5) S5 o5
      | false =>
        show Q0 (.bl false) H3
        exact k _ _ M3 B3 H3 q ((e1.trans e2).trans e3) S3 slok_bl
/-- slices -/
theorem wo_none {Q : Option Int → MH → Prop} (q : Q none M) : WO K tNoPart ρ M Q := fun σ B H hR hS Q0 k => k none M B H q (Same.refl B) hS
theorem wo_some {Q : Option Int → MH → Prop} (h : W K te ρ M fun s M1 => ∃ i, s = .int i ∧ Q (some i) M1) : WO K (tPart te) ρ M Q := fun σ B H hR hS Q0 k =>
  h σ B H hR hS _ fun s v M1 B1 H1 ⟨i, e, q⟩ e1 S1 o1 => by
    subst e
    exact ⟨i, of_int o1, k _ M1 B1 H1 q e1 S1⟩
theorem w_sl {r : V → Option Int → Option Int → Hp → VK → Prop} {tl th : TO} (h : W K te ρ M fun x M1 => WO K tl ρ M1 fun lo M2 => WO K th ρ M2 fun hi M3 => WSl K r x lo hi M3 Q) : W K (tSl r te tl th) ρ M Q := fun σ B H hR hS Q0 k =>
  h σ B H hR hS _ fun x v M1 B1 H1 h1 e1 S1 o1 => h1 σ B1 H1 (hR.mono e1) S1 _ fun lo M2 B2 H2 h2 e2 S2 => h2 σ B2 H2 (hR.mono (e1.trans e2)) S2 _ fun hi M3 B3 H3 h3 e3 S3 =>
    h3 B3 H3 v S3 (o1.mono (e2.trans e3)) Q0 fun s z M4 B4 H4 q e4 S4 o4 => k s z M4 B4 H4 q (((e1.trans e2).trans e3).trans e4) S4 o4
/-- methods of built-in types -/
theorem w_bm {T : String} {r : V → List V → Hp → VK → Prop} {t : TA} (h : W K ta ρ M fun x M1 => (∀ B H v, Sep K B M1 H → SlOk K B v x → tyV K T v H) ∧ WA K t ρ M1 fun xs M2 => WM K r x xs M2 Q) : W K (tBM K T r ta t) ρ M Q := fun σ B H hR hS Q0 k =>
  h σ B H hR hS _ fun x v M1 B1 H1 ⟨ht, h1⟩ e1 S1 o1 => ⟨ht B1 H1 v S1 o1, h1 σ B1 H1 (hR.mono e1) S1 _ fun xs vs M2 B2 H2 h2 e2 S2 o2 =>
    h2 B2 H2 v vs S2 (o1.mono e2) o2 Q0 fun s z M4 B4 H4 q e4 S4 o4 => k s z M4 B4 H4 q ((e1.trans e2).trans e4) S4 o4⟩
theorem ty_lst {K : PySem.W.Frag} {s : Sl} {xs : List Sl} (h : LsV K s M xs) : ∀ B H v, Sep K B M H → SlOk K B v s → tyV K "list" v H := fun B H v S o => by
  obtain ⟨a, vs, e, hq, _⟩ := h.get S o
  subst e
  exact .inl ⟨rfl, _, hq⟩
end
end Ab
set_option Elab.async false
set_option linter.all false
set_option maxRecDepth 1000000
set_option  maxHeartbeats 4000000
namespace Ab
open PySem L2
section
variable {K : KX} {ρ : Rho} {M : MH} {Q Q' : Sl → MH → Prop} {ta tb te tc : TE} {r r' : R2} {nx bk ct : Rho → MH → Prop} {rt : Sl → MH → Prop}
theorem ws_next (q : nx ρ M) : WS K tNext ρ M ⟨nx, rt, bk, ct⟩ := fun σ B H D hR hS a b c d => a ρ M σ B H q (Same.refl B) hR hS
theorem ws_seq {t u : TS} (h : WS K t ρ M ⟨fun ρ' M' => WS K u ρ' M' ⟨nx, rt, bk, ct⟩, rt, bk, ct⟩) : WS K (tSeq t u) ρ M ⟨nx, rt, bk, ct⟩ := fun σ B H D hR hS a b c d =>
  h σ B H { D with nx := u D } hR hS (fun ρ1 M1 σ1 B1 H1 q e1 R1 S1 => q σ1 B1 H1 D R1 S1 (fun ρ2 M2 σ2 B2 H2 q2 e2 => a ρ2 M2 σ2 B2 H2 q2 (e1.trans e2)) (fun s v M2 B2 H2 q2 e2 => b s v M2 B2 H2 q2 (e1.trans e2))
    (fun ρ2 M2 σ2 B2 H2 q2 e2 => c ρ2 M2 σ2 B2 H2 q2 (e1.trans e2)) (fun ρ2 M2 σ2 B2 H2 q2 e2 => d ρ2 M2 σ2 B2 H2 q2 (e1.trans e2))) b c d
theorem ws_drop (h : W K te ρ M fun _ M' => nx ρ M') : WS K (tDrop te) ρ M ⟨nx, rt, bk, ct⟩ := fun σ B H D hR hS a b c d =>
  h σ B H hR hS _ fun s v M' B' H' q e S o => a ρ M' σ B' H' q e (hR.mono e) S
theorem ws_ret (h : W K te ρ M rt) : WS K (tRet te) ρ M ⟨nx, rt, bk, ct⟩ := fun σ B H D hR hS a b c d => h σ B H hR hS _ fun s v M' B' H' q e S o => b s v M' B' H' q e S o
theorem ws_if {t : TT} {tu tw : TS} (h : WT K t ρ M fun b M' => if b = true then WS K tu ρ M' ⟨nx, rt, bk, ct⟩ else WS K tw ρ M' ⟨nx, rt, bk, ct⟩) : WS K (tIfS t tu tw) ρ M ⟨nx, rt, bk, ct⟩ := fun σ B H D hR hS a b c d =>
  h σ B H hR hS _ fun k M1 B1 H1 q e1 S1 => by
    cases k with
    | true =>
      exact q σ B1 H1 D (hR.mono e1) S1 (fun ρ2 M2 σ2 B2 H2 q2 e2 => a ρ2 M2 σ2 B2 H2 q2 (e1.trans e2)) (fun s v M2 B2 H2 q2 e2 => b s v M2 B2 H2 q2 (e1.trans e2)) (fun ρ2 M2 σ2 B2 H2 q2 e2 => c ρ2 M2 σ2 B2 H2 q2 (e1.trans e2)) (fun ρ2 M2 σ2 B2 H2 q2 e2 => d ρ2 M2 σ2 B2 H2 q2 (e1.trans e2))
    | false =>
      exact q σ B1 H1 D (hR.mono e1) S1 (fun ρ2 M2 σ2 B2 H2 q2 e2 => a ρ2 M2 σ2 B2 H2 q2 (e1.trans e2)) (fun s v M2 B2 H2 q2 e2 => b s v M2 B2 H2 q2 (e1.trans e2)) (fun ρ2 M2 σ2 B2 H2 q2 e2 => c ρ2 M2 σ2 B2 H2 q2 (e1.trans e2)) (fun ρ2 M2 σ2 B2 H2 q2 e2 => d ρ2 M2 σ2 B2 H2 q2 (e1.trans e2))
theorem ws_asg {g : TG} (h : W K te ρ M fun s M1 => WG K g s ρ M1 nx) : WS K (tAsg te g) ρ M ⟨nx, rt, bk, ct⟩ := fun σ B H D hR hS a b c d =>
  h σ B H hR hS _ fun s v M1 B1 H1 q e1 S1 o1 => q σ B1 H1 v (hR.mono e1) S1 o1 D.nx fun ρ2 M2 σ2 B2 H2 q2 e2 R2 S2 => a ρ2 M2 σ2 B2 H2 q2 (e1.trans e2) R2 S2
theorem wg_name {i : Nat} {x : Sl} {Q : Rho → MH → Prop} (q : Q (ρ.set i (some x)) M) : WG K (gName i) x ρ M Q := fun σ B H v hR hS o Q0 k => k _ M _ B H q (Same.refl B) (Rl.put o i hR) hS
theorem ws_set {i : Nat} (h : W K te ρ M fun s M1 => nx (ρ.set i (some s)) M1) : WS K (tAsg te (gName i)) ρ M ⟨nx, rt, bk, ct⟩ := ws_asg (h.imp fun s M1 q => wg_name q)
/-- targets a, b -/
def WGs (K : KX) (g : TGs) (xs : List Sl) (ρ : Rho) (M : MH) (Q : Rho → MH → Prop) : Prop :=
  ∀ σ B H vs, Rl K B σ ρ → Sep K B M H → SlAll K B vs xs → ∀ Q0 : L2.St → Hp → Prop, (∀ ρ' M' σ' B' H', Q ρ' M' → Same B B' → Rl K B' σ' ρ' → Sep K B' M' H' → Q0 σ' H') → g vs σ H Q0
theorem wgs_nil {Q : Rho → MH → Prop} (q : Q ρ M) : WGs K gNil [] ρ M Q := fun σ B H vs hR hS o Q0 k => by
  cases o
  exact ⟨rfl, k ρ M σ B H q (Same.refl B) hR hS⟩
theorem wgs_cons {g : TG} {gs : TGs} {x : Sl} {xs : List Sl} {Q : Rho → MH → Prop} (h : WG K g x ρ M fun ρ1 M1 => WGs K gs xs ρ1 M1 Q) : WGs K (gCons g gs) (x :: xs) ρ M Q := fun σ B H vs hR hS o Q0 k => by
  cases o with
  | cons o1 o2 =>
    exact ⟨_, _, rfl, h σ B H _ hR hS o1 _ fun ρ1 M1 σ1 B1 H1 q e1 R1 S1 => q σ1 B1 H1 _ R1 S1 (SlAll.mono e1 o2) Q0 fun ρ2 M2 σ2 B2 H2 q2 e2 R2 S2 => k ρ2 M2 σ2 B2 H2 q2 (e1.trans e2) R2 S2⟩
theorem wg_tup {n : Nat} {g : TGs} {x : Sl} {ds : List PyData} {Q : Rho → MH → Prop} (hx : x = .dat (.tuple ds)) (hn : ds.length = n) (h : WGs K g (ds.map .dat) ρ M Q) : WG K (gTup K n g) x ρ M Q := fun σ B H v hR hS o Q0 k => by
  subst hx
  obtain ⟨a, vs, e, hq, ha⟩ := (tpv_dat (ds := ds)).get hS o
  exact ⟨a, vs, e, hq, by rw [SlAll.len ha, List.length_map, hn], h σ B H vs hR hS ha Q0 k⟩
/-- o[i] = e, a list that may change -/
theorem ws_setL {to ti : TE} (h : W K te ρ M fun s M1 => W K to ρ M1 fun o M2 => W K ti ρ M2 fun ix M3 => ∃ a xs k j, o = .raw (.ref a) ∧ ix = .int k ∧ M3 a = some (.lst xs) ∧ ixN xs.length k = some j ∧ nx ρ (um M3 a (.lst (xs.set j s)))) : WS K (tAsg te (gSub to ti rSetL)) ρ M ⟨nx, rt, bk, ct⟩ := fun σ B H D hR hS p1 p2 p3 p4 =>
  h σ B H hR hS _ fun s v M1 B1 H1 h1 e1 S1 o1 => h1 σ B1 H1 (hR.mono e1) S1 _ fun o w M2 B2 H2 h2 e2 S2 o2 => h2 σ B2 H2 (hR.mono (e1.trans e2)) S2 _ fun ix u M3 B3 H3 ⟨a, xs, k, j, eo, ei, hM, hj, q⟩ e3 S3 o3 => by
    subst eo ei
    obtain ⟨_, u1, hu, vs, rfl, ha⟩ := S3.has a _ hM
    have hl := SlAll.len ha
    refine ⟨a, vs, k, j, o2, of_int o3, hu, by rw [hl]; exact hj, ?_⟩
    exact p1 ρ _ σ B3 _ q ((e1.trans e2).trans e3) (hR.mono ((e1.trans e2).trans e3)) (S3.put hM ⟨_, rfl, SlAll.setI (o1.mono (e2.trans e3)) j ha⟩)
/-- o[i] += e, a list of ints -/
def rGetL (K : PySem.W.Frag) : V → V → Hp → VK → Prop := fun o i H Q => ∃ p xs k j v, o = .ref p ∧ i = .int k ∧ SqL K H p xs ∧ 0 ≤ k ∧ k.toNat = j ∧ xs[j]? = some v ∧ Q v H
theorem pget_list {X : Cx} : PGet X (rGetL X.K) := by
  intro pins s σ H o i ov iv Q I ro ri h
  obtain ⟨p, xs, k, j, v, rfl, rfl, hq, h0, hj, hv, q⟩ := h
  cases ro
  obtain ⟨t, rfl⟩ := ri
  obtain ⟨its, r, pl, fits⟩ := I.list hq
  obtain ⟨w, ew, rw'⟩ := r.get hv
  have hl := r.length
  have hn := line63
  have hjl := (List.getElem?_eq_some_iff.mp ew).1
  subst hj
  exact wpAny_getItem_list pl.isList h0 (by omega) (by simpa using ew) ⟨v, H, I, rw', q⟩
theorem ws_augL {to ti : TE} {f : Int → Int → Int} (h : W K to ρ M fun o M1 => W K ti ρ M1 fun ix M2 => ∃ a xs k x, o = .raw (.ref a) ∧ ix = .int (k : Nat) ∧ M2 a = some (.lst xs) ∧ xs[k]? = some (.int x) ∧ W K te ρ M2 fun s M3 => ∃ b, s = .int b ∧ M3 a = some (.lst xs) ∧ nx ρ (um M3 a (.lst (xs.set k (.int (f x b)))))) :
    WS K (tAugS to ti te (rGetL K) (ipI f) rSetL) ρ M ⟨nx, rt, bk, ct⟩ := fun σ B H D hR hS p1 p2 p3 p4 =>
  h σ B H hR hS _ fun o v M1 B1 H1 h1 e1 S1 o1 => h1 σ B1 H1 (hR.mono e1) S1 _ fun ix w M2 B2 H2 ⟨a, xs, k, x, eo, ei, hM, hx, h2⟩ e2 S2 o2 => by
    subst eo ei
    obtain ⟨_, u1, hu, vs, rfl, ha⟩ := S2.has a _ hM
    obtain ⟨y, hy, oy⟩ := SlAll.get ha hx
    refine ⟨a, vs, k, k, y, o1, of_int o2, SqL.of hu, by omega, by omega, hy, ?_⟩
    refine h2 σ B2 H2 (hR.mono (e1.trans e2)) S2 _ fun s z M3 B3 H3 ⟨b, es, hM3, q⟩ e3 S3 o3 => ?_
    subst es
    obtain ⟨_, u3, hu3, vs3, rfl, ha3⟩ := S3.has a _ hM3
    have hk : k < xs.length := (List.getElem?_eq_some_iff.mp hx).1
    have hl := SlAll.len ha3
    refine ⟨x, b, of_int oy, of_int o3, a, vs3, k, k, o1, of_int o2, hu3, ?_, ?_⟩
    · unfold ixN
      iterate 2 rw [if_pos (by omega)]
      simp
    · exact p1 ρ _ σ B3 _ q ((e1.trans e2).trans e3) (hR.mono ((e1.trans e2).trans e3)) (S3.put hM3 ⟨_, rfl, SlAll.setI slok_int k ha3⟩)
theorem w2_i0 {K : PySem.W.Frag} {f : Int → Int → Int} {i j : Int} (q : Q (.int (f i j)) M) : W2 K (rI0 fun i j => .int (f i j)) (.int i) (.int j) M Q := fun B H v w hS h1 h2 Q0 k => ⟨i, j, of_int h1, of_int h2, k _ _ M B H q (Same.refl B) hS slok_int⟩
theorem w2_b0 {K : PySem.W.Frag} {f : Int → Int → Bool} {i j : Int} (q : Q (.bl (f i j)) M) : W2 K (rI0 fun i j => .bl (f i j)) (.int i) (.int j) M Q := fun B H v w hS h1 h2 Q0 k => ⟨i, j, of_int h1, of_int h2, k _ _ M B H q (Same.refl B) hS slok_bl⟩
theorem w2_i {K : PySem.W.Frag} {C : Int → Int → Prop} {f : Int → Int → Int} {i j : Int} (hc : C i j) (q : Q (.int (f i j)) M) : W2 K (rI C fun i j => .int (f i j)) (.int i) (.int j) M Q := fun B H v w hS h1 h2 Q0 k => ⟨i, j, of_int h1, of_int h2, hc, k _ _ M B H q (Same.refl B) hS slok_int⟩
theorem w1_neg {K : PySem.W.Frag} {i : Int} (q : Q (.int (-i)) M) : W1 K (rU fun i => .int (-i)) (.int i) M Q := fun B H v hS h1 Q0 k => ⟨i, of_int h1, k _ _ M B H q (Same.refl B) hS slok_int⟩
theorem w2_eq {K : PySem.W.Frag} {d e : PyData} (h1 : SeqAt.shaped d = true) (h2 : SeqAt.shaped e = true) (q : Q (.bl (PyData.eqv d e)) M) : W2 K (rEqD K) (.dat d) (.dat e) M Q := fun B H v w hS o1 o2 Q0 k =>
  ⟨d, e, dq_dpS h1 (dp_same hS.sub _ _ o1), dq_dpS h2 (dp_same hS.sub _ _ o2), h1, h2, k _ _ M B H q (Same.refl B) hS slok_bl⟩
theorem w2_ne {K : PySem.W.Frag} {d e : PyData} (h1 : SeqAt.shaped d = true) (h2 : SeqAt.shaped e = true) (q : Q (.bl (!PyData.eqv d e)) M) : W2 K (rNeD K) (.dat d) (.dat e) M Q := fun B H v w hS o1 o2 Q0 k =>
  ⟨d, e, dq_dpS h1 (dp_same hS.sub _ _ o1), dq_dpS h2 (dp_same hS.sub _ _ o2), h1, h2, k _ _ M B H q (Same.refl B) hS slok_bl⟩
theorem w2_notIn {K : PySem.W.Frag} {d : PyData} {ds : List PyData} (h1 : SeqAt.shaped d = true) (h2 : SeqAt.shaped (.list ds) = true) (q : Q (.bl (!ds.any fun z => PyData.eqv z d)) M) : W2 K (rNotInD K) (.dat d) (.dat (.list ds)) M Q := fun B H v w hS o1 o2 Q0 k =>
  ⟨d, ds, dq_dpS h1 (dp_same hS.sub _ _ o1), dq_dpS h2 (dp_same hS.sub _ _ o2), h1, h2, k _ _ M B H q (Same.refl B) hS slok_bl⟩
/-- is None, is not None -/
def rIsN : R2 := fun u z H Q => z = .non ∧ Q (.bl (decide (u = .non))) H
def rNotN : R2 := fun u z H Q => z = .non ∧ Q (.bl (!decide (u = .non))) H
def isNon : PyData → Bool
  | .none => true
  | _ => false
theorem dp_non {K : PySem.W.Frag} {B : Hp} {v : V} {d : PyData} (h : Dq K B v d) : decide (v = .non) = isNon d := by
  cases h <;> first | rfl | exact decide_eq_false (fun e => nomatch e)
theorem w2_isN {K : PySem.W.Frag} {d : PyData} (q : Q (.bl (isNon d)) M) : W2 K rIsN (.dat d) .non M Q := fun B H v w hS o1 o2 Q0 k => ⟨of_non o2, by
  rw [dp_non o1]
  exact k _ _ M B H q (Same.refl B) hS slok_bl⟩
theorem w2_notN {K : PySem.W.Frag} {d : PyData} (q : Q (.bl (!isNon d)) M) : W2 K rNotN (.dat d) .non M Q := fun B H v w hS o1 o2 Q0 k => ⟨of_non o2, by
  rw [dp_non o1]
  exact k _ _ M B H q (Same.refl B) hS slok_bl⟩
/-- xs[i], t[i], s[i] -/
theorem atI_map {α β : Type} (f : α → β) (xs : List α) (i : Int) : atI (xs.map f) i = (atI xs i).map f := by
  unfold atI
  rw [List.length_map]
  cases ixN xs.length i with
  | none => rfl
  | some j => simp
theorem slall_atI {K : PySem.W.Frag} {B : Hp} {vs : List V} {ss : List Sl} {s : Sl} {i : Int} (h : SlAll K B vs ss) (e : atI ss i = some s) : ∃ v, atI vs i = some v ∧ SlOk K B v s := by
  unfold atI at e ⊢
  rw [SlAll.len h]
  cases hj : ixN ss.length i with
  | none => rw [hj] at e; cases e
  | some j =>
    rw [hj] at e
    exact SlAll.get h e
theorem w2_ixL {K : PySem.W.Frag} {s x : Sl} {xs : List Sl} {i : Int} (hs : LsV K s M xs) (hx : atI xs i = some x) (q : Q x M) : W2 K (rIxL K) s (.int i) M Q := fun B H v w hS o1 o2 Q0 k => by
  obtain ⟨a, vs, rfl, hq, ha⟩ := hs.get hS o1
  obtain ⟨z, hz, oz⟩ := slall_atI ha hx
  exact ⟨a, vs, i, z, rfl, of_int o2, hq, hz, k x z M B H q (Same.refl B) hS oz⟩
theorem w2_ixT {K : PySem.W.Frag} {d : PyData} {ds : List PyData} {i : Int} (hx : atI ds i = some d) (q : Q (.dat d) M) : W2 K (rIxT K) (.dat (.tuple ds)) (.int i) M Q := fun B H v w hS o1 o2 Q0 k => by
  obtain ⟨a, vs, rfl, hq, ha⟩ := (tpv_dat (ds := ds)).get hS o1
  obtain ⟨z, hz, oz⟩ := slall_atI (s := .dat d) ha (by rw [atI_map, hx]; rfl)
  exact ⟨a, vs, i, z, rfl, of_int o2, hq, hz, k _ z M B H q (Same.refl B) hS oz⟩
/-- xs + ys, lists that are read -/
def rCatL (K : PySem.W.Frag) : R2 := fun x y H Q => ∃ l b xs zs, x = .ref l ∧ y = .ref b ∧ SqL K H l xs ∧ SqL K H b zs ∧ xs.length + zs.length ≤ sizeLine ∧ ∀ p, H p = none → Q (.ref p) (upd H p (.lst (xs ++ zs)))
theorem op_catL {X : Cx} : OpR X (binaryOp .Add) (rCatL X.K) := fun pins s σ H x y v u Q I rx ry ⟨l, m, us, ws, e1, e2, hU, hW, hz, q⟩ => by
  subst e1 e2
  cases rx
  cases ry
  have sizes : us.length + ws.length ≤ sizeLine := hz
  obtain ⟨is, r, ⟨⟨_, _, _, sl⟩, n, ho, hc, hdn, hd⟩, _⟩ := I.list hU
  obtain ⟨js, r2, ⟨⟨_, _, _, sl2⟩, n2, ho2, hc2, hdn2, hd2⟩, _⟩ := I.list hW
  simp only at hc hd hdn hc2 hd2 hdn2
  subst hc hd hdn hc2 hd2 hdn2
  have k1 := r.length
  have k2 := r2.length
  refine concat_meets ⟨_, ho, rfl⟩ ⟨_, ho2, rfl⟩ PySem.noFill_list_add PySem.seq_list_add PySem.F.slot_list_add PySem.F.entry_list_add (PySem.F.args_list_add_2 _ _) (PyProof.Rows.list_addW l m is.toArray js.toArray n n2 none none sl sl2 (by simp; omega)) ⟨ho, ho2, ?_⟩
  rw [show is.toArray ++ js.toArray = (is ++ js).toArray by simp]
  exact ⟨.ref _, _, I.lnew (t' := s.toks) (r.append r2) (by simp; omega), rfl, q _ I.fresh⟩
theorem lst_ok {K : PySem.W.Frag} {B : Hp} {p : Addr} {vs : List V} {ds : List PyData} (h : DqAll K B vs ds) (hp : B p = none) : SlOk K (upd B p (.lst vs)) (.ref p) (.dat (.list ds)) := Dq.lst upd_same (dpa_same (same_new hp) _ _ h)
theorem tup_ok {K : PySem.W.Frag} {B : Hp} {p : Addr} {vs : List V} {ds : List PyData} (h : DqAll K B vs ds) (hp : B p = none) : SlOk K (upd B p (.tup vs)) (.ref p) (.dat (.tuple ds)) := Dq.tup (SqT.of upd_same) (dpa_same (same_new hp) _ _ h)
theorem w2_cat {K : PySem.W.Frag} {s t : Sl} {ds es : List PyData} (h1 : LsV K s M (ds.map .dat)) (h2 : LsV K t M (es.map .dat)) (hl : ds.length + es.length ≤ 1000000) (q : Q (.dat (.list (ds ++ es))) M) : W2 K (rCatL K) s t M Q := fun B H v w hS o1 o2 Q0 k => by
  obtain ⟨a, vs, rfl, hq, ha⟩ := h1.get hS o1
  obtain ⟨b, ws, rfl, hq2, ha2⟩ := h2.get hS o2
  have l1 := SlAll.len ha
  have l2 := SlAll.len ha2
  rw [List.length_map] at l1 l2
  refine ⟨a, b, vs, ws, rfl, rfl, hq, hq2, Nat.le_trans (by omega) (show 1000000 ≤ sizeLine by decide), fun p hp => ?_⟩
  exact k _ _ M (upd B p (.lst (vs ++ ws))) _ q (same_new (hS.freeB hp)) (hS.alloc hp) (lst_ok (DqAll.app (dpa_of ha) (dpa_of ha2)) (hS.freeB hp))
/-- [x] * n -/
def repD (ds : List PyData) (n : Nat) : List PyData := (List.replicate n ds).flatten
theorem dpa_rep {K : PySem.W.Frag} {B : Hp} {vs : List V} {ds : List PyData} (h : DqAll K B vs ds) : ∀ n : Nat, DqAll K B (List.replicate n vs).flatten (repD ds n)
  | 0 => .nil
  | n + 1 => by
    unfold repD
    simp only [List.replicate_succ, List.flatten_cons]
    exact DqAll.app h (dpa_rep h n)
/-- a list that is read, times an int -/
def rRepL : R2 := fun x y H Q => ∃ l k xs, x = .ref l ∧ y = .int k ∧ Rd H l (.lst xs) ∧ -(2 ^ 63) ≤ k ∧ k < 2 ^ 63 ∧ xs.length * k.toNat ≤ sizeLine ∧ ∀ p, H p = none → Q (.ref p) (upd H p (.lst (List.replicate k.toNat xs).flatten))
theorem rep_arr (r : List Value) (m : Nat) : (List.replicate (if r.toArray.isEmpty = true then 0 else m) r.toArray).foldl (· ++ ·) #[] = (List.replicate m r).flatten.toArray := by
  have all : (List.replicate m r.toArray).foldl (· ++ ·) #[] = (List.replicate m r).flatten.toArray := by simpa using foldl_rep r m []
  match r, all with
  | [], _ => simp
  | _ :: _, e => rw [if_neg (by simp)]; exact e
theorem op_repL {X : Cx} : OpR X (binaryOp .Mult) rRepL := fun pins s σ H x y v u Q I rx ry ⟨l, n, vs, e1, e2, hR, n1, n2, hn, q⟩ => by
  subst e1 e2
  cases rx
  obtain ⟨t, rfl⟩ := ry
  obtain ⟨_, rs, m, r, o⟩ := hR.ok I.hok
  have sz : rs.toArray.size * n.toNat ≤ sizeLine := by simpa [← r.length] using hn
  have big : (sizeLine : Nat) ≤ (2 ^ 63 - 1) / 8 := by decide
  have call := AutoListH.list___mul___list_int_3 l rs.toArray m n t (by rw [fitsIndex_both n1 n2]; simp) (by omega) (by rw [notLongL sz]; simp)
  refine wpAny_binaryOp_repeat_ref (T := "list") (U := "int") (by decide) ⟨_, o, rfl⟩ (fun z => typeIs_int z n t) PySem.noFill_list_mul F.fills_int_mul F.slot_int_rmul PySem.repeat_list F.slot_int_index.lookup ?_
  refine call_meets F.slot_int_rmul (typeIs_int s n t) F.entry_int_rmul (F.args_int_rmul_2 _ _) (int___rmul___int_list n t l rs.toArray m) ⟨o, rfl, ⟨_, o, rfl⟩, ?_⟩
  refine call_meets F.slot_list_mul ⟨_, o, rfl⟩ F.entry_list_mul (F.args_list_mul_2 _ _) call ⟨o, ?_⟩
  rw [show List.foldl (fun x1 x2 => x1 ++ x2) #[] (List.replicate (if rs.toArray.isEmpty = true then 0 else n.toNat) rs.toArray) = _ from rep_arr rs n.toNat]
  have fit : (List.replicate n.toNat vs).flatten.length ≤ sizeLine := by simpa [Nat.mul_comm] using hn
  exact ⟨.ref _, _, I.lnew (t' := s.toks) (r.rep n.toNat) fit, rfl, q _ I.fresh⟩
theorem w2_rep {K : PySem.W.Frag} {s : Sl} {ds : List PyData} {i : Int} (h : LsR s M (ds.map .dat)) (i1 : -(2 ^ 63) ≤ i) (i2 : i < 2 ^ 63) (hl : ds.length * i.toNat ≤ 1000000) (q : Q (.dat (.list (repD ds i.toNat))) M) : W2 K rRepL s (.int i) M Q := fun B H v w hS o1 o2 Q0 k => by
  obtain ⟨a, vs, rfl, hq, ha⟩ := h.get hS o1
  have l1 := SlAll.len ha
  rw [List.length_map] at l1
  refine ⟨a, i, vs, rfl, of_int o2, hq, i1, i2, Nat.le_trans (by rw [l1]; exact hl) (show 1000000 ≤ sizeLine by decide), fun p hp => ?_⟩
  exact k _ _ _ (upd B p (.lst (List.replicate i.toNat vs).flatten)) _ q (same_new (hS.freeB hp)) (hS.alloc hp) (lst_ok (dpa_rep (dpa_of ha) _) (hS.freeB hp))
/-- xs[lo:hi] -/
def cutG {α : Type} (xs : List α) (lo hi : Option Int) : List α := (xs.drop (HT.sIx xs.length 0 lo)).take (HT.sIx xs.length xs.length hi - HT.sIx xs.length 0 lo)
theorem cutG_map {α β : Type} (f : α → β) (xs : List α) (lo hi : Option Int) : cutG (xs.map f) lo hi = (cutG xs lo hi).map f := by
  unfold cutG
  rw [List.length_map, List.map_take, List.map_drop]
theorem dpa_cut {K : PySem.W.Frag} {B : Hp} {vs : List V} {ds : List PyData} (h : DqAll K B vs ds) (lo hi : Option Int) : DqAll K B (cutV vs lo hi) (cutG ds lo hi) := by
  unfold cutV cutG
  rw [DqAll.length h]
  exact DqAll.take _ (DqAll.drop _ h)
theorem wsl_lst {K : PySem.W.Frag} {s : Sl} {ds : List PyData} {lo hi : Option Int} (h : LsV K s M (ds.map .dat)) (q : Q (.dat (.list (cutG ds lo hi))) M) : WSl K (rSlL K) s lo hi M Q := fun B H v hS o Q0 k => by
  obtain ⟨a, vs, rfl, hq, ha⟩ := h.get hS o
  exact ⟨a, vs, rfl, hq, fun p hp => k _ _ M (upd B p (.lst (cutV vs lo hi))) _ q (same_new (hS.freeB hp)) (hS.alloc hp) (lst_ok (dpa_cut (dpa_of ha) lo hi) (hS.freeB hp))⟩
/-- built-ins -/
def rLenS (K : PySem.W.Frag) : List V → Hp → VK → Prop := fun us H Q => ∃ p zs, us = [.ref p] ∧ (SqL K H p zs ∨ SqT K H p zs) ∧ Q (.int zs.length) H
def rListS (K : PySem.W.Frag) : List V → Hp → VK → Prop := fun us H Q => ∃ p zs, us = [.ref p] ∧ (SqL K H p zs ∨ SqT K H p zs) ∧ ∀ l, H l = none → Q (.ref l) (upd H l (.lst zs))
def rTupS (K : PySem.W.Frag) : List V → Hp → VK → Prop := fun xs H Q => ∃ p ys, xs = [.ref p] ∧ ((SqL K H p ys ∧ ∀ l, H l = none → Q (.ref l) (upd H l (.tup ys))) ∨ (SqT K H p ys ∧ Q (.ref p) H))
def rInt1 : List V → Hp → VK → Prop := fun xs H Q => (∃ i, xs = [.int i] ∧ Q (.int i) H) ∨ ∃ k, xs = [.bl k] ∧ Q (.int (if k then 1 else 0)) H
theorem wl_len {K : PySem.W.Frag} {s : Sl} {xs : List Sl} (h : LsV K s M xs) (q : Q (.int (xs.length : Int)) M) : WL K (rLenS K) [s] M Q := fun B H vs hS o Q0 k => by
  cases o with
  | cons o1 o2 =>
    cases o2
    obtain ⟨a, ws, rfl, hq, ha⟩ := h.get hS o1
    refine ⟨a, ws, rfl, .inl hq, ?_⟩
    rw [SlAll.len ha]
    exact k _ _ M B H q (Same.refl B) hS slok_int
theorem wl_lenT {K : PySem.W.Frag} {s : Sl} {xs : List Sl} (h : TpV s xs) (q : Q (.int (xs.length : Int)) M) : WL K (rLenS K) [s] M Q := fun B H vs hS o Q0 k => by
  cases o with
  | cons o1 o2 =>
    cases o2
    obtain ⟨a, ws, rfl, hq, ha⟩ := h.get hS o1
    refine ⟨a, ws, rfl, .inr hq, ?_⟩
    rw [SlAll.len ha]
    exact k _ _ M B H q (Same.refl B) hS slok_int
theorem wl_list {K : PySem.W.Frag} {s : Sl} {ds : List PyData} (h : LsV K s M (ds.map .dat) ∨ TpV s (ds.map .dat)) (q : Q (.dat (.list ds)) M) : WL K (rListS K) [s] M Q := fun B H vs hS o Q0 k => by
  cases o with
  | cons o1 o2 =>
    cases o2
    rcases h with h | h
    · obtain ⟨a, ws, rfl, hq, ha⟩ := h.get hS o1
      exact ⟨a, ws, rfl, .inl hq, fun p hp => k _ _ M (upd B p (.lst ws)) _ q (same_new (hS.freeB hp)) (hS.alloc hp) (lst_ok (dpa_of ha) (hS.freeB hp))⟩
    · obtain ⟨a, ws, rfl, hq, ha⟩ := h.get hS o1
      exact ⟨a, ws, rfl, .inr hq, fun p hp => k _ _ M (upd B p (.lst ws)) _ q (same_new (hS.freeB hp)) (hS.alloc hp) (lst_ok (dpa_of ha) (hS.freeB hp))⟩
theorem wl_tuple {K : PySem.W.Frag} {s : Sl} {ds : List PyData} (h : LsV K s M (ds.map .dat)) (q : Q (.dat (.tuple ds)) M) : WL K (rTupS K) [s] M Q := fun B H vs hS o Q0 k => by
  cases o with
  | cons o1 o2 =>
    cases o2
    obtain ⟨a, ws, rfl, hq, ha⟩ := h.get hS o1
    exact ⟨a, ws, rfl, .inl ⟨hq, fun p hp => k _ _ M (upd B p (.tup ws)) _ q (same_new (hS.freeB hp)) (hS.alloc hp) (tup_ok (dpa_of ha) (hS.freeB hp))⟩⟩
theorem wl_int {K : PySem.W.Frag} {i : Int} (q : Q (.int i) M) : WL K rInt1 [.int i] M Q := fun B H vs hS o Q0 k => by
  cases o with
  | cons o1 o2 =>
    cases o2
    exact .inl ⟨i, by rw [of_int o1], k _ _ M B H q (Same.refl B) hS slok_int⟩
theorem wl_intb {K : PySem.W.Frag} {b : Bool} (q : Q (.int (if b then 1 else 0)) M) : WL K rInt1 [.bl b] M Q := fun B H vs hS o Q0 k => by
  cases o with
  | cons o1 o2 =>
    cases o2
    exact .inr ⟨b, by rw [of_bl o1], k _ _ M B H q (Same.refl B) hS slok_int⟩
/-- isinstance of data, a built-in class -/
def tyD : PyData → String
  | .none => "NoneType"
  | .bool _ => "bool"
  | .int _ => "int"
  | .str _ => "str"
  | .list _ => "list"
  | .tuple _ => "tuple"
  | .dict _ => "dict"
theorem dp_ty {K : PySem.W.Frag} {B H : Hp} (S : Same B H) {v : V} {d : PyData} (h : Dq K B v d) : TyX K H v (.type (tyD d)) := by
  cases h with
  | non => exact .base .non
  | bl b => exact .base (.bl b)
  | int i => exact .base (.int i)
  | str x => exact .base (.str x)
  | lst hs _ => exact .base (.lst (S _ _ hs))
  | tup hs _ =>
    rcases hs with (h | ⟨o, h⟩) | ⟨o, _, _, hk, hc, _⟩
    · exact .base (.tup (S _ _ h))
    · exact .fTuple (S _ _ h)
    · exact .kTuple hk hc
  | dct hs _ =>
    rcases hs with h | ⟨o, h⟩
    · exact .base (.dK (S _ _ h))
    · exact .fDict (S _ _ h)
theorem wl_isi {K : PySem.W.Frag} {d : PyData} {n : String} {b : Bool} (hb : kitB (tyD d) n = some b) (q : Q (.bl b) M) : WL K (rIsi K) [.dat d, .raw (.ty n)] M Q := fun B H vs hS o Q0 k => by
  cases o with
  | cons o1 o2 =>
    cases o2 with
    | cons o2 o3 =>
      cases o3
      obtain rfl : _ = V.ty n := o2
      exact ⟨_, .ty n, _, _, b, rfl, .ty n, dp_ty hS.sub o1, kit_ty hb, k _ _ M B H q (Same.refl B) hS slok_bl⟩
/-- xs.append(e) -/
theorem wm_append {K : PySem.W.Frag} {a : Addr} {xs : List Sl} {s : Sl} (h : M a = some (.lst xs)) (hl : xs.length < 1000000) (q : Q .non (um M a (.lst (xs ++ [s])))) : WM K rAppend (.raw (.ref a)) [s] M Q := fun B H v vs hS o1 o2 Q0 k => by
  cases o2 with
  | cons o2 o3 =>
    cases o3
    obtain ⟨_, u, hu, ws, rfl, ha⟩ := hS.has a _ h
    have hlen := SlAll.len ha
    obtain rfl : v = .ref a := o1
    exact ⟨a, ws, _, rfl, rfl, hu, Nat.lt_of_lt_of_le (by omega) (show 1000000 ≤ sizeLine by decide), k _ _ _ B _ q (Same.refl B) (hS.put h ⟨_, rfl, SlAll.app ha (.cons o2 .nil)⟩) slok_non⟩
end
end Ab
set_option Elab.async false
set_option linter.all false
set_option maxRecDepth 1000000
set_option  maxHeartbeats 4000000
namespace Ab
open PySem L2
section
variable {K : KX} {ρ : Rho} {M : MH} {Q Q' : Sl → MH → Prop} {ta tb te tc : TE} {r r' : R2} {nx bk ct : Rho → MH → Prop} {rt : Sl → MH → Prop}
structure ItOk (K : PySem.W.Frag) (B : Hp) (J : It) (n : Nat) (item : Nat → Sl) (stay : MH → Prop) : Prop where
  go : ∀ i B2 M2 H2, i < n → Same B B2 → Sep K B2 M2 H2 → stay M2 → J.go i H2
  yld : ∀ i B2 M2 H2 x H3, i < n → Same B B2 → Sep K B2 M2 H2 → stay M2 → J.yld i H2 x H3 → ∃ B3, Same B2 B3 ∧ Sep K B3 M2 H3 ∧ SlOk K B3 x (item i)
  stop : ∀ i B2 M2 H2, n ≤ i → Same B B2 → Sep K B2 M2 H2 → stay M2 → J.stop i H2
def WI (K : KX) (wi : TI) (ρ : Rho) (M : MH) (R : Nat → (Nat → Sl) → (MH → Prop) → MH → Prop) : Prop :=
  ∀ σ B H, Rl K B σ ρ → Sep K B M H → ∀ R0 : It → Hp → Prop, (∀ n item stay M' B' H' J, R n item stay M' → Same B B' → Sep K B' M' H' → ItOk K B' J n item stay → R0 J H') → wi σ H R0
theorem ws_for {wi : TI} {g : TG} {tb : TS} (h : WI K wi ρ M fun n item stay M1 => ∃ J : Nat → Rho → MH → Prop, J 0 ρ M1 ∧ (∀ i ρ' M', i ≤ n → J i ρ' M' → stay M') ∧
    (∀ i ρ' M', i < n → J i ρ' M' → WG K g (item i) ρ' M' fun ρ2 M2 => WS K tb ρ2 M2 ⟨J (i + 1), rt, nx, J (i + 1)⟩) ∧ ∀ ρ' M', J n ρ' M' → nx ρ' M') : WS K (tFor wi g tb) ρ M ⟨nx, rt, bk, ct⟩ := fun σ B H D hR hS a b c d =>
  h σ B H hR hS _ fun n item stay M1 B1 H1 It ⟨J, j0, js, jt, je⟩ e1 S1 ok => by
    refine ⟨fun i m σ' H' => m = n - i ∧ i ≤ n ∧ ∃ ρ' M' B', J i ρ' M' ∧ Same B1 B' ∧ Rl K B' σ' ρ' ∧ Sep K B' M' H', ⟨n, by simp, Nat.zero_le _, ρ, M1, B1, j0, Same.refl _, hR.mono e1, S1⟩, ?_⟩
    rintro i m σ' H' ⟨rfl, hi, ρ', M', B', hj, e2, R2, S2⟩
    by_cases hlt : i < n
    · refine .inr ⟨ok.go i B' M' H' hlt e2 S2 (js i ρ' M' hi hj), fun σ2 H2 => ∃ ρ2 M2 B2, J (i + 1) ρ2 M2 ∧ Same B1 B2 ∧ Rl K B2 σ2 ρ2 ∧ Sep K B2 M2 H2, fun σ2 H2 ⟨ρ2, M2, B2, q⟩ => ⟨n - (i + 1), by omega, rfl, hlt, ρ2, M2, B2, q⟩, fun x H3 y => ?_⟩
      obtain ⟨B3, e3, S3, o3⟩ := ok.yld i B' M' H' x H3 hlt e2 S2 (js i ρ' M' hi hj) y
      refine jt i ρ' M' hlt hj σ' B3 H3 x (R2.mono e3) S3 o3 _ fun ρ4 M4 σ4 B4 H4 q4 e4 R4 S4 => ?_
      have e14 : Same B1 B4 := (e2.trans e3).trans e4
      exact q4 σ4 B4 H4 _ R4 S4 (fun ρ5 M5 σ5 B5 H5 q5 e5 R5 S5 => ⟨ρ5, M5, B5, q5, e14.trans e5, R5, S5⟩) (fun s v M5 B5 H5 q5 e5 => b s v M5 B5 H5 q5 ((e1.trans e14).trans e5))
        (fun ρ5 M5 σ5 B5 H5 q5 e5 R5 S5 => a ρ5 M5 σ5 B5 H5 q5 ((e1.trans e14).trans e5) R5 S5) (fun ρ5 M5 σ5 B5 H5 q5 e5 R5 S5 => ⟨ρ5, M5, B5, q5, e14.trans e5, R5, S5⟩)
    · have ei : i = n := by omega
      subst ei
      exact .inl ⟨ok.stop i B' M' H' (Nat.le_refl _) e2 S2 (js i ρ' M' hi hj), a ρ' M' σ' B' H' (je ρ' M' hj) (e1.trans e2) R2 S2⟩
/-- a list -/
theorem wi_list {tl : TE} {R : Nat → (Nat → Sl) → (MH → Prop) → MH → Prop} (h : W K tl ρ M fun s M1 => ∃ xs, LsV K s M1 xs ∧ R xs.length (fun i => xs.getD i .non) (fun M2 => LsV K s M2 xs) M1) : WI K (iList K tl) ρ M R := fun σ B H hR hS R0 k =>
  h σ B H hR hS _ fun s v M1 B1 H1 ⟨xs, hl, q⟩ e1 S1 o1 => by
    obtain ⟨a, vs, rfl, hq, ha⟩ := hl.get S1 o1
    refine ⟨a, rfl, ⟨vs, hq⟩, k xs.length _ _ M1 B1 H1 _ q e1 S1 ⟨fun i B2 M2 H2 hi e2 S2 st => ?_, fun i B2 M2 H2 x H3 hi e2 S2 st y => ?_, fun i B2 M2 H2 hi e2 S2 st => ?_⟩⟩
    · obtain ⟨b, ws, eb, hq2, ha2⟩ := st.get S2 (o1.mono e2)
      cases eb
      obtain ⟨z, hz, _⟩ := SlAll.get ha2 (List.getElem?_eq_getElem hi)
      exact ⟨ws, z, hq2, hz⟩
    · obtain ⟨b, ws, eb, hq2, ha2⟩ := st.get S2 (o1.mono e2)
      cases eb
      obtain ⟨z, hz, oz⟩ := SlAll.get ha2 (List.getElem?_eq_getElem hi)
      obtain ⟨rfl, hy⟩ := y
      have ez : z = x := Option.some.inj (hz.symm.trans (hy ws hq2))
      subst ez
      refine ⟨B2, Same.refl _, S2, ?_⟩
      rw [List.getD_eq_getElem?_getD, List.getElem?_eq_getElem hi]
      exact oz
    · obtain ⟨b, ws, eb, hq2, ha2⟩ := st.get S2 (o1.mono e2)
      cases eb
      exact ⟨ws, hq2, by rw [SlAll.len ha2]; exact hi⟩
/-- a tuple -/
theorem wi_tup {tl : TE} {R : Nat → (Nat → Sl) → (MH → Prop) → MH → Prop} (h : W K tl ρ M fun s M1 => ∃ xs, TpV s xs ∧ R xs.length (fun i => xs.getD i .non) (fun _ => True) M1) : WI K (iTup K tl) ρ M R := fun σ B H hR hS R0 k =>
  h σ B H hR hS _ fun s v M1 B1 H1 ⟨xs, hl, q⟩ e1 S1 o1 => by
    obtain ⟨a, vs, rfl, hq, ha⟩ := hl.get S1 o1
    refine ⟨a, rfl, ⟨vs, hq⟩, k xs.length _ _ M1 B1 H1 _ q e1 S1 ⟨fun i B2 M2 H2 hi e2 S2 st => ?_, fun i B2 M2 H2 x H3 hi e2 S2 st y => ?_, fun i B2 M2 H2 hi e2 S2 st => ?_⟩⟩
    · obtain ⟨b, ws, eb, hq2, ha2⟩ := hl.get S2 (o1.mono e2)
      cases eb
      obtain ⟨z, hz, _⟩ := SlAll.get ha2 (List.getElem?_eq_getElem hi)
      exact ⟨ws, z, hq2, hz⟩
    · obtain ⟨b, ws, eb, hq2, ha2⟩ := hl.get S2 (o1.mono e2)
      cases eb
      obtain ⟨z, hz, oz⟩ := SlAll.get ha2 (List.getElem?_eq_getElem hi)
      obtain ⟨rfl, hy⟩ := y
      have ez : z = x := Option.some.inj (hz.symm.trans (hy ws hq2))
      subst ez
      refine ⟨B2, Same.refl _, S2, ?_⟩
      rw [List.getD_eq_getElem?_getD, List.getElem?_eq_getElem hi]
      exact oz
    · obtain ⟨b, ws, eb, hq2, ha2⟩ := hl.get S2 (o1.mono e2)
      cases eb
      exact ⟨ws, hq2, by rw [SlAll.len ha2]; exact hi⟩
/-- ranges -/
theorem wi_r1 {t : TA} {R : Nat → (Nat → Sl) → (MH → Prop) → MH → Prop} (h : WA K t ρ M fun xs M1 => ∃ n : Int, xs = [.int n] ∧ -(2 ^ 62) ≤ n ∧ n < 2 ^ 62 ∧ R n.toNat (fun i => .int (i : Int)) (fun _ => True) M1) : WI K (iRng1 t) ρ M R := fun σ B H hR hS R0 k =>
  h σ B H hR hS _ fun xs vs M1 B1 H1 ⟨n, e, h1, h2, q⟩ e1 S1 o1 => by
    subst e
    cases o1 with
    | cons o1 o2 =>
      cases o2
      refine ⟨n, by rw [of_int o1], h1, h2, k _ _ _ M1 B1 H1 _ q e1 S1 ⟨fun i B2 M2 H2 hi e2 S2 st => hi, fun i B2 M2 H2 x H3 hi e2 S2 st y => ?_, fun i B2 M2 H2 hi e2 S2 st => hi⟩⟩
      obtain ⟨rfl, rfl⟩ := y
      exact ⟨B2, Same.refl _, S2, by rw [Int.zero_add]; exact slok_int⟩
/-- for x in a list of data, by the part that was taken -/
theorem getD_map {α : Type} {enc : α → PyData} {xs : List α} {i : Nat} (h : i < xs.length) : ((xs.map enc).map Sl.dat).getD i .non = .dat (enc xs[i]) := by
  rw [List.getD_eq_getElem?_getD, List.getElem?_map, List.getElem?_map, List.getElem?_eq_getElem h]
  rfl
theorem split_at {α : Type} {xs : List α} {i : Nat} (h : i < xs.length) : xs = xs.take i ++ xs[i] :: xs.drop (i + 1) := by
  rw [List.getElem_cons_drop, List.take_append_drop]
theorem ws_forR1 {n : Int} {t : TA} {g : TG} {tb : TS} {M1 : MH} (hl : WA K t ρ M fun xs M2 => xs = [.int n] ∧ M2 = M1) (hn : -(2 ^ 62) ≤ n ∧ n < 2 ^ 62) (J : Nat → Rho → MH → Prop) (h0 : J 0 ρ M1)
    (hs : ∀ (i : Nat) ρ' M', (i : Int) < n → J i ρ' M' → WG K g (.int (i : Int)) ρ' M' fun ρ2 M2 => WS K tb ρ2 M2 ⟨J (i + 1), rt, nx, J (i + 1)⟩) (hd : ∀ ρ' M', J n.toNat ρ' M' → nx ρ' M') : WS K (tFor (iRng1 t) g tb) ρ M ⟨nx, rt, bk, ct⟩ :=
  ws_for (wi_r1 fun σ B H hR hS Q0 k => hl σ B H hR hS Q0 fun ss vs M' B' H' ⟨e1, e2⟩ => by
    subst e1 e2
    exact k _ vs _ B' H' ⟨n, rfl, hn.1, hn.2, J, h0, fun _ _ _ _ _ => trivial, fun i ρ' M' hi hj => hs i ρ' M' (by omega) hj, hd⟩)
/-- [te for x in ..], x the slot j; J: how many, what was made, what else stands -/
theorem w_lc {wi : TI} {tt : TT} {j : Nat} {vs : List Nat} (hj : j ∈ vs) (h : WI K wi ρ M fun n item stay M1 => ∃ J : Nat → List PyData → MH → Prop, J 0 [] M1 ∧ (∀ i acc M', i ≤ n → J i acc M' → ∀ D o, M' D = none → stay (um M' D o)) ∧
    (∀ i acc M' D, i < n → J i acc M' → M' D = none → WT K tt ((wipeR ρ vs).set j (some (item i))) (um M' D (.lst (acc.map .dat))) fun b M3 =>
      if b = true then W K te ((wipeR ρ vs).set j (some (item i))) M3 fun s M4 => ∃ d M5, s = .dat d ∧ M4 = um M5 D (.lst (acc.map .dat)) ∧ M5 D = none ∧ acc.length < 1000000 ∧ J (i + 1) (acc ++ [d]) M5
      else ∃ M5, M3 = um M5 D (.lst (acc.map .dat)) ∧ M5 D = none ∧ J (i + 1) acc M5) ∧
    ∀ acc M', J n acc M' → Q (.dat (.list acc)) M') : W K (tLc wi (gName j) tt te vs) ρ M Q := fun σ B H hR hS Q0 k =>
  h σ B H hR hS _ fun n item stay M1 B1 H1 It ⟨J, j0, js, jt, je⟩ e1 S1 ok => fun D hD => by
    have hwp : ∀ x, wipe ((wipe σ vs).set j (some x)) vs = wipe σ vs := fun x => by rw [wipe_set _ _ _ _ hj, wipe_wipe]
    refine ⟨fun i m H' => m = n - i ∧ i ≤ n ∧ ∃ acc M' B', J i acc M' ∧ M' D = none ∧ Same B1 B' ∧ Sep K B' (um M' D (.lst (acc.map .dat))) H', ⟨n, by simp, Nat.zero_le _, [], M1, B1, j0, S1.freeM hD, Same.refl _, S1.new hD ⟨[], rfl, .nil⟩⟩, ?_⟩
    rintro i m H' ⟨rfl, hi, acc, M', B', hj', hMD, e2, S2⟩
    by_cases hlt : i < n
    · refine .inr ⟨ok.go i B' _ H' hlt e2 S2 (js i acc M' hi hj' D _ hMD), fun H2 => ∃ acc M2 B2, J (i + 1) acc M2 ∧ M2 D = none ∧ Same B1 B2 ∧ Sep K B2 (um M2 D (.lst (acc.map .dat))) H2, fun H2 ⟨acc, M2, B2, q⟩ => ⟨n - (i + 1), by omega, rfl, hlt, acc, M2, B2, q⟩, fun x H3 y => ?_⟩
      obtain ⟨B3, e3, S3, o3⟩ := ok.yld i B' _ H' x H3 hlt e2 S2 (js i acc M' hi hj' D _ hMD) y
      refine ⟨hwp x, ?_⟩
      have R3 : Rl K B3 ((wipe σ vs).set j (some x)) ((wipeR ρ vs).set j (some (item i))) := Rl.put o3 j ((hR.mono ((e1.trans e2).trans e3)).wiped vs)
      refine jt i acc M' D hlt hj' hMD _ B3 H3 R3 S3 _ fun b M4 B4 H4 q4 e4 S4 => ?_
      have e14 := (e2.trans e3).trans e4
      cases b with
      | true =>
        refine q4 _ B4 H4 (R3.mono e4) S4 _ fun s v M5 B5 H5 ⟨d, M6, es, em, hn6, hl6, hj6⟩ e5 S5 o5 => ?_
        subst es em
        obtain ⟨_, u, hu, ws, rfl, ha⟩ := S5.has D _ um_same
        have hlen := SlAll.len ha
        rw [List.length_map] at hlen
        refine ⟨ws, hu, Nat.lt_of_lt_of_le (by omega) (show 1000000 ≤ sizeLine by decide), acc ++ [d], M6, B5, hj6, hn6, e14.trans e5, ?_⟩
        have S6 := S5.put (u := .lst (ws ++ [v])) (o' := .lst ((acc ++ [d]).map .dat)) um_same ⟨_, rfl, by rw [List.map_append]; exact SlAll.app ha (.cons o5 .nil)⟩
        rw [um_um] at S6
        exact S6
      | false =>
        obtain ⟨M5, em, hn5, hj5⟩ := q4
        subst em
        exact ⟨acc, M5, B4, hj5, hn5, e14, S4⟩
    · have ei : i = n := by omega
      subst ei
      refine .inl ⟨ok.stop i B' _ H' (Nat.le_refl _) e2 S2 (js i acc M' hi hj' D _ hMD), ?_⟩
      obtain ⟨hB, u, hu, ws, rfl, ha⟩ := S2.has D _ um_same
      have S3 := S2.freeze um_same hu
      rw [del_um hMD] at S3
      exact k _ _ M' _ H' (je acc M' hj') ((e1.trans e2).trans (same_new hB)) S3 (lst_ok (dpa_of ha) hB)
theorem wt_yes {Q : Bool → MH → Prop} (q : Q true M) : WT K tYes ρ M Q := fun σ B H hR hS Q0 k => k true M B H q (Same.refl B) hS
/-- [f(x) for x in a list of data], nothing else is touched -/
theorem w_lcD {α : Type} {enc : α → PyData} {xs : List α} {tl : TE} {j : Nat} {vs : List Nat} {M1 : MH} (hj : j ∈ vs) (hl : W K tl ρ M fun s M2 => s = .dat (.list (xs.map enc)) ∧ M2 = M1) (hz : xs.length ≤ 1000000) (f : α → PyData)
    (he : ∀ x D o, x ∈ xs → M1 D = none → W K te ((wipeR ρ vs).set j (some (.dat (enc x)))) (um M1 D o) fun s M' => s = .dat (f x) ∧ M' = um M1 D o) (q : Q (.dat (.list (xs.map f))) M1) : W K (tLc (iList K tl) (gName j) tYes te vs) ρ M Q :=
  w_lc hj (wi_list (hl.imp fun s M2 ⟨e1, e2⟩ => by
    subst e1 e2
    refine ⟨_, lsv_dat, fun i acc M' => M' = M2 ∧ acc = (xs.take i).map f, ⟨rfl, by simp⟩, fun _ _ _ _ _ _ _ _ => lsv_dat, fun i acc M' D hi ⟨eM, ea⟩ hD => ?_, fun acc M' ⟨eM, ea⟩ => ?_⟩
    · subst eM ea
      have hi' : i < xs.length := by simpa using hi
      refine wt_yes ?_
      show W K te ((wipeR ρ vs).set j (some (((xs.map enc).map Sl.dat).getD i .non))) _ _
      rw [getD_map hi']
      refine (he xs[i] D _ (List.getElem_mem hi') hD).imp fun s M' ⟨e1, e2⟩ => ⟨f xs[i], _, e1, e2, hD, ?_, rfl, ?_⟩
      · rw [List.length_map, List.length_take]
        omega
      · rw [List.take_succ_eq_append_getElem hi', List.map_append]
        rfl
    · subst eM ea
      rw [List.length_map, List.length_map, List.take_length]
      exact q))
end
end Ab
set_option Elab.async false
set_option linter.all false
set_option maxRecDepth 1000000
set_option  maxHeartbeats 4000000
namespace Ab
open PySem PySem.Spec PyProof.Rows L2
/-- what a def makes of what it is given, and of what may change -/
abbrev ASp := List Sl → MH → (Sl → MH → Prop) → Prop
def conc (K : PySem.W.Frag) (A : ASp) : Sp := fun vs H Q _ => ∃ (B : Hp) (M : MH) (ss : List Sl) (QA : Sl → MH → Prop), Sep K B M H ∧ SlAll K B vs ss ∧ A ss M QA ∧ ∀ s v M' B' H', QA s M' → Same B B' → Sep K B' M' H' → SlOk K B' v s → Q v H'
section
variable {K : KX} {ρ : Rho} {M : MH} {Q Q' : Sl → MH → Prop} {ta tb te tc : TE} {P : AE}
theorem w_call {A : ASp} {E : XK} {t : TA} (h : WA K t ρ M fun ss M1 => A ss M1 Q) : W K (tCall (conc K A) [] E t) ρ M Q := fun σ B H hR hS Q0 k =>
  h σ B H hR hS _ fun ss vs M1 B1 H1 q e1 S1 o1 => ⟨B1, M1, ss, Q, S1, by rw [List.append_nil]; exact o1, q, fun s v M2 B2 H2 q2 e2 S2 o2 => k s v M2 B2 H2 q2 (e1.trans e2) S2 o2⟩
def rho0 (n : Nat) (ss : List Sl) : Rho := ss.map some ++ List.replicate (n - ss.length) none
theorem ab_ok {K : PySem.W.Frag} {P : Program} {w : World} {mg : Str → Option Value} {base : Heap} {x qual : Str} {st : Stmt} {f : Addr} {fd : FuncData} {N ps : List Str} {k : Nat} {A : ASp} (F : Fun K x qual st f fd) (S : FnScope N ps (defScope st))
    (hlen : ∀ ss M Q, A ss M Q → ss.length = ps.length)
    (hb : ∀ (cdv : Value) (Ar : Around) (outer : List Env) (s : Shared) (H : Hp) (E : XK), Room k (Ar.deeper (envOfC qual (defScope st) s.heap.objs.size f cdv)) →
      ∃ t, PSs (cxOf CX0 P w K mg base N qual (defScope st) f cdv Ar outer s H E).nox (defBody st) t ∧ ∀ ss M Q, A ss M Q → WS (KX.pure K) t (rho0 N.length ss) M ⟨fun _ M' => Q .non M', Q, NoR, NoR⟩) :
    FnOk P w K mg base CX0 (k + 1) f fd ps (conc K A) := by
  refine F.ok S (fun vs H Q E h => ?_) (fun cdv Ar outer s H vs Q E hr h => ?_)
  · obtain ⟨B, M, ss, QA, hS, hv, ha, _⟩ := h
    rw [SlAll.len hv]
    exact hlen ss M QA ha
  · obtain ⟨B, M, ss, QA, hS, hv, ha, hq⟩ := h
    obtain ⟨t, ht, hw⟩ := hb cdv Ar outer s H E hr
    refine ⟨t, ht, ?_⟩
    have hR : Rl (KX.pure K) B (L2.start N vs) (rho0 N.length ss) := by
      unfold L2.start rho0
      rw [SlAll.len hv]
      exact ⟨rl_start _ hv, fun _ _ _ _ _ _ _ q => q.elim⟩
    exact hw ss M QA ha (L2.start N vs) B H ⟨fun _ H' => Q .non H', Q, _, _⟩ hR hS (fun ρ' M' σ' B' H' q e _ S' => hq .non .non M' B' H' q e S' slok_non) (fun s v M' B' H' q e S' o => hq s v M' B' H' q e S' o) (fun _ _ _ _ _ z => z.elim) (fun _ _ _ _ _ z => z.elim)
end
end Ab
set_option Elab.async false
set_option linter.all false
set_option maxRecDepth 1000000
set_option  maxHeartbeats 4000000
namespace Ab
open PySem PyProof.Rows L2
def datsOf : List Sl → Option (List PyData)
  | [] => some []
  | .dat d :: r => match datsOf r with
    | some ds => some (d :: ds)
    | none => none
  | _ :: _ => none
theorem datsOf_eq : ∀ {xs : List Sl} {ds : List PyData}, datsOf xs = some ds → xs = ds.map .dat
  | [], _, h => by cases h; rfl
  | .dat d :: r, ds, h => by
    unfold datsOf at h
    cases e : datsOf r with
    | none => rw [e] at h; cases h
    | some es =>
      rw [e] at h
      cases h
      rw [datsOf_eq e]
      rfl
  | .raw _ :: _, _, h => by cases h
  | .abs _ _ :: _, _, h => by cases h
section
variable {K : KX} {ρ : Rho} {M : MH} {Q Q' : Sl → MH → Prop} {ta tb te tc : TE} {P : AE}
theorem w_tupD {t : TA} (h : WA K t ρ M fun xs M1 => ∃ ds, datsOf xs = some ds ∧ ds.length ≤ 1000000 ∧ Q (.dat (.tuple ds)) M1) : W K (tTup t) ρ M Q :=
  w_tup fun σ B H hR hS Q0 k => h σ B H hR hS Q0 fun ss vs M' B' H' ⟨ds, e, l, q⟩ => k ss vs M' B' H' ⟨ds, datsOf_eq e, l, q⟩
theorem w_lstD {t : TA} (h : WA K t ρ M fun xs M1 => ∃ ds, datsOf xs = some ds ∧ ds.length ≤ 1000000 ∧ Q (.dat (.list ds)) M1) : W K (tLst t) ρ M Q :=
  w_lst fun σ B H hR hS Q0 k => h σ B H hR hS Q0 fun ss vs M' B' H' ⟨ds, e, l, q⟩ => k ss vs M' B' H' ⟨ds, datsOf_eq e, l, q⟩
theorem ite_b {b : Bool} {A B : Prop} (h1 : b = true → A) (h2 : b = false → B) : if b = true then A else B := by
  cases b with
  | true => exact h1 rfl
  | false => exact h2 rfl
theorem ite_t {b : Bool} {A B : Prop} (e : b = true) (h : A) : if b = true then A else B := by
  rw [if_pos e]; exact h
theorem ite_f {b : Bool} {A B : Prop} (e : b = false) (h : B) : if b = true then A else B := by
  rw [if_neg (by rw [e]; decide)]; exact h
end
/-- a word between a statement and the rest -/
theorem ws_mid {K : KX} {ρ : Rho} {M : MH} {nx bk ct : Rho → MH → Prop} {rt : Sl → MH → Prop} {t u : TS} (Mid : Rho → MH → Prop) (h : WS K t ρ M ⟨Mid, rt, bk, ct⟩) (k : ∀ ρ' M', Mid ρ' M' → WS K u ρ' M' ⟨nx, rt, bk, ct⟩) : WS K (tSeq t u) ρ M ⟨nx, rt, bk, ct⟩ :=
  ws_seq (h.imp k (fun _ _ z => z) (fun _ _ z => z) (fun _ _ z => z))
theorem atI_ok {α : Type} {xs : List α} {i : Int} {x : α} (h0 : 0 ≤ i) (h : xs[i.toNat]? = some x) : atI xs i = some x := by
  obtain ⟨n, rfl⟩ := Int.eq_ofNat_of_zero_le h0
  exact atI_nat (by simpa using h)
theorem get_two {α : Type} {f : α → PyData} {xs : List α} {i : Nat} {x : α} (h : xs[i]? = some x) : ((xs.map f).map Sl.dat)[i]? = some (.dat (f x)) := by
  rw [List.getElem?_map, List.getElem?_map, h]
  rfl
/-- data of small depth whose texts are texts -/
theorem shaped_int (i : Int) : SeqAt.shaped (.int i) = true := by simp [SeqAt.shaped, PyData.canLay0, PyData.depth]
theorem shaped_bool (b : Bool) : SeqAt.shaped (.bool b) = true := by simp [SeqAt.shaped, PyData.canLay0, PyData.depth]
theorem shaped_none : SeqAt.shaped .none = true := by simp [SeqAt.shaped, PyData.canLay0, PyData.depth]
theorem eqv_int (i j : Int) : PyData.eqv (.int i) (.int j) = decide (i = j) := by
  simp only [PyData.eqv]
  by_cases e : i = j
  · subst e; simp
  · rw [decide_eq_false e]; exact beq_eq_false_iff_ne.mpr e
mutual
/-- depth below n, texts that are texts -/
def okD : Nat → PyData → Bool
  | _, .none => true
  | _, .bool _ => true
  | _, .int _ => true
  | _, .str x => PyData.strOk x
  | 0, _ => false
  | n + 1, .list xs => decide (xs.length ≤ 1000000) && okAll n xs
  | n + 1, .tuple xs => decide (xs.length ≤ 1000000) && okAll n xs
  | _, .dict _ => false
def okAll : Nat → List PyData → Bool
  | _, [] => true
  | n, x :: xs => okD n x && okAll n xs
end
mutual
theorem okD_lay : ∀ (n : Nat) (d : PyData), okD n d = true → d.canLay0 = true ∧ d.depth ≤ n + 1
  | n, .none, _ => by simp [PyData.canLay0, PyData.depth]
  | n, .bool _, _ => by simp [PyData.canLay0, PyData.depth]
  | n, .int _, _ => by simp [PyData.canLay0, PyData.depth]
  | n, .str x, h => by
    have h' : PyData.strOk x = true := by cases n <;> simpa [okD] using h
    simp [PyData.canLay0, PyData.depth, h']
  | 0, .list xs, h => by simp [okD] at h
  | 0, .tuple xs, h => by simp [okD] at h
  | n + 1, .list xs, h => by
    have h' : xs.length ≤ 1000000 ∧ okAll n xs = true := by simpa [okD] using h
    have q := okAll_lay n xs h'.2
    simp only [PyData.canLay0, PyData.depth]
    exact ⟨q.1, by omega⟩
  | n + 1, .tuple xs, h => by
    have h' : xs.length ≤ 1000000 ∧ okAll n xs = true := by simpa [okD] using h
    have q := okAll_lay n xs h'.2
    simp only [PyData.canLay0, PyData.depth]
    exact ⟨q.1, by omega⟩
  | n, .dict _, h => by cases n <;> simp [okD] at h
theorem okAll_lay : ∀ (n : Nat) (ds : List PyData), okAll n ds = true → PyData.canLayAll0 ds = true ∧ PyData.depthAll ds ≤ n + 1
  | n, [], _ => by simp [PyData.canLayAll0, PyData.depthAll]
  | n, d :: ds, h => by
    have h' : okD n d = true ∧ okAll n ds = true := by
      simp only [okAll, Bool.and_eq_true] at h
      exact h
    have q1 := okD_lay n d h'.1
    have q2 := okAll_lay n ds h'.2
    simp only [PyData.canLayAll0, PyData.depthAll, Bool.and_eq_true]
    exact ⟨⟨q1.1, q2.1⟩, by omega⟩
end
theorem okD_shaped {n : Nat} {d : PyData} (h : okD n d = true) (hn : n ≤ 60) : SeqAt.shaped d = true := by
  obtain ⟨h1, h2⟩ := okD_lay n d h
  unfold SeqAt.shaped
  rw [h1, decide_eq_true (by omega)]
  rfl
theorem okAll_of {n : Nat} : ∀ {ds : List PyData}, (∀ d ∈ ds, okD n d = true) → okAll n ds = true
  | [], _ => rfl
  | d :: ds, h => by
    show (okD n d && okAll n ds) = true
    rw [h d List.mem_cons_self, okAll_of fun e he => h e (List.mem_cons_of_mem _ he)]
    rfl
theorem okD_mem {n : Nat} : ∀ {ds : List PyData} {d : PyData}, okAll n ds = true → d ∈ ds → okD n d = true
  | [], _, _, h => by cases h
  | x :: xs, d, h, hm => by
    have h' : okD n x = true ∧ okAll n xs = true := by
      simp only [okAll, Bool.and_eq_true] at h
      exact h
    rcases List.mem_cons.mp hm with rfl | hm
    · exact h'.1
    · exact okD_mem h'.2 hm
theorem okD_tuple {n : Nat} {xs : List PyData} (h : okD (n + 1) (.tuple xs) = true) : xs.length ≤ 1000000 ∧ okAll n xs = true := by simpa [okD] using h
theorem okD_mkL {n : Nat} {xs : List PyData} (h : xs.length ≤ 1000000) (h2 : okAll n xs = true) : okD (n + 1) (.list xs) = true := by simp [okD, h, h2]
theorem okD_mkT {n : Nat} {xs : List PyData} (h : xs.length ≤ 1000000) (h2 : okAll n xs = true) : okD (n + 1) (.tuple xs) = true := by simp [okD, h, h2]
@[reducible] def isB : PyData → Bool
  | .bool _ => true
  | _ => false
@[reducible] def isI : PyData → Bool
  | .bool _ => true
  | .int _ => true
  | _ => false
@[reducible] def isS : PyData → Bool
  | .str _ => true
  | _ => false
@[reducible] def isT : PyData → Bool
  | .tuple _ => true
  | _ => false
@[reducible] def isL : PyData → Bool
  | .list _ => true
  | _ => false
theorem isi_bool (d : PyData) : kitB (tyD d) "bool" = some (isB d) := by cases d <;> (simp only [tyD, isB]; decide +kernel)
theorem isi_int (d : PyData) : kitB (tyD d) "int" = some (isI d) := by cases d <;> (simp only [tyD, isI]; decide +kernel)
theorem isi_str (d : PyData) : kitB (tyD d) "str" = some (isS d) := by cases d <;> (simp only [tyD, isS]; decide +kernel)
theorem isi_tuple (d : PyData) : kitB (tyD d) "tuple" = some (isT d) := by cases d <;> (simp only [tyD, isT]; decide +kernel)
theorem isi_list (d : PyData) : kitB (tyD d) "list" = some (isL d) := by cases d <;> (simp only [tyD, isL]; decide +kernel)
section
variable {K : KX} {ρ : Rho} {M : MH} {Q : Sl → MH → Prop}
theorem w2_ixDT {K : PySem.W.Frag} {d : PyData} {ds : List PyData} {i : Int} (hx : atI ds i = some d) (q : Q (.dat d) M) : W2 K (rIx K) (.dat (.tuple ds)) (.int i) M Q := fun B H v w hS o1 o2 Q0 k =>
  .inr (.inl (w2_ixT hx q B H v w hS o1 o2 Q0 k))
end
end Ab
set_option Elab.async false
set_option linter.all false
set_option maxRecDepth 1000000
set_option  maxHeartbeats 4000000
namespace Ab
open PySem PyProof.Rows L2
abbrev lsm {α : Type} (f : α → PyData) (xs : List α) : Sl := .dat (.list (xs.map f))
def itemsI : List Sl → Option (List Int)
  | [] => some []
  | .dat (.int i) :: r => match itemsI r with
    | some ds => some (i :: ds)
    | none => none
  | _ :: _ => none
theorem itemsI_eq : ∀ {xs : List Sl} {ns : List Int}, itemsI xs = some ns → xs = (ns.map PyData.int).map .dat
  | [], _, h => by cases h; rfl
  | .dat (.int i) :: r, ns, h => by
    unfold itemsI at h
    cases e : itemsI r with
    | none => rw [e] at h; cases h
    | some es =>
      rw [e] at h
      cases h
      rw [itemsI_eq e]
      rfl
  | .dat .none :: _, _, h => by cases h
  | .dat (.bool _) :: _, _, h => by cases h
  | .dat (.str _) :: _, _, h => by cases h
  | .dat (.list _) :: _, _, h => by cases h
  | .dat (.tuple _) :: _, _, h => by cases h
  | .dat (.dict _) :: _, _, h => by cases h
  | .raw _ :: _, _, h => by cases h
  | .abs _ _ :: _, _, h => by cases h
section
variable {K : KX} {ρ : Rho} {M : MH} {Q Q' : Sl → MH → Prop} {ta tb te tc : TE} {α : Type} {f : α → PyData}
theorem w_lstI {t : TA} (h : WA K t ρ M fun xs M1 => ∃ ns, itemsI xs = some ns ∧ ns.length ≤ 1000000 ∧ Q (lsm .int ns) M1) : W K (tLst t) ρ M Q :=
  w_lst fun σ B H hR hS Q0 k => h σ B H hR hS Q0 fun ss vs M' B' H' ⟨ns, e, l, q⟩ => k ss vs M' B' H' ⟨_, itemsI_eq e, by rw [List.length_map]; exact l, q⟩
theorem wl_lenE {K : PySem.W.Frag} {xs : List α} (q : Q (.int (xs.length : Int)) M) : WL K (rLenS K) [lsm f xs] M Q := wl_len lsv_dat (by rw [List.length_map, List.length_map]; exact q)
theorem wl_lenD {K : PySem.W.Frag} {ds : List PyData} (q : Q (.int (ds.length : Int)) M) : WL K (rLenS K) [.dat (.list ds)] M Q := wl_len lsv_dat (by rw [List.length_map]; exact q)
theorem wl_lenTD {K : PySem.W.Frag} {ds : List PyData} (q : Q (.int (ds.length : Int)) M) : WL K (rLenS K) [.dat (.tuple ds)] M Q := wl_lenT tpv_dat (by rw [List.length_map]; exact q)
theorem wsl_E {K : PySem.W.Frag} {xs : List α} {lo hi : Option Int} (q : Q (lsm f (cutG xs lo hi)) M) : WSl K (rSlL K) (lsm f xs) lo hi M Q := wsl_lst lsv_dat (by rw [cutG_map]; exact q)
theorem w2_catE {K : PySem.W.Frag} {xs ys : List α} (hl : xs.length + ys.length ≤ 1000000) (q : Q (lsm f (xs ++ ys)) M) : W2 K (rCatL K) (lsm f xs) (lsm f ys) M Q := w2_cat lsv_dat lsv_dat (by rw [List.length_map, List.length_map]; exact hl) (by rw [← List.map_append]; exact q)
theorem repD_map (xs : List α) (n : Nat) : repD (xs.map f) n = ((List.replicate n xs).flatten).map f := by
  unfold repD
  rw [List.map_flatten, List.map_replicate]
theorem w2_repE {K : PySem.W.Frag} {xs : List α} {i : Int} (i1 : -(2 ^ 63) ≤ i) (i2 : i < 2 ^ 63) (hl : xs.length * i.toNat ≤ 1000000) (q : Q (lsm f (List.replicate i.toNat xs).flatten) M) : W2 K rRepL (lsm f xs) (.int i) M Q := w2_rep lsr_dat i1 i2 (by rw [List.length_map]; exact hl) (by rw [repD_map]; exact q)
theorem rep_one {α : Type} (x : α) : ∀ n : Nat, (List.replicate n [x]).flatten = List.replicate n x
  | 0 => rfl
  | n + 1 => by rw [List.replicate_succ, List.flatten_cons, rep_one x n]; rfl
theorem w2_rep1 {K : PySem.W.Frag} {x : α} {i : Int} (i1 : -(2 ^ 63) ≤ i) (i2 : i ≤ 1000000) (q : Q (lsm f (List.replicate i.toNat x)) M) : W2 K rRepL (lsm f [x]) (.int i) M Q := w2_repE i1 (by omega) (by show 1 * i.toNat ≤ 1000000; omega) (by rw [rep_one]; exact q)
theorem wl_listE {K : PySem.W.Frag} {xs : List α} (q : Q (lsm f xs) M) : WL K (rListS K) [lsm f xs] M Q := wl_list (.inl lsv_dat) q
end
theorem cutG_hi {α : Type} (xs : List α) {hi : Int} (h2 : 0 ≤ hi) : cutG xs none (some hi) = xs.take hi.toNat := by
  obtain ⟨h, rfl⟩ := Int.eq_ofNat_of_zero_le h2
  unfold cutG
  rw [HT.sIx_none, HT.sIx_nat, Int.toNat_natCast, List.drop_zero, Nat.sub_zero]
  apply List.ext_getElem?
  intro i
  simp only [List.getElem?_take]
  by_cases c1 : i < xs.length
  · by_cases c2 : i < h
    · rw [if_pos (by omega), if_pos c2]
    · rw [if_neg (by omega), if_neg c2]
  · rw [if_neg (by omega), List.getElem?_eq_none (by omega)]
    split <;> rfl
def scriptA (K : PySem.W.Frag) : Sp := conc K fun ss M Q => ∃ (s : Sl) (ns : List Int), ss = [s] ∧ ns.length ≤ 63 ∧ (∀ z ∈ ns, Builtin.Int.intBits z ≤ 1048576) ∧ (∀ M, LsV K s M ((ns.map PyData.int).map .dat)) ∧ ∀ M', Q (.bl true) M'
theorem slall_ints {K : PySem.W.Frag} {B : Hp} : ∀ ns : List Int, SlAll K B (ns.map V.int) ((ns.map PyData.int).map .dat)
  | [] => .nil
  | _ :: ns => .cons slok_int (slall_ints ns)
theorem script_in {K : PySem.W.Frag} {H : Hp} {a : Addr} {ns : List Int} (hl : ns.length ≤ 63) (hb : ∀ z ∈ ns, Builtin.Int.intBits z ≤ 1048576) (hS : SqL K H a (ns.map V.int)) : scriptA K [.ref a] H (fun v _ => v = .bl true) fun _ _ _ => False := by
  have S : Sep K H (fun _ => none) H := ⟨Same.refl H, fun a o e => by cases e⟩
  rcases hS with h | h
  · refine ⟨H, _, [.abs (fun B v => v = .ref a ∧ Rd B a (.lst (ns.map V.int))) fun _ _ _ e z => ⟨z.1, re_rd lst_nf e z.2⟩], fun s _ => s = .bl true, S, .cons ⟨rfl, h⟩ .nil, ⟨_, ns, rfl, hl, hb, fun M => .inr (.inr fun B H v e o => ⟨a, _, o.1, .inl (same_rd e o.2), slall_ints ns⟩), fun _ => rfl⟩, fun s v M' B' H' e _ _ o => by subst e; exact of_bl o⟩
  · exact ⟨H, _, [.raw (.ref a)], fun s _ => s = .bl true, S, .cons rfl .nil, ⟨_, ns, rfl, hl, hb, fun M => .inr (.inr fun B H v _ o => ⟨a, _, o, .inr h, slall_ints ns⟩), fun _ => rfl⟩, fun s v M' B' H' e _ _ o => by subst e; exact of_bl o⟩
end Ab
set_option Elab.async false
set_option linter.all false
set_option maxRecDepth 1000000
set_option  maxHeartbeats 4000000
namespace Ab
open PySem PySem.SeqAt
open PySem.AutoSeq1 (wpAny_loadPart')
open PySem.MeetsSeq PySem.MeetsSeq2 PySem.MeetsSeq3
def cmpN (op : CmpOp) (a b : Nat) : Bool := match op with
  | .Lt => decide (a < b) | .Gt => decide (a > b) | .LtE => decide (a ≤ b) | .GtE => decide (a ≥ b) | _ => false
def cmpI (op : CmpOp) (a b : Int) : Bool := match op with
  | .Lt => decide (a < b) | .Gt => decide (b < a) | .LtE => decide (a ≤ b) | .GtE => decide (b ≤ a) | _ => false
def cmpS (op : CmpOp) (x y : Str) : Bool := match op with
  | .Lt => decide (x.cps.toList < y.cps.toList) | .Gt => decide (y.cps.toList < x.cps.toList) | .LtE => !decide (y.cps.toList < x.cps.toList) | .GtE => !decide (x.cps.toList < y.cps.toList) | _ => false
mutual
/-- what Python's op answers -/
def cmpV (op : CmpOp) : PyData → PyData → Bool
  | .int a, .int b => cmpI op a b
  | .str a, .str b => cmpS op a b
  | .tuple xs, .tuple ys => cmpVs op (cmpN op xs.length ys.length) xs ys
  | _, _ => false
def cmpVs (op : CmpOp) (z : Bool) : List PyData → List PyData → Bool
  | x :: xs, y :: ys => if PyData.eqv x y then cmpVs op z xs ys else cmpV op x y
  | [], _ => z
  | _ :: _, [] => z
end
mutual
/-- whether Python compares the two -/
def cmpOk : PyData → PyData → Bool
  | .int _, .int _ => true
  | .str _, .str _ => true
  | .tuple xs, .tuple ys => cmpOks xs ys
  | _, _ => false
def cmpOks : List PyData → List PyData → Bool
  | x :: xs, y :: ys => if PyData.eqv x y then cmpOks xs ys else cmpOk x y
  | [], _ => true
  | _ :: _, [] => true
end
/-- y op x answers k, and nothing changes -/
def Rc (op : CmpOp) (A : Around) (s : Shared) (y x : Value) (k : Bool) : Prop :=
  ∀ (prog : Program) (w : World) (E : Value → Shared → Prop) (Q : Value → Shared → Prop), Q (.bool k) s → wpAny (model prog w) A (richCompare op y x) Q E s
/-- pair by pair up to the first that differs -/
inductive Cmp (A : Around) (s : Shared) (op : CmpOp) (z : Bool) : List (Value × Value) → Bool → Prop
  | nil : Cmp A s op z [] z
  | same {y x : Value} {r : List (Value × Value)} {k : Bool} : EqAt A s y x true → Cmp A s op z r k → Cmp A s op z ((y, x) :: r) k
  | stop {y x : Value} {r : List (Value × Value)} {k : Bool} : EqAt A s y x false → Rc op A s y x k → Cmp A s op z ((y, x) :: r) k
section
theorem tup_lt (l b : Addr) (us ws : Array Value) (n m : Nat) (dd dd2 : Option Addr) (sl sl2 : Array (Option Value)) (k : Bool) :
    Meets (Builtin.«tuple.__lt__» ⟨[.ref l, .ref b], []⟩)
      (fun A R s => s.heap.get? l = some { cls := .type "tuple", dict := dd, data := .seq us n, slots := sl } ∧ s.heap.get? b = some { cls := .type "tuple", dict := dd2, data := .seq ws m, slots := sl2 } ∧
        Cmp A.in1 s .Lt (cmpN .Lt us.size ws.size) (us.toList.zip ws.toList) k ∧ R (.ok (.ret (.bool k))) s) := .of_wp fun prog w A R s h => by
  obtain ⟨hp, g, d, tk, os⟩ := s; obtain ⟨hl, hb, hc, h⟩ := h
  have sub := AutoSeq1.sub_tuple_tuple
  wp_walk using wpAny_loadPart' hl, wpAny_loadPart' hb, wpAny_forIn_list _ (fun rest b s' => b.1 = none ∧ s' = ⟨hp, g, d, tk, os⟩ ∧ Cmp A.in1 ⟨hp, g, d, tk, os⟩ .Lt (cmpN .Lt us.size ws.size) rest k) _
  case turn =>
    rintro ⟨y, x⟩ rest b s' ⟨hb', rfl, hc⟩
    cases hc with
    | same he hr =>
      refine wpAny_bind (he prog w _ _ ?_)
      wp_walk
      exact ⟨rfl, rfl, hr⟩
    | stop he hr =>
      refine wpAny_bind (he prog w _ _ ?_)
      refine wpAny_bind (wpAny_rule ?_)
      refine wpAny_bind (hr prog w _ _ ?_)
      wp_walk
      exact ⟨_, rfl, h⟩
  case fin =>
    rintro ⟨b1, b2⟩ s' ⟨hb', rfl, hc⟩
    simp only at hb'
    subst hb'
    cases hc
    wp_walk
    exact ⟨_, rfl, by simpa [Builtin.Tuple.tupleCompareSizes, cmpN] using h⟩
  case h => exact ⟨rfl, rfl, hc⟩
theorem rc_tup_lt {A : Around} {s : Shared} {l b : Addr} {us ws : Array Value} {k : Bool} (hl : s.heap.IsTuple l us) (hb : s.heap.IsTuple b ws) (hu : A.units < cLine) (hc : Cmp A.in1 s .Lt (cmpN .Lt us.size ws.size) (us.toList.zip ws.toList) k) : Rc .Lt A s (.ref l) (.ref b) k := fun prog w E Q h => by
  obtain ⟨⟨_, dd, _, sl⟩, ho, c1, n, d1⟩ := id hl
  obtain ⟨⟨_, dd2, _, sl2⟩, ho2, c2, m, d2⟩ := id hb
  simp only at c1 d1 c2 d2
  subst c1 d1 c2 d2
  exact richCompare_meets_room (op := .Lt) ⟨_, ho, rfl⟩ ⟨_, ho2, rfl⟩ F.slot_tuple_lt F.entry_tuple_lt (F.args_tuple_lt_2 _ _) (tup_lt l b us ws n m dd dd2 sl sl2 k)
    ⟨ho, ho2, hc, show Value.bool k ≠ Value.notImplemented ∧ Q (.bool k) s from ⟨(fun x => nomatch x), h⟩⟩ hu
theorem tup_gt (l b : Addr) (us ws : Array Value) (n m : Nat) (dd dd2 : Option Addr) (sl sl2 : Array (Option Value)) (k : Bool) :
    Meets (Builtin.«tuple.__gt__» ⟨[.ref l, .ref b], []⟩)
      (fun A R s => s.heap.get? l = some { cls := .type "tuple", dict := dd, data := .seq us n, slots := sl } ∧ s.heap.get? b = some { cls := .type "tuple", dict := dd2, data := .seq ws m, slots := sl2 } ∧
        Cmp A.in1 s .Gt (cmpN .Gt us.size ws.size) (us.toList.zip ws.toList) k ∧ R (.ok (.ret (.bool k))) s) := .of_wp fun prog w A R s h => by
  obtain ⟨hp, g, d, tk, os⟩ := s; obtain ⟨hl, hb, hc, h⟩ := h
  have sub := AutoSeq1.sub_tuple_tuple
  wp_walk using wpAny_loadPart' hl, wpAny_loadPart' hb, wpAny_forIn_list _ (fun rest b s' => b.1 = none ∧ s' = ⟨hp, g, d, tk, os⟩ ∧ Cmp A.in1 ⟨hp, g, d, tk, os⟩ .Gt (cmpN .Gt us.size ws.size) rest k) _
  case turn =>
    rintro ⟨y, x⟩ rest b s' ⟨hb', rfl, hc⟩
    cases hc with
    | same he hr =>
      refine wpAny_bind (he prog w _ _ ?_)
      wp_walk
      exact ⟨rfl, rfl, hr⟩
    | stop he hr =>
      refine wpAny_bind (he prog w _ _ ?_)
      refine wpAny_bind (wpAny_rule ?_)
      refine wpAny_bind (hr prog w _ _ ?_)
      wp_walk
      exact ⟨_, rfl, h⟩
  case fin =>
    rintro ⟨b1, b2⟩ s' ⟨hb', rfl, hc⟩
    simp only at hb'
    subst hb'
    cases hc
    wp_walk
    exact ⟨_, rfl, by simpa [Builtin.Tuple.tupleCompareSizes, cmpN] using h⟩
  case h => exact ⟨rfl, rfl, hc⟩
theorem rc_tup_gt {A : Around} {s : Shared} {l b : Addr} {us ws : Array Value} {k : Bool} (hl : s.heap.IsTuple l us) (hb : s.heap.IsTuple b ws) (hu : A.units < cLine) (hc : Cmp A.in1 s .Gt (cmpN .Gt us.size ws.size) (us.toList.zip ws.toList) k) : Rc .Gt A s (.ref l) (.ref b) k := fun prog w E Q h => by
  obtain ⟨⟨_, dd, _, sl⟩, ho, c1, n, d1⟩ := id hl
  obtain ⟨⟨_, dd2, _, sl2⟩, ho2, c2, m, d2⟩ := id hb
  simp only at c1 d1 c2 d2
  subst c1 d1 c2 d2
  exact richCompare_meets_room (op := .Gt) ⟨_, ho, rfl⟩ ⟨_, ho2, rfl⟩ F.slot_tuple_gt F.entry_tuple_gt (F.args_tuple_gt_2 _ _) (tup_gt l b us ws n m dd dd2 sl sl2 k)
    ⟨ho, ho2, hc, show Value.bool k ≠ Value.notImplemented ∧ Q (.bool k) s from ⟨(fun x => nomatch x), h⟩⟩ hu
theorem tup_le (l b : Addr) (us ws : Array Value) (n m : Nat) (dd dd2 : Option Addr) (sl sl2 : Array (Option Value)) (k : Bool) :
    Meets (Builtin.«tuple.__le__» ⟨[.ref l, .ref b], []⟩)
      (fun A R s => s.heap.get? l = some { cls := .type "tuple", dict := dd, data := .seq us n, slots := sl } ∧ s.heap.get? b = some { cls := .type "tuple", dict := dd2, data := .seq ws m, slots := sl2 } ∧
        Cmp A.in1 s .LtE (cmpN .LtE us.size ws.size) (us.toList.zip ws.toList) k ∧ R (.ok (.ret (.bool k))) s) := .of_wp fun prog w A R s h => by
  obtain ⟨hp, g, d, tk, os⟩ := s; obtain ⟨hl, hb, hc, h⟩ := h
  have sub := AutoSeq1.sub_tuple_tuple
  wp_walk using wpAny_loadPart' hl, wpAny_loadPart' hb, wpAny_forIn_list _ (fun rest b s' => b.1 = none ∧ s' = ⟨hp, g, d, tk, os⟩ ∧ Cmp A.in1 ⟨hp, g, d, tk, os⟩ .LtE (cmpN .LtE us.size ws.size) rest k) _
  case turn =>
    rintro ⟨y, x⟩ rest b s' ⟨hb', rfl, hc⟩
    cases hc with
    | same he hr =>
      refine wpAny_bind (he prog w _ _ ?_)
      wp_walk
      exact ⟨rfl, rfl, hr⟩
    | stop he hr =>
      refine wpAny_bind (he prog w _ _ ?_)
      refine wpAny_bind (wpAny_rule ?_)
      refine wpAny_bind (hr prog w _ _ ?_)
      wp_walk
      exact ⟨_, rfl, h⟩
  case fin =>
    rintro ⟨b1, b2⟩ s' ⟨hb', rfl, hc⟩
    simp only at hb'
    subst hb'
    cases hc
    wp_walk
    exact ⟨_, rfl, by simpa [Builtin.Tuple.tupleCompareSizes, cmpN] using h⟩
  case h => exact ⟨rfl, rfl, hc⟩
theorem rc_tup_le {A : Around} {s : Shared} {l b : Addr} {us ws : Array Value} {k : Bool} (hl : s.heap.IsTuple l us) (hb : s.heap.IsTuple b ws) (hu : A.units < cLine) (hc : Cmp A.in1 s .LtE (cmpN .LtE us.size ws.size) (us.toList.zip ws.toList) k) : Rc .LtE A s (.ref l) (.ref b) k := fun prog w E Q h => by
  obtain ⟨⟨_, dd, _, sl⟩, ho, c1, n, d1⟩ := id hl
  obtain ⟨⟨_, dd2, _, sl2⟩, ho2, c2, m, d2⟩ := id hb
  simp only at c1 d1 c2 d2
  subst c1 d1 c2 d2
  exact richCompare_meets_room (op := .LtE) ⟨_, ho, rfl⟩ ⟨_, ho2, rfl⟩ F.slot_tuple_le F.entry_tuple_le (F.args_tuple_le_2 _ _) (tup_le l b us ws n m dd dd2 sl sl2 k)
    ⟨ho, ho2, hc, show Value.bool k ≠ Value.notImplemented ∧ Q (.bool k) s from ⟨(fun x => nomatch x), h⟩⟩ hu
theorem tup_ge (l b : Addr) (us ws : Array Value) (n m : Nat) (dd dd2 : Option Addr) (sl sl2 : Array (Option Value)) (k : Bool) :
    Meets (Builtin.«tuple.__ge__» ⟨[.ref l, .ref b], []⟩)
      (fun A R s => s.heap.get? l = some { cls := .type "tuple", dict := dd, data := .seq us n, slots := sl } ∧ s.heap.get? b = some { cls := .type "tuple", dict := dd2, data := .seq ws m, slots := sl2 } ∧
        Cmp A.in1 s .GtE (cmpN .GtE us.size ws.size) (us.toList.zip ws.toList) k ∧ R (.ok (.ret (.bool k))) s) := .of_wp fun prog w A R s h => by
  obtain ⟨hp, g, d, tk, os⟩ := s; obtain ⟨hl, hb, hc, h⟩ := h
  have sub := AutoSeq1.sub_tuple_tuple
  wp_walk using wpAny_loadPart' hl, wpAny_loadPart' hb, wpAny_forIn_list _ (fun rest b s' => b.1 = none ∧ s' = ⟨hp, g, d, tk, os⟩ ∧ Cmp A.in1 ⟨hp, g, d, tk, os⟩ .GtE (cmpN .GtE us.size ws.size) rest k) _
  case turn =>
    rintro ⟨y, x⟩ rest b s' ⟨hb', rfl, hc⟩
    cases hc with
    | same he hr =>
      refine wpAny_bind (he prog w _ _ ?_)
      wp_walk
      exact ⟨rfl, rfl, hr⟩
    | stop he hr =>
      refine wpAny_bind (he prog w _ _ ?_)
      refine wpAny_bind (wpAny_rule ?_)
      refine wpAny_bind (hr prog w _ _ ?_)
      wp_walk
      exact ⟨_, rfl, h⟩
  case fin =>
    rintro ⟨b1, b2⟩ s' ⟨hb', rfl, hc⟩
    simp only at hb'
    subst hb'
    cases hc
    wp_walk
    exact ⟨_, rfl, by simpa [Builtin.Tuple.tupleCompareSizes, cmpN] using h⟩
  case h => exact ⟨rfl, rfl, hc⟩
theorem rc_tup_ge {A : Around} {s : Shared} {l b : Addr} {us ws : Array Value} {k : Bool} (hl : s.heap.IsTuple l us) (hb : s.heap.IsTuple b ws) (hu : A.units < cLine) (hc : Cmp A.in1 s .GtE (cmpN .GtE us.size ws.size) (us.toList.zip ws.toList) k) : Rc .GtE A s (.ref l) (.ref b) k := fun prog w E Q h => by
  obtain ⟨⟨_, dd, _, sl⟩, ho, c1, n, d1⟩ := id hl
  obtain ⟨⟨_, dd2, _, sl2⟩, ho2, c2, m, d2⟩ := id hb
  simp only at c1 d1 c2 d2
  subst c1 d1 c2 d2
  exact richCompare_meets_room (op := .GtE) ⟨_, ho, rfl⟩ ⟨_, ho2, rfl⟩ F.slot_tuple_ge F.entry_tuple_ge (F.args_tuple_ge_2 _ _) (tup_ge l b us ws n m dd dd2 sl sl2 k)
    ⟨ho, ho2, hc, show Value.bool k ≠ Value.notImplemented ∧ Q (.bool k) s from ⟨(fun x => nomatch x), h⟩⟩ hu
end
/-- the four orders -/
inductive IsCmp : CmpOp → Prop
  | lt : IsCmp .Lt
  | gt : IsCmp .Gt
  | le : IsCmp .LtE
  | ge : IsCmp .GtE
theorem rc_tup {op : CmpOp} (ho : IsCmp op) {A : Around} {s : Shared} {l b : Addr} {us ws : Array Value} {k : Bool} (hl : s.heap.IsTuple l us) (hb : s.heap.IsTuple b ws) (hu : A.units < cLine) (hc : Cmp A.in1 s op (cmpN op us.size ws.size) (us.toList.zip ws.toList) k) : Rc op A s (.ref l) (.ref b) k := by
  cases ho
  · exact rc_tup_lt hl hb hu hc
  · exact rc_tup_gt hl hb hu hc
  · exact rc_tup_le hl hb hu hc
  · exact rc_tup_ge hl hb hu hc
theorem rc_int {op : CmpOp} (ho : IsCmp op) {A : Around} {s : Shared} (i j : Int) (t u : Tok) : Rc op A s (.int i t) (.int j u) (cmpI op i j) := fun prog w E Q h => by
  cases ho
  · exact PySem.P.lt_int h
  · exact PyProof.Rows.gt_int h
  · exact PyProof.Rows.le_int h
  · exact PyProof.Rows.ge_int h
theorem rc_str {op : CmpOp} (ho : IsCmp op) {A : Around} {s : Shared} (x y : Str) (t u : Tok) : Rc op A s (.str x t) (.str y u) (cmpS op x y) := fun prog w E Q h => by
  cases ho
  · exact PySem.P.lt_str h
  · exact PySem.P.gt_str h
  · exact PySem.P.le_str h
  · exact PySem.P.ge_str h
mutual
theorem rc_data {op : CmpOp} (ho : IsCmp op) : ∀ (d e : PyData) (A : Around) (s : Shared) (a b : Value) (as bs : List Addr), Reads s.heap a d as → Reads s.heap b e bs → cmpOk d e = true → d.canLay0 = true → e.canLay0 = true → A.units + min d.depth e.depth < cLine → Rc op A s a b (cmpV op d e)
  | .int i, .int j, A, s, _, _, _, _, ra, rb, _, _, _, _ => by
    cases ra with
    | int _ t => cases rb with
      | int _ u => exact rc_int ho i j t u
  | .str x, .str y, A, s, _, _, _, _, ra, rb, _, _, _, _ => by
    cases ra with
    | str _ t => cases rb with
      | str _ u => exact rc_str ho x y t u
  | .tuple xs, .tuple ys, A, s, _, _, _, _, ra, rb, hc, ha, hb, hu => by
    cases ra with
    | @tuple l o vs n _ as₁ h1 h2 h3 h4 =>
      cases rb with
      | @tuple l' o' vs' n' _ bs₁ k1 k2 k3 k4 =>
        have n1 : vs.size = xs.length := by simpa using ReadsAll.length _ _ _ h4
        have n2 : vs'.size = ys.length := by simpa using ReadsAll.length _ _ _ k4
        refine rc_tup ho ⟨_, h1, h2, _, h3⟩ ⟨_, k1, k2, _, k3⟩ (room_here hu) ?_
        rw [n1, n2]
        exact rc_datas ho xs ys A.in1 s _ _ _ _ _ h4 k4 hc ha hb (room_in hu)
  | .none, _, _, _, _, _, _, _, _, _, h, _, _, _ => by simp [cmpOk] at h
  | .bool _, _, _, _, _, _, _, _, _, _, h, _, _, _ => by simp [cmpOk] at h
  | .list _, _, _, _, _, _, _, _, _, _, h, _, _, _ => by simp [cmpOk] at h
  | .dict _, _, _, _, _, _, _, _, _, _, h, _, _, _ => by simp [cmpOk] at h
  | .int _, .none, _, _, _, _, _, _, _, _, h, _, _, _ => by simp [cmpOk] at h
  | .int _, .bool _, _, _, _, _, _, _, _, _, h, _, _, _ => by simp [cmpOk] at h
  | .int _, .str _, _, _, _, _, _, _, _, _, h, _, _, _ => by simp [cmpOk] at h
  | .int _, .list _, _, _, _, _, _, _, _, _, h, _, _, _ => by simp [cmpOk] at h
  | .int _, .tuple _, _, _, _, _, _, _, _, _, h, _, _, _ => by simp [cmpOk] at h
  | .int _, .dict _, _, _, _, _, _, _, _, _, h, _, _, _ => by simp [cmpOk] at h
  | .str _, .none, _, _, _, _, _, _, _, _, h, _, _, _ => by simp [cmpOk] at h
  | .str _, .bool _, _, _, _, _, _, _, _, _, h, _, _, _ => by simp [cmpOk] at h
  | .str _, .int _, _, _, _, _, _, _, _, _, h, _, _, _ => by simp [cmpOk] at h
  | .str _, .list _, _, _, _, _, _, _, _, _, h, _, _, _ => by simp [cmpOk] at h
  | .str _, .tuple _, _, _, _, _, _, _, _, _, h, _, _, _ => by simp [cmpOk] at h
  | .str _, .dict _, _, _, _, _, _, _, _, _, h, _, _, _ => by simp [cmpOk] at h
  | .tuple _, .none, _, _, _, _, _, _, _, _, h, _, _, _ => by simp [cmpOk] at h
  | .tuple _, .bool _, _, _, _, _, _, _, _, _, h, _, _, _ => by simp [cmpOk] at h
  | .tuple _, .int _, _, _, _, _, _, _, _, _, h, _, _, _ => by simp [cmpOk] at h
  | .tuple _, .str _, _, _, _, _, _, _, _, _, h, _, _, _ => by simp [cmpOk] at h
  | .tuple _, .list _, _, _, _, _, _, _, _, _, h, _, _, _ => by simp [cmpOk] at h
  | .tuple _, .dict _, _, _, _, _, _, _, _, _, h, _, _, _ => by simp [cmpOk] at h
theorem rc_datas {op : CmpOp} (ho : IsCmp op) : ∀ (xs ys : List PyData) (A : Around) (s : Shared) (z : Bool) (vs ws : List Value) (as bs : List Addr), ReadsAll s.heap vs xs as → ReadsAll s.heap ws ys bs → cmpOks xs ys = true → PyData.canLayAll0 xs = true → PyData.canLayAll0 ys = true →
    A.units + min (PyData.depthAll xs) (PyData.depthAll ys) < cLine → Cmp A s op z (vs.zip ws) (cmpVs op z xs ys)
  | [], _, A, s, z, _, _, _, _, ra, _, _, _, _, _ => by cases ra; simp only [List.zip_nil_left, cmpVs]; exact .nil
  | _ :: _, [], A, s, z, _, _, _, _, ra, rb, _, _, _, _ => by cases rb; simp only [List.zip_nil_right, cmpVs]; exact .nil
  | x :: xs, y :: ys, A, s, z, _, _, _, _, ra, rb, hc, ha, hb, hu => by
    cases ra with
    | cons r rs =>
      cases rb with
      | cons r' rs' =>
        rw [PyData.canLayAll0, Bool.and_eq_true] at ha hb
        rw [List.zip_cons_cons]
        have he := eqAt_reads x y A s _ _ _ _ r r' ha.1 hb.1 (room_head hu)
        rw [cmpOks] at hc
        cases hx : PyData.eqv x y with
        | true =>
          rw [hx] at he hc
          rw [cmpVs, hx, if_pos rfl]
          exact .same he (rc_datas ho xs ys A s z _ _ _ _ rs rs' hc ha.2 hb.2 (room_tail hu))
        | false =>
          rw [hx] at he hc
          rw [cmpVs, hx, if_neg Bool.false_ne_true]
          exact .stop he (rc_data ho x y A s _ _ _ _ r r' hc ha.1 hb.1 (room_head hu))
end
end Ab
namespace Ab
open PySem L2
/-- x op y, data that Python can compare -/
def rCmp (op : CmpOp) (K : PySem.W.Frag) : R2 := fun x y H Q => ∃ d e, Dp K H x d ∧ Dp K H y e ∧ cmpOk d e = true ∧ SeqAt.shaped d = true ∧ SeqAt.shaped e = true ∧ Q (.bl (cmpV op d e)) H
theorem op_cmp {X : Cx} {op : CmpOp} (hu : X.A.units + 64 < cLine) (ho : IsCmp op) : OpR X (compareOp op) (rCmp op X.K) := fun pins s σ H x y v u Q I rx ry ⟨d, e, hd, he, hc, sd, se, q⟩ => by
  obtain ⟨_, r1⟩ := Dp.reads I d x v hd rx
  obtain ⟨_, r2⟩ := Dp.reads I e y u he ry
  have z := rc_data ho d e X.A s v u _ _ r1 r2 hc (SeqAt.canLay_of_shaped sd) (SeqAt.canLay_of_shaped se) (SeqAt.room_of_shaped sd hu)
  cases ho <;> exact z _ _ _ _ ⟨.bl _, H, I, rfl, q⟩
theorem op_ltD {X : Cx} (hu : X.A.units + 64 < cLine) : OpR X (compareOp .Lt) (rCmp .Lt X.K) := op_cmp hu .lt
theorem op_gtD {X : Cx} (hu : X.A.units + 64 < cLine) : OpR X (compareOp .Gt) (rCmp .Gt X.K) := op_cmp hu .gt
theorem op_leD {X : Cx} (hu : X.A.units + 64 < cLine) : OpR X (compareOp .LtE) (rCmp .LtE X.K) := op_cmp hu .le
theorem op_geD {X : Cx} (hu : X.A.units + 64 < cLine) : OpR X (compareOp .GtE) (rCmp .GtE X.K) := op_cmp hu .ge
section
variable {K : KX} {M : MH} {Q : Sl → MH → Prop}
theorem w2_cmp {K : PySem.W.Frag} {op : CmpOp} {d e : PyData} (hc : cmpOk d e = true) (h1 : SeqAt.shaped d = true) (h2 : SeqAt.shaped e = true) (q : Q (.bl (cmpV op d e)) M) : W2 K (rCmp op K) (.dat d) (.dat e) M Q := fun B H v w hS o1 o2 Q0 k =>
  ⟨d, e, dq_dpS h1 (dp_same hS.sub _ _ o1), dq_dpS h2 (dp_same hS.sub _ _ o2), hc, h1, h2, k _ _ M B H q (Same.refl B) hS slok_bl⟩
end
end Ab
set_option Elab.async false
set_option linter.all false
set_option maxRecDepth 1000000
set_option  maxHeartbeats 4000000
namespace Ab
open PySem L2
theorem room65 {k : Nat} {A : Around} (r : Room k A) : A.units + 65 < cLine := by
  have := r.un
  omega
/-- the state of the draws: the script, how far it is read, a number in hand, the seed -/
def DrawL (xs : List Sl) : Prop := ∃ (sc : List Int) (pos cur seed : Int), xs = [.dat (.list (sc.map .int)), .int pos, .int cur, .int seed] ∧ 0 ≤ pos
def A_next : ASp := fun ss M Q => ∃ (p : Addr) (n : Int) (xs : List Sl), ss = [.ref p, .int n] ∧ M p = some (.lst xs) ∧ DrawL xs ∧ 0 < n ∧ n ≤ 10 ^ 40 ∧ ∀ (v : Int) (ys : List Sl), 0 ≤ v → v < n → DrawL ys → Q (.int v) (um M p (.lst ys))
/-- a def that draws something of a sort -/
def A_gen (R : List PyData → Prop) (P : List PyData → PyData → Prop) : ASp := fun ss M Q => ∃ (p : Addr) (xs : List Sl) (ds : List PyData), ss = .ref p :: ds.map .dat ∧ R ds ∧ M p = some (.lst xs) ∧ DrawL xs ∧ ∀ d ys, P ds d → DrawL ys → Q (.dat d) (um M p (.lst ys))
theorem a_next {M : MH} {p : Addr} {n : Int} {ys : List Sl} {Q : Sl → MH → Prop} (hD : DrawL ys) (h0 : 0 < n) (h1 : n ≤ 10 ^ 40) (q : ∀ (v : Int) (zs : List Sl), 0 ≤ v → v < n → DrawL zs → Q (.int v) (um M p (.lst zs))) : A_next [.ref p, .int n] (um M p (.lst ys)) Q :=
  ⟨p, n, ys, rfl, um_same, hD, h0, h1, fun v zs a b c => by rw [um_um]; exact q v zs a b c⟩
theorem a_gen {R : List PyData → Prop} {P : List PyData → PyData → Prop} {M : MH} {p : Addr} {ys : List Sl} {Q : Sl → MH → Prop} (hD : DrawL ys) (ds : List PyData) (hR : R ds) (q : ∀ d zs, P ds d → DrawL zs → Q (.dat d) (um M p (.lst zs))) : A_gen R P (.ref p :: ds.map .dat) (um M p (.lst ys)) Q :=
  ⟨p, ys, ds, rfl, hR, um_same, hD, fun d zs a b => by rw [um_um]; exact q d zs a b⟩
/-- a draw with no more to be told -/
theorem a_gen0 {R : List PyData → Prop} {P : List PyData → PyData → Prop} {M : MH} {p : Addr} {ys : List Sl} {Q : Sl → MH → Prop} (hD : DrawL ys) (hR : R []) (q : ∀ d zs, P [] d → DrawL zs → Q (.dat d) (um M p (.lst zs))) : A_gen R P [.ref p] (um M p (.lst ys)) Q := a_gen hD [] hR q
theorem a_gen1 {R : List PyData → Prop} {P : List PyData → PyData → Prop} {M : MH} {p : Addr} {ys : List Sl} {Q : Sl → MH → Prop} {x : PyData} (hD : DrawL ys) (hR : R [x]) (q : ∀ d zs, P [x] d → DrawL zs → Q (.dat d) (um M p (.lst zs))) : A_gen R P [.ref p, .dat x] (um M p (.lst ys)) Q := a_gen hD [x] hR q
section
variable {K : KX} {ρ : Rho} {M : MH} {Q Q' : Sl → MH → Prop} {ta tb te tc to : TE}
/-- [te for _ in range(n)], te a draw -/
theorem w_lcGen {t : TA} {j : Nat} {vs : List Nat} {p : Addr} (hj : j ∈ vs) (P : PyData → Prop)
    (hl : WA K t ρ M fun ss M1 => ∃ (n : Int) (M0 : MH) (ys : List Sl), ss = [.int n] ∧ M1 = um M0 p (.lst ys) ∧ DrawL ys ∧ n ≤ 1000000 ∧ -1000000 ≤ n ∧
      (∀ (i : Nat) M2 zs, (i : Int) < n → DrawL zs → W K te ((wipeR ρ vs).set j (some (.int (i : Int)))) (um M2 p (.lst zs)) fun s M4 => ∃ d us, s = .dat d ∧ M4 = um M2 p (.lst us) ∧ DrawL us ∧ P d) ∧
      ∀ ds zs, DrawL zs → ds.length = n.toNat → (∀ d ∈ ds, P d) → Q (.dat (.list ds)) (um M0 p (.lst zs))) : W K (tLc (iRng1 t) (gName j) tYes te vs) ρ M Q :=
  w_lc hj (wi_r1 fun σ B H hR hS Q0 k => hl σ B H hR hS Q0 fun ss ws M' B' H' ⟨n, M0, ys, e1, e2, hD, hn, hn', hs, q⟩ => by
    subst e1 e2
    refine k _ ws _ B' H' ⟨n, rfl, by omega, by omega, fun i acc M2 => ∃ zs, M2 = um M0 p (.lst zs) ∧ DrawL zs ∧ acc.length = i ∧ ∀ d ∈ acc, P d, ⟨ys, rfl, hD, rfl, fun d hd => (nomatch hd)⟩, fun _ _ _ _ _ _ _ _ => trivial, ?_, ?_⟩
    · rintro i acc M2 D hi ⟨zs, rfl, hz, hl, hP⟩ hDn
      refine wt_yes ?_
      have hne : p ≠ D := fun e => by rw [← e, um_same] at hDn; cases hDn
      rw [um_comm hne]
      refine (hs i _ zs (by omega) hz).imp fun s M4 ⟨d, us, e1, e2, hu, hp⟩ => ⟨d, um M0 p (.lst us), e1, ?_, ?_, by omega, us, rfl, hu, by rw [List.length_append, hl]; rfl, fun d' hd' => ?_⟩
      · rw [e2, um_comm hne.symm]
      · rw [um_ne hne.symm] at hDn ⊢
        exact hDn
      · rcases List.mem_append.mp hd' with h | h
        · exact hP d' h
        · rw [List.mem_singleton.mp h]; exact hp
    · rintro acc M2 ⟨zs, rfl, hz, hl, hP⟩
      exact q acc zs hz hl hP)
theorem w_lcT {α : Type} {enc : α → PyData} {xs : List α} {tl : TE} {j : Nat} {vs : List Nat} {M1 : MH} (hj : j ∈ vs) (hl : W K tl ρ M fun s M2 => s = .dat (.tuple (xs.map enc)) ∧ M2 = M1) (hz : xs.length ≤ 1000000) (f : α → PyData)
    (he : ∀ x D o, x ∈ xs → M1 D = none → W K te ((wipeR ρ vs).set j (some (.dat (enc x)))) (um M1 D o) fun s M' => s = .dat (f x) ∧ M' = um M1 D o) (q : Q (.dat (.list (xs.map f))) M1) : W K (tLc (iTup K tl) (gName j) tYes te vs) ρ M Q :=
  w_lc hj (wi_tup (hl.imp fun s M2 ⟨e1, e2⟩ => by
    subst e1 e2
    refine ⟨_, tpv_dat, fun i acc M' => M' = M2 ∧ acc = (xs.take i).map f, ⟨rfl, by simp⟩, fun _ _ _ _ _ _ _ _ => trivial, fun i acc M' D hi ⟨eM, ea⟩ hD => ?_, fun acc M' ⟨eM, ea⟩ => ?_⟩
    · subst eM ea
      have hi' : i < xs.length := by simpa using hi
      refine wt_yes ?_
      show W K te ((wipeR ρ vs).set j (some (((xs.map enc).map Sl.dat).getD i .non))) _ _
      rw [getD_map hi']
      refine (he xs[i] D _ (List.getElem_mem hi') hD).imp fun s M' ⟨e1, e2⟩ => ⟨f xs[i], _, e1, e2, hD, ?_, rfl, ?_⟩
      · rw [List.length_map, List.length_take]
        omega
      · rw [List.take_succ_eq_append_getElem hi', List.map_append]
        rfl
    · subst eM ea
      rw [List.length_map, List.length_map, List.take_length]
      exact q))
/-- for _ in range(n), n found on the way -/
theorem ws_forRn {nx bk ct : Rho → MH → Prop} {rt : Sl → MH → Prop} {t : TA} {g : TG} {tb : TS} (h : WA K t ρ M fun xs M1 => ∃ n : Int, xs = [.int n] ∧ -(2 ^ 62) ≤ n ∧ n < 2 ^ 62 ∧ ∃ J : Nat → Rho → MH → Prop, J 0 ρ M1 ∧
    (∀ (i : Nat) ρ' M', (i : Int) < n → J i ρ' M' → WG K g (.int (i : Int)) ρ' M' fun ρ2 M2 => WS K tb ρ2 M2 ⟨J (i + 1), rt, nx, J (i + 1)⟩) ∧ ∀ ρ' M', J n.toNat ρ' M' → nx ρ' M') : WS K (tFor (iRng1 t) g tb) ρ M ⟨nx, rt, bk, ct⟩ :=
  ws_for (wi_r1 fun σ B H hR hS Q0 k => h σ B H hR hS Q0 fun ss vs M' B' H' ⟨n, e1, h1, h2, J, j0, js, je⟩ => by
    subst e1
    exact k _ vs _ B' H' ⟨n, rfl, h1, h2, J, j0, fun _ _ _ _ _ => trivial, fun i ρ' M' hi hj => js i ρ' M' (by omega) hj, je⟩)
theorem w2_ixAny {K : PySem.W.Frag} {ds : List PyData} {i : Int} (h0 : 0 ≤ i) (h : i < ds.length) (q : ∀ d ∈ ds, Q (.dat d) M) : W2 K (rIxL K) (.dat (.list ds)) (.int i) M Q := by
  have hi : i.toNat < ds.length := by omega
  refine w2_ixL (x := .dat ds[i.toNat]) lsv_dat ?_ (q _ (List.getElem_mem hi))
  rw [atI_map, atI_ok h0 (List.getElem?_eq_getElem hi)]
  rfl
theorem cutG_all {α : Type} {xs : List α} {lo hi : Option Int} (h : HT.sIx xs.length 0 lo = 0 ∧ HT.sIx xs.length xs.length hi = xs.length) : cutG xs lo hi = xs := by
  unfold cutG
  rw [h.1, h.2]
  simp
theorem wsl_tup {K : PySem.W.Frag} {ds : List PyData} {lo hi : Option Int} (q : Q (.dat (.tuple (cutG ds lo hi))) M) : WSl K (rSlA K) (.dat (.tuple ds)) lo hi M Q := fun B H v hS o Q0 k => by
  obtain ⟨a, vs, rfl, hq, ha⟩ := (tpv_dat (ds := ds)).get hS o
  have hl := DqAll.length (dpa_of ha)
  refine ⟨a, vs, rfl, hq, fun hw => ?_, fun hw p hp => ?_⟩
  · rw [hl] at hw
    rw [cutG_all hw] at q
    exact k _ _ M B H q (Same.refl B) hS o
  · exact k _ _ M (upd B p (.tup (cutV vs lo hi))) _ q (same_new (hS.freeB hp)) (hS.alloc hp) (tup_ok (dpa_cut (dpa_of ha) lo hi) (hS.freeB hp))
theorem w2_catT {K : PySem.W.Frag} {ds es : List PyData} (hl : ds.length + es.length ≤ 1000000) (q : Q (.dat (.tuple (ds ++ es))) M) : W2 K (rCatA K) (.dat (.tuple ds)) (.dat (.tuple es)) M Q := fun B H v w hS o1 o2 Q0 k => by
  obtain ⟨a, vs, rfl, hq, ha⟩ := (tpv_dat (ds := ds)).get hS o1
  obtain ⟨b, ws, rfl, hq2, ha2⟩ := (tpv_dat (ds := es)).get hS o2
  have l1 := DqAll.length (dpa_of ha)
  have l2 := DqAll.length (dpa_of ha2)
  refine ⟨a, b, vs, ws, rfl, rfl, hq, hq2, Nat.le_trans (by omega) (show 1000000 ≤ sizeLine by decide), fun e => ?_, fun _ e => ?_, fun _ _ p hp => ?_⟩
  · subst e
    cases ds with
    | nil => exact k _ _ M B H q (Same.refl B) hS o2
    | cons _ _ => cases l1
  · subst e
    cases es with
    | nil => rw [List.append_nil] at q; exact k _ _ M B H q (Same.refl B) hS o1
    | cons _ _ => cases l2
  · exact k _ _ M (upd B p (.tup (vs ++ ws))) _ q (same_new (hS.freeB hp)) (hS.alloc hp) (tup_ok (DqAll.app (dpa_of ha) (dpa_of ha2)) (hS.freeB hp))
theorem wl_min {K : PySem.W.Frag} {i j : Int} (q : Q (.int (if j < i then j else i)) M) : WL K (fun xs H Q => ∃ i j, xs = [.int i, .int j] ∧ Q (.int (if j < i then j else i)) H) [.dat (.int i), .dat (.int j)] M Q := fun B H vs hS o Q0 k => by
  cases o with
  | cons o1 o2 => cases o2 with
    | cons o2 o3 =>
      cases o3
      exact ⟨i, j, by rw [of_int o1, of_int o2], k _ _ M B H q (Same.refl B) hS slok_int⟩
end
end Ab
set_option Elab.async false
set_option linter.all false
set_option maxRecDepth 1000000
set_option  maxHeartbeats 4000000
namespace L2
open PySem PySem.Spec PyProof.Rows
end L2
namespace Ab
open PySem PySem.Spec PyProof.Rows L2
section
variable {K : KX} {ρ : Rho} {M : MH} {Q Q' : Sl → MH → Prop} {ta tb te tc : TE} {P : AE} {nx bk ct : Rho → MH → Prop} {rt : Sl → MH → Prop}
theorem slks_get {F : PySem.W.Frag} {B : Hp} {f : Str} {s : Sl} : ∀ {vs : List (Str × V)} {fs : List (Str × Sl)}, SlKs F B vs fs → fs.lookup f = some s → ∃ v, vs.lookup f = some v ∧ SlOk F B v s
  | _, _, .nil, e => nomatch e
  | (g, v) :: vs, (g', s') :: fs, .cons ⟨h1, h2⟩ t, e => by
    cases h1
    rw [List.lookup_cons] at e ⊢
    cases hb : f == g with
    | true => rw [hb] at e; cases e; exact ⟨v, rfl, h2⟩
    | false => rw [hb] at e; exact slks_get t e
def putS (f : Str) (s : Sl) : List (Str × Sl) → List (Str × Sl)
  | [] => [(f, s)]
  | (g, x) :: r => if g = f then (g, s) :: r else (g, x) :: putS f s r
theorem slks_put {F : PySem.W.Frag} {B : Hp} {f : Str} {s : Sl} {v : V} (o : SlOk F B v s) : ∀ {vs : List (Str × V)} {fs : List (Str × Sl)}, SlKs F B vs fs → SlKs F B (putF f v vs) (putS f s fs)
  | _, _, .nil => .cons ⟨rfl, o⟩ .nil
  | (g, x) :: vs, (g', y) :: fs, .cons ⟨h1, h2⟩ t => by
    cases h1
    unfold putF putS
    by_cases e : g = f
    · rw [if_pos e, if_pos e]; exact .cons ⟨rfl, o⟩ t
    · rw [if_neg e, if_neg e]; exact .cons ⟨rfl, h2⟩ (slks_put o t)
theorem w_fld {f : Str} (h : W K ta ρ M fun s M1 => ∃ a C dx fs x, s = .raw (.ref a) ∧ M1 a = some (.ins C dx fs) ∧ Cls K.K C ∧ NoAttr K.K C f ∧ fs.lookup f = some x ∧ Q x M1) : W K (tFld K.K ta f) ρ M Q := fun σ B H hR hS Q0 k =>
  h σ B H hR hS _ fun s v M1 B1 H1 ⟨a, C, dx, fs, x, es, hM, c, n, l, q⟩ e1 S1 o1 => by
    subst es
    have ev : v = .ref a := o1
    subst ev
    obtain ⟨_, u, hu, vs, rfl, hv⟩ := S1.has a _ hM
    obtain ⟨y, hy, oy⟩ := slks_get hv l
    exact ⟨a, C, dx, vs, y, rfl, hu, c, n, hy, k x y M1 B1 H1 q e1 S1 oy⟩
theorem ws_fld {f : Str} (h : W K te ρ M fun s M1 => W K ta ρ M1 fun o M2 => ∃ a C dx fs, o = .raw (.ref a) ∧ M2 a = some (.ins C dx fs) ∧ Cls K.K C ∧ NoAttr K.K C f ∧ fs.length < 1000 ∧ nx ρ (um M2 a (.ins C dx (putS f s fs)))) : WS K (sFld K.K ta te f) ρ M ⟨nx, rt, bk, ct⟩ := fun σ B H D hR hS p1 p2 p3 p4 =>
  h σ B H hR hS _ fun s v M1 B1 H1 h1 e1 S1 o1 => h1 σ B1 H1 (hR.mono e1) S1 _ fun o w M2 B2 H2 ⟨a, C, dx, fs, eo, hM, c, n, hl, q⟩ e2 S2 o2 => by
    subst eo
    have ev : w = .ref a := o2
    subst ev
    obtain ⟨_, u, hu, vs, rfl, hv⟩ := S2.has a _ hM
    refine ⟨a, C, dx, vs, rfl, hu, c, n, by rw [Paired.length hv]; exact hl, ?_⟩
    exact p1 ρ _ σ B2 _ q (e1.trans e2) (hR.mono (e1.trans e2)) (S2.put hM ⟨_, rfl, slks_put (o1.mono e2) hv⟩)
end
end Ab
set_option Elab.async false
set_option linter.all false
set_option maxRecDepth 1000000
set_option  maxHeartbeats 4000000
namespace Ab
open PySem PySem.Spec PyProof.Rows L2
section
variable {κ β γ : Type} [DecidableEq κ]
def valG (kvs : List (κ × β)) (k : κ) : Option β := (kvs.find? fun kv => decide (kv.1 = k)).map (·.2)
def putG (kvs : List (κ × β)) (k : κ) (v : β) : List (κ × β) := if (kvs.any fun kv => decide (kv.1 = k)) = true then kvs.map (fun kv => if kv.1 = k then (kv.1, v) else kv) else kvs ++ [(k, v)]
def mergeG (kvs more : List (κ × β)) : List (κ × β) := more.foldl (fun acc kv => putG acc kv.1 kv.2) kvs
theorem valG_cons (k g : κ) (v : β) (r : List (κ × β)) : valG ((g, v) :: r) k = if g = k then some v else valG r k := by
  unfold valG
  rw [List.find?_cons]
  by_cases e : g = k <;> simp [e]
theorem valG_put (kvs : List (κ × β)) (k g : κ) (v : β) : valG (putG kvs k v) g = if k = g then some v else valG kvs g := by
  have key : ∀ l : List (κ × β), valG (l.map fun kv => if kv.1 = k then (kv.1, v) else kv) g = if k = g ∧ (l.any fun kv => decide (kv.1 = k)) = true then some v else valG l g := by
    intro l
    induction l with
    | nil => simp [valG]
    | cons p r ih =>
      obtain ⟨a, x⟩ := p
      rw [List.map_cons]
      by_cases e : a = k
      · subst e
        rw [if_pos rfl, valG_cons, ih, valG_cons]
        by_cases e2 : a = g <;> simp [e2]
      · rw [if_neg e, valG_cons, ih, valG_cons]
        by_cases e2 : a = g
        · subst e2
          have : ¬ k = a := fun q => e q.symm
          simp [this]
        · have ek : decide (a = k) = false := decide_eq_false e
          rw [List.any_cons, ek, Bool.false_or, if_neg e2, if_neg e2]
  have app : ∀ l : List (κ × β), (l.any fun kv => decide (kv.1 = k)) = false → valG (l ++ [(k, v)]) g = if k = g then some v else valG l g := by
    intro l
    induction l with
    | nil => intro _; rw [List.nil_append, valG_cons]
    | cons p r ih =>
      obtain ⟨a, x⟩ := p
      intro h
      rw [List.any_cons, Bool.or_eq_false_iff] at h
      have e : ¬ a = k := of_decide_eq_false h.1
      rw [List.cons_append, valG_cons, ih h.2, valG_cons]
      by_cases e2 : a = g
      · subst e2
        have : ¬ k = a := fun q => e q.symm
        simp [this]
      · simp [e2]
  unfold putG
  cases h : kvs.any fun kv => decide (kv.1 = k) with
  | true => rw [if_pos rfl, key, h]; simp
  | false => rw [if_neg Bool.false_ne_true, app kvs h]
end
section
variable {F : PySem.W.Frag} {B : Hp}
theorem slks_any {k : Key} : ∀ {vs : List (Key × V)} {kvs : List (Key × Sl)}, SlKs F B vs kvs → (vs.any fun kv => decide (kv.1 = k)) = kvs.any fun kv => decide (kv.1 = k)
  | _, _, .nil => rfl
  | _, _, .cons ⟨h, _⟩ t => by rw [List.any_cons, List.any_cons, slks_any t, h]
theorem slks_val {k : Key} : ∀ {vs : List (Key × V)} {kvs : List (Key × Sl)}, SlKs F B vs kvs → (∀ s, valG kvs k = some s → ∃ v, valV vs k = some v ∧ SlOk F B v s) ∧ (valG kvs k = none → valV vs k = none)
  | _, _, .nil => ⟨fun _ e => (nomatch e), fun _ => rfl⟩
  | (g, v) :: vs, (g', s') :: kvs, .cons ⟨h1, h2⟩ t => by
    cases h1
    obtain ⟨i1, i2⟩ := slks_val (k := k) t
    rw [valG_cons]
    by_cases e : g = k
    · rw [if_pos e, valV_pos e]
      exact ⟨fun s q => (by cases q; exact ⟨v, rfl, h2⟩), fun q => nomatch q⟩
    · rw [if_neg e, valV_neg e]
      exact ⟨i1, i2⟩
theorem slks_app {κ : Type} : ∀ {vs ws : List (κ × V)} {kvs lws : List (κ × Sl)}, SlKs F B vs kvs → SlKs F B ws lws → SlKs F B (vs ++ ws) (kvs ++ lws)
  | _, _, _, _, .nil, h => h
  | _, _, _, _, .cons h t, h' => .cons h (slks_app t h')
theorem slks_in {k : Key} {v : V} {s : Sl} (o : SlOk F B v s) : ∀ {vs : List (Key × V)} {kvs : List (Key × Sl)}, SlKs F B vs kvs → SlKs F B (vs.map fun kv => if kv.1 = k then (kv.1, v) else kv) (kvs.map fun kv => if kv.1 = k then (kv.1, s) else kv)
  | _, _, .nil => .nil
  | (g, x) :: vs, (g', y) :: kvs, .cons ⟨h1, h2⟩ t => by
    cases h1
    rw [List.map_cons, List.map_cons]
    refine .cons ?_ (slks_in o t)
    by_cases e : g = k
    · rw [if_pos e, if_pos e]; exact ⟨rfl, o⟩
    · rw [if_neg e, if_neg e]; exact ⟨rfl, h2⟩
theorem slks_putK {k : Key} {v : V} {s : Sl} (o : SlOk F B v s) {vs : List (Key × V)} {kvs : List (Key × Sl)} (h : SlKs F B vs kvs) : SlKs F B (putK vs k v) (putG kvs k s) := by
  unfold putK putG
  rw [slks_any h]
  split
  · exact slks_in o h
  · exact slks_app h (.cons ⟨rfl, o⟩ .nil)
theorem slks_merge : ∀ {ws : List (Key × V)} {lws : List (Key × Sl)}, SlKs F B ws lws → ∀ {vs : List (Key × V)} {kvs : List (Key × Sl)}, SlKs F B vs kvs → SlKs F B (mergeK vs ws) (mergeG kvs lws)
  | _, _, .nil, _, _, h => h
  | p :: ps, q :: qs, .cons h t, vs, kvs, h' => by
    show SlKs F B (mergeK (putK vs p.1 p.2) ps) (mergeG (putG kvs q.1 q.2) qs)
    refine slks_merge t ?_
    rw [h.1]
    exact slks_putK h.2 h'
end
def kS : Key → Sl
  | .inl i => .int i
  | .inr x => .str x
theorem of_kS {F : PySem.W.Frag} {B : Hp} {v : V} : ∀ {k : Key}, SlOk F B v (kS k) → v = kV k
  | .inl _, h => of_int h
  | .inr _, h => of_str h
def dicS (F : PySem.W.Frag) (kvs : List (Key × Sl)) : Sl := .abs (fun B v => ∃ a vs, v = .ref a ∧ Rd B a (.dK vs) ∧ SlKs F B vs kvs) fun _ _ _ e ⟨a, vs, h1, h2, h3⟩ => ⟨a, vs, h1, re_dK e h2, Paired.mapP h3 fun _ _ q => ⟨q.1, q.2.re e⟩⟩
theorem kD_inj : ∀ {k l : Key}, kD k = kD l → k = l
  | .inl _, .inl _, h => by injection h with h; rw [h]
  | .inr _, .inr _, h => by injection h with h; rw [h]
  | .inl _, .inr _, h => nomatch h
  | .inr _, .inl _, h => nomatch h
/-- a dict as data -/
abbrev dKD (ys : List (Key × PyData)) : PyData := .dict (ys.map fun p => (kD p.1, p.2))
abbrev dKS (ys : List (Key × PyData)) : List (Key × Sl) := ys.map fun p => (p.1, .dat p.2)
theorem dqk_slks {F : PySem.W.Frag} {B : Hp} : ∀ {vs : List (Key × V)} {ys : List (Key × PyData)}, DqKs F B vs (ys.map fun p => (kD p.1, p.2)) → SlKs F B vs (dKS ys)
  | _, [], .nil => .nil
  | _, _ :: _, .cons q h t => .cons ⟨(kD_inj q).symm, h⟩ (dqk_slks t)
theorem slks_dqk {F : PySem.W.Frag} {B : Hp} : ∀ {vs : List (Key × V)} {ys : List (Key × PyData)}, SlKs F B vs (dKS ys) → DqKs F B vs (ys.map fun p => (kD p.1, p.2))
  | _, [], .nil => .nil
  | (_, _) :: _, _ :: _, .cons q t => .cons (congrArg kD q.1.symm) q.2 (slks_dqk t)
/-- a dict: one that changes, one that is walked, one that nobody changes -/
def DcV (F : PySem.W.Frag) (s : Sl) (M : MH) (kvs : List (Key × Sl)) : Prop := (∃ a, s = .raw (.ref a) ∧ (M a = some (.dK kvs) ∨ ∃ ob v, M a = some (.frz ob v (.dK kvs)))) ∨ s = dicS F kvs ∨ ∃ ys : List (Key × PyData), s = .dat (dKD ys) ∧ kvs = dKS ys
theorem dcv_ref {F : PySem.W.Frag} {a : Addr} {M : MH} {kvs : List (Key × Sl)} (h : M a = some (.dK kvs)) : DcV F (.raw (.ref a)) M kvs := .inl ⟨a, rfl, .inl h⟩
theorem dcv_frz {F : PySem.W.Frag} {a : Addr} {ob : Obj} {v : HO} {M : MH} {kvs : List (Key × Sl)} (h : M a = some (.frz ob v (.dK kvs))) : DcV F (.raw (.ref a)) M kvs := .inl ⟨a, rfl, .inr ⟨ob, v, h⟩⟩
theorem DcV.get {F : PySem.W.Frag} {s : Sl} {M : MH} {kvs : List (Key × Sl)} {B H : Hp} {v : V} (h : DcV F s M kvs) (S : Sep F B M H) (o : SlOk F B v s) : ∃ a vs, v = .ref a ∧ Rd H a (.dK vs) ∧ SlKs F B vs kvs := by
  rcases h with ⟨a, rfl, h | ⟨ob, w, h⟩⟩ | rfl | ⟨ys, rfl, rfl⟩
  · obtain ⟨_, u, hu, vs, rfl, hv⟩ := S.has a _ h
    exact ⟨a, vs, o, .inl hu, hv⟩
  · obtain ⟨_, u, hu, rfl, vs, rfl, hv⟩ := S.has a _ h
    exact ⟨a, vs, o, .inr ⟨ob, hu⟩, hv⟩
  · obtain ⟨a, vs, e, h1, h2⟩ := (show ∃ a vs, v = .ref a ∧ Rd B a (.dK vs) ∧ SlKs F B vs kvs from o)
    exact ⟨a, vs, e, same_rd S.sub h1, h2⟩
  · cases o with
    | dct h1 h2 => exact ⟨_, _, rfl, same_rd S.sub h1, dqk_slks h2⟩
theorem dcv_dat {F : PySem.W.Frag} {M : MH} {ys : List (Key × PyData)} : DcV F (.dat (dKD ys)) M (dKS ys) := .inr (.inr ⟨ys, rfl, rfl⟩)
section
variable {K : KX} {ρ : Rho} {M : MH} {Q Q' : Sl → MH → Prop} {ta tb te tc td ty tx tv : TE} {P : AE} {nx bk ct : Rho → MH → Prop} {rt : Sl → MH → Prop}
theorem isD_of {H : Hp} {a : Addr} {vs : List (Key × V)} (h : Rd H a (.dK vs)) : IsD H a := .inl ⟨vs, h⟩
theorem w_dnew (q : ∀ p, M p = none → Q (.raw (.ref p)) (um M p (.dK []))) : W K tDNewK ρ M Q := fun σ B H hR hS Q0 k p hp => k _ _ _ B _ (q p (hS.freeM hp)) (Same.refl B) (hS.new hp ⟨[], rfl, .nil⟩) slok_ref
/-- d[k] -/
theorem w_dget (h : W K td ρ M fun s M1 => W K ty ρ M1 fun y M2 => ∃ kvs k x, DcV K.K s M2 kvs ∧ y = kS k ∧ valG kvs k = some x ∧ Q x M2) : W K (tDGet td ty) ρ M Q := fun σ B H hR hS Q0 q0 =>
  h σ B H hR hS _ fun s v M1 B1 H1 h1 e1 S1 o1 => h1 σ B1 H1 (hR.mono e1) S1 _ fun y w M2 B2 H2 ⟨kvs, k, x, hd, ey, hv, q⟩ e2 S2 o2 => by
    subst ey
    obtain ⟨a, vs, rfl, hr, hk⟩ := hd.get S2 (o1.mono e2)
    obtain ⟨z, hz, oz⟩ := (slks_val hk).1 _ hv
    exact ⟨a, z, rfl, .inl ⟨vs, k, hr, of_kS o2, hz.symm⟩, q0 x z M2 B2 H2 q (e1.trans e2) S2 oz⟩
/-- k in d -/
theorem w_din (h : W K ty ρ M fun y M1 => W K td ρ M1 fun s M2 => ∃ kvs k, DcV K.K s M2 kvs ∧ y = kS k ∧ Q (.bl (valG kvs k).isSome) M2) : W K (tDIn ty td) ρ M Q := fun σ B H hR hS Q0 q0 =>
  h σ B H hR hS _ fun y w M1 B1 H1 h1 e1 S1 o1 => h1 σ B1 H1 (hR.mono e1) S1 _ fun s v M2 B2 H2 ⟨kvs, k, hd, ey, q⟩ e2 S2 o2 => by
    subst ey
    obtain ⟨a, vs, rfl, hr, hk⟩ := hd.get S2 o2
    obtain ⟨i1, i2⟩ := slks_val (k := k) hk
    have e : (valV vs k).isSome = (valG kvs k).isSome := by
      cases hv : valG kvs k with
      | none => rw [i2 hv]; rfl
      | some s => obtain ⟨z, hz, _⟩ := i1 s hv; rw [hz]; rfl
    exact ⟨a, valV vs k, rfl, .inl ⟨vs, k, hr, of_kS (o1.mono e2), rfl⟩, by rw [e]; exact q0 _ _ M2 B2 H2 q (e1.trans e2) S2 slok_bl⟩
/-- d.get(k, x) -/
theorem w_dget2 (h : W K td ρ M fun s M1 => (∃ kvs, DcV K.K s M1 kvs) ∧ W K ty ρ M1 fun y M2 => W K tx ρ M2 fun z M3 => ∃ kvs k, DcV K.K s M3 kvs ∧ y = kS k ∧ Q ((valG kvs k).getD z) M3) : W K (tDGet2 td ty tx) ρ M Q := fun σ B H hR hS Q0 q0 =>
  h σ B H hR hS _ fun s v M1 B1 H1 ⟨⟨kvs0, hd0⟩, h1⟩ e1 S1 o1 => by
    obtain ⟨a, vs0, rfl, hr0, _⟩ := hd0.get S1 o1
    refine ⟨a, rfl, isD_of hr0, h1 σ B1 H1 (hR.mono e1) S1 _ fun y w M2 B2 H2 h2 e2 S2 o2 => h2 σ B2 H2 (hR.mono (e1.trans e2)) S2 _ fun z u M3 B3 H3 ⟨kvs, k, hd, ey, q⟩ e3 S3 o3 => ?_⟩
    subst ey
    obtain ⟨a', vs, ea, hr, hk⟩ := hd.get S3 (o1.mono (e2.trans e3))
    cases ea
    refine ⟨valV vs k, .inl ⟨vs, k, hr, of_kS (o2.mono e3), rfl⟩, ?_⟩
    obtain ⟨i1, i2⟩ := slks_val (k := k) hk
    cases hv : valG kvs k with
    | none => rw [hv] at q; rw [i2 hv]; exact q0 z u M3 B3 H3 q ((e1.trans e2).trans e3) S3 o3
    | some s => rw [hv] at q; obtain ⟨t, ht, ot⟩ := i1 s hv; rw [ht]; exact q0 s t M3 B3 H3 q ((e1.trans e2).trans e3) S3 ot
/-- d[k] = v -/
theorem ws_dput (h : W K tv ρ M fun s M1 => W K td ρ M1 fun o M2 => W K ty ρ M2 fun y M3 => ∃ a kvs k, o = .raw (.ref a) ∧ y = kS k ∧ M3 a = some (.dK kvs) ∧ kvs.length < 1000000 ∧ nx ρ (um M3 a (.dK (putG kvs k s)))) : WS K (sDPut td ty tv) ρ M ⟨nx, rt, bk, ct⟩ := fun σ B H D hR hS p1 p2 p3 p4 =>
  h σ B H hR hS _ fun s v M1 B1 H1 h1 e1 S1 o1 => h1 σ B1 H1 (hR.mono e1) S1 _ fun o w M2 B2 H2 h2 e2 S2 o2 => h2 σ B2 H2 (hR.mono (e1.trans e2)) S2 _ fun y u M3 B3 H3 ⟨a, kvs, k, eo, ey, hM, hl, q⟩ e3 S3 o3 => by
    subst eo ey
    have ew : w = .ref a := o2
    subst ew
    obtain ⟨_, t, ht, vs, rfl, hv⟩ := S3.has a _ hM
    refine ⟨a, _, rfl, .inl ⟨vs, k, ht, of_kS o3, by rw [Paired.length hv]; exact Nat.lt_of_lt_of_le hl (show 1000000 ≤ sizeLine by decide), rfl⟩, ?_⟩
    exact p1 ρ _ σ B3 _ q ((e1.trans e2).trans e3) (hR.mono ((e1.trans e2).trans e3)) (S3.put hM ⟨_, rfl, slks_putK (o1.mono (e2.trans e3)) hv⟩)
/-- {k: v, ..} -/
def WPs (K : KX) (trs : List (TE × TE)) (ρ : Rho) (M : MH) (Q : List (Sl × Sl) → MH → Prop) : Prop :=
  ∀ σ B H, Rl K B σ ρ → Sep K B M H → ∀ Q0 : List (V × V) → Hp → Prop, (∀ ss vs M' B' H', Q ss M' → Same B B' → Sep K B' M' H' → Paired (fun p q => SlOk K B' p.1 q.1 ∧ SlOk K B' p.2 q.2) vs ss → Q0 vs H') → tPairs trs σ H Q0
theorem wps_nil {Q : List (Sl × Sl) → MH → Prop} (q : Q [] M) : WPs K [] ρ M Q := fun σ B H hR hS Q0 k => k [] [] M B H q (Same.refl B) hS .nil
theorem wps_cons {trs : List (TE × TE)} {Q : List (Sl × Sl) → MH → Prop} (h : W K ta ρ M fun x M1 => W K tb ρ M1 fun y M2 => WPs K trs ρ M2 fun ps M3 => Q ((x, y) :: ps) M3) : WPs K ((ta, tb) :: trs) ρ M Q := fun σ B H hR hS Q0 k =>
  h σ B H hR hS _ fun x v M1 B1 H1 h1 e1 S1 o1 => h1 σ B1 H1 (hR.mono e1) S1 _ fun y w M2 B2 H2 h2 e2 S2 o2 => h2 σ B2 H2 (hR.mono (e1.trans e2)) S2 _ fun ss vs M3 B3 H3 q e3 S3 o3 =>
    k _ _ M3 B3 H3 q ((e1.trans e2).trans e3) S3 (.cons ⟨o1.mono (e2.trans e3), o2.mono e3⟩ o3)
theorem pairs_keys {F : PySem.W.Frag} {B : Hp} : ∀ {vs : List (V × V)} {ps : List (Key × Sl)}, Paired (fun p q => SlOk F B p.1 q.1 ∧ SlOk F B p.2 q.2) vs (ps.map fun p => (kS p.1, p.2)) → ∃ ws : List (Key × V), vs = ws.map (fun kv => (kV kv.1, kv.2)) ∧ SlKs F B ws ps
  | _, [], .nil => ⟨[], rfl, .nil⟩
  | (a, b) :: vs, (k, s) :: ps, .cons ⟨h1, h2⟩ t => by
    obtain ⟨ws, rfl, hw⟩ := pairs_keys t
    have e : a = kV k := of_kS h1
    subst e
    exact ⟨(k, b) :: ws, rfl, .cons ⟨rfl, h2⟩ hw⟩
theorem w_disp {trs : List (TE × TE)} (h : ∀ p, M p = none → WPs K trs ρ (um M p (.dK [])) fun ss M1 => M1 p = some (.dK []) ∧ ∃ ps : List (Key × Sl), ss = ps.map (fun p => (kS p.1, p.2)) ∧ ps.length ≤ 15 ∧ Q (.raw (.ref p)) (um M1 p (.dK (mergeG [] ps)))) : W K (tDisp trs) ρ M Q := fun σ B H hR hS Q0 k p hp =>
  h p (hS.freeM hp) σ B _ hR (hS.new hp ⟨[], rfl, .nil⟩) _ fun ss vs M1 B1 H1 ⟨hM, ps, es, hl, q⟩ e1 S1 o1 => by
    subst es
    obtain ⟨ws, rfl, hw⟩ := pairs_keys o1
    obtain ⟨_, t, ht, vs, rfl, hv⟩ := S1.has p _ hM
    cases hv
    exact ⟨ht, ws, rfl, by rw [Paired.length hw]; exact hl, k _ _ _ B1 _ q e1 (S1.put hM ⟨_, rfl, slks_merge hw .nil⟩) slok_ref⟩
end
end Ab
set_option Elab.async false
set_option linter.all false
set_option maxRecDepth 1000000
set_option  maxHeartbeats 4000000
namespace L2
open PySem PySem.Spec PyProof.Rows
/-- d.update(e), e a dict -/
def rUpdate : V → List V → Hp → VK → Prop := fun x xs H Q => ∃ (d o : Addr) (kvs more : List (Key × V)), x = .ref d ∧ xs = [.ref o] ∧ d ≠ o ∧ H d = some (.dK kvs) ∧ Rd H o (.dK more) ∧ kvs.length + more.length ≤ sizeLine ∧ Q .non (upd H d (.dK (mergeK kvs more)))
theorem len_mergeK : ∀ (more kvs : List (Key × V)), (mergeK kvs more).length ≤ kvs.length + more.length
  | [], _ => Nat.le_refl _
  | p :: more, kvs => by
    have h1 := len_mergeK more (putK kvs p.1 p.2)
    have h2 := length_putK kvs p.1 p.2
    show (mergeK (putK kvs p.1 p.2) more).length ≤ _
    rw [List.length_cons]
    omega
theorem mt_update {X : Cx} : MtR X "dict.update" rUpdate := fun pins s σ H x xs v us Q I rx rv ⟨d, o, kvs, more, e1, e2, hne, hd, ho, hz, q⟩ => by
  subst e1 e2
  cases rx
  obtain ⟨u, rfl, ru⟩ := vals1 rv
  cases ru
  obtain ⟨z1, _, vs, kv, dd⟩ := dk_of I.hok hd
  obtain ⟨z2, n2, ws, kw, dw⟩ := dk_rd I.hok ho
  refine call_meetsIn PySem.F.slot_dict_update dd.typeIs PySem.F.entry_dict_update (PySem.F.args_dict_update_2 _ _) (meets_dict_update (mixKind X.prog X.w) d o hne n2) ⟨vs, ws, dd, dw, by rw [← kv.length, ← kw.length]; exact hz, fun h' dd' _ hs => ?_⟩
  have has : ∃ q, h'.get? d = some q := let ⟨q, _, _, hq, _⟩ := dd'; ⟨q, hq⟩
  exact ⟨.non, _, d_write (t' := s.toks) I (by rw [hd]; exact True.intro) hs has (dk_new (Nat.le_trans (len_mergeK more kvs) hz) (dk_of I.hok hd).2.1 (KV.merge kw kv) dd'), rfl, q⟩
end L2
namespace Ab
open PySem PySem.Spec PyProof.Rows L2
section
variable {K : KX} {ρ : Rho} {M : MH} {Q Q' : Sl → MH → Prop} {ta tb te tc td ty tx tv : TE} {P : AE} {nx bk ct : Rho → MH → Prop} {rt : Sl → MH → Prop}
theorem wm_update {F : PySem.W.Frag} {M : MH} {a : Addr} {s : Sl} {kvs more : List (Key × Sl)} {Q : Sl → MH → Prop} (h : M a = some (.dK kvs)) (hs : DcV F s M more) (hne : s ≠ .raw (.ref a)) (hd : ∀ B H, Sep F B M H → SlOk F B (.ref a) s → False) (hl : kvs.length + more.length ≤ 1000000) (q : Q .non (um M a (.dK (mergeG kvs more)))) : WM F rUpdate (.raw (.ref a)) [s] M Q := fun B H v vs hS o1 o2 Q0 k => by
  have ev : v = .ref a := o1
  subst ev
  cases o2 with
  | cons o o2 =>
    cases o2
    obtain ⟨_, t, ht, us, rfl, hv⟩ := hS.has a _ h
    obtain ⟨b, ws, rfl, hr, hw⟩ := hs.get hS o
    refine ⟨a, b, us, ws, rfl, rfl, fun e => hd B H hS (by rw [e]; exact o), ht, hr, ?_, ?_⟩
    · rw [Paired.length hv, Paired.length hw]
      exact Nat.le_trans hl (show 1000000 ≤ sizeLine by decide)
    · exact k _ _ _ B _ q (Same.refl B) (hS.put h ⟨_, rfl, slks_merge hw hv⟩) slok_non
/-- d.update(e), two dicts that change -/
theorem wm_updateM {F : PySem.W.Frag} {M : MH} {a b : Addr} {kvs more : List (Key × Sl)} {Q : Sl → MH → Prop} (h : M a = some (.dK kvs)) (hb : M b = some (.dK more)) (hne : b ≠ a) (hl : kvs.length + more.length ≤ 1000000) (q : Q .non (um M a (.dK (mergeG kvs more)))) : WM F rUpdate (.raw (.ref a)) [.raw (.ref b)] M Q :=
  wm_update h (dcv_ref hb) (fun e => hne (by cases e; rfl)) (fun B H _ o => hne (by have e : V.ref a = .ref b := o; cases e; rfl)) hl q
/-- a list that was just made will not be changed any more -/
theorem w_frz (h : W K te ρ M fun s M1 => ∃ a ds, s = .raw (.ref a) ∧ M1 a = some (.lst (ds.map .dat)) ∧ Q (.dat (.list ds)) (del M1 a)) : W K te ρ M Q := fun σ B H hR hS Q0 k =>
  h σ B H hR hS _ fun s v M1 B1 H1 ⟨a, ds, es, hM, q⟩ e1 S1 o1 => by
    subst es
    have ev : v = .ref a := o1
    subst ev
    obtain ⟨hB, u, hu, vs, rfl, ha⟩ := S1.has a _ hM
    exact k _ _ _ _ H1 q (e1.trans (same_new hB)) (S1.freeze hM hu) (lst_ok (dpa_of ha) hB)
end
end Ab
set_option Elab.async false
set_option linter.all false
set_option maxRecDepth 1000000
set_option  maxHeartbeats 4000000
namespace L2
open PySem PySem.Spec PyProof.Rows
end L2
namespace Ab
open PySem PySem.Spec PyProof.Rows L2
section
variable {K : KX} {ρ : Rho} {M : MH} {Q Q' : Sl → MH → Prop} {ta tb te tc td ty tx tv : TE} {P : AE} {nx bk ct : Rho → MH → Prop} {rt : Sl → MH → Prop}
/-- x.f, x a name -/
theorem w_fldI {i : Nat} {f : Str} {a C dx : Addr} {fs : List (Str × Sl)} {x : Sl} (hv : ρ[i]? = some (some (.raw (.ref a)))) (hM : M a = some (.ins C dx fs)) (c : Cls K.K C) (n : NoAttr K.K C f) (l : fs.lookup f = some x) (q : Q x M) : W K (tFld K.K (tVar i) f) ρ M Q :=
  w_fld (w_var hv ⟨a, C, dx, fs, x, rfl, hM, c, n, l, q⟩)
/-- x.f = e, x a name -/
theorem ws_fldI {i : Nat} {f : Str} {a C : Addr} (hv : ρ[i]? = some (some (.raw (.ref a)))) (c : Cls K.K C) (n : NoAttr K.K C f) (h : W K te ρ M fun s M1 => ∃ dx fs, M1 a = some (.ins C dx fs) ∧ fs.length < 1000 ∧ nx ρ (um M1 a (.ins C dx (putS f s fs)))) : WS K (sFld K.K (tVar i) te f) ρ M ⟨nx, rt, bk, ct⟩ :=
  ws_fld (h.imp fun s M1 ⟨dx, fs, hM, hl, q⟩ => w_var hv ⟨a, C, dx, fs, rfl, hM, c, n, hl, q⟩)
/-- d["k"], d a name -/
theorem w_dgetI {i : Nat} {z : Str} {g : Addr} {kvs : List (Key × Sl)} {x : Sl} (hv : ρ[i]? = some (some (.raw (.ref g)))) (hM : M g = some (.dK kvs)) (hx : valG kvs (.inr z) = some x) (q : Q x M) : W K (tDGet (tVar i) (tC (.str z))) ρ M Q :=
  w_dget (w_var hv (w_str ⟨kvs, .inr z, x, dcv_ref hM, rfl, hx, q⟩))
theorem ty_dct {F : PySem.W.Frag} {M : MH} {g : Addr} {kvs : List (Key × Sl)} (hM : M g = some (.dK kvs)) : ∀ B H v, Sep F B M H → SlOk F B v (.raw (.ref g)) → tyV F "dict" v H := fun B H v S o => by
  have ev : v = .ref g := o
  subst ev
  obtain ⟨_, u, hu, vs, rfl, _⟩ := S.has g _ hM
  exact .inr (.inr (.inl ⟨rfl, .inl ⟨vs, hu⟩⟩))
end
end Ab
set_option Elab.async false
set_option linter.all false
set_option maxRecDepth 1000000
set_option  maxHeartbeats 4000000
namespace L2
open PySem PySem.Spec PyProof.Rows PyProof
/-- a tuple target, the module's part named -/
theorem pg_tupK {X : Cx} {K : PySem.W.Frag} {es : List Expr} {k : Nat} {t : TGs} {n : Nat} {pos : Pos} (hK : X.K = K) (hc : X.calm = true) (h : PGs X es t)
    (hn : (assignEach es X.env).length = n := by rfl) (hst : (assignEach es X.env).findIdx? (·.1) = none := by rfl) : PG X (.Tuple es k pos) (gTup K n t) := by
  subst hK
  exact pg_tup hc h hn hst
end L2
namespace Ab
open PySem PySem.Spec PyProof.Rows L2
variable {M : MH} {Q : Sl → MH → Prop}
theorem w2_isB {K : PySem.W.Frag} {a b : Bool} (q : Q (.bl (decide (a = b))) M) : W2 K rIsB (.bl a) (.bl b) M Q := fun B H v w hS o1 o2 Q0 k => ⟨a, b, of_bl o1, of_bl o2, k _ _ M B H q (Same.refl B) hS slok_bl⟩
theorem w2_notB {K : PySem.W.Frag} {a b : Bool} (q : Q (.bl (!decide (a = b))) M) : W2 K rNotB (.bl a) (.bl b) M Q := fun B H v w hS o1 o2 Q0 k => ⟨a, b, of_bl o1, of_bl o2, k _ _ M B H q (Same.refl B) hS slok_bl⟩
/-- isinstance of a list that changes -/
theorem wl_isiL {K : PySem.W.Frag} {a : Addr} {xs : List Sl} {n : String} {b : Bool} (h : M a = some (.lst xs)) (hb : kitB "list" n = some b) (q : Q (.bl b) M) : WL K (rIsi K) [.raw (.ref a), .raw (.ty n)] M Q := fun B H vs hS o Q0 k => by
  cases o with
  | cons o1 o2 =>
    cases o2 with
    | cons o2 o3 =>
      cases o3
      obtain rfl : _ = V.ty n := o2
      obtain rfl : _ = V.ref a := o1
      obtain ⟨_, u, hu, ws, rfl, ha⟩ := hS.has a _ h
      exact ⟨_, .ty n, _, _, b, rfl, .ty n, .base (.lst hu), kit_ty hb, k _ _ M B H q (Same.refl B) hS slok_bl⟩
theorem hu1 {n : Nat} (h : n + 64 < cLine) : n + 1 < cLine := by omega
end Ab
set_option Elab.async false
set_option linter.all false
set_option maxRecDepth 1000000
set_option  maxHeartbeats 4000000
namespace L2
open PySem PySem.Spec PySem.Calls PyProof.Rows
end L2
namespace L2
open PySem PySem.Spec PySem.Calls PyProof.Rows
end L2
namespace L2
open PySem PySem.Spec PySem.Calls PyProof.Rows
end L2
namespace Ab
open PySem PySem.Spec PySem.Calls PyProof.Rows PySem.SeqAt
end Ab
namespace L2
open PySem PySem.Spec PySem.Calls PyProof.Rows Ab
end L2
set_option Elab.async false
set_option linter.all false
set_option maxRecDepth 1000000
set_option  maxHeartbeats 4000000
namespace Ab
open PySem PySem.Spec PyProof.Rows L2
end Ab
set_option Elab.async false
set_option linter.all false
set_option maxRecDepth 1000000
set_option  maxHeartbeats 4000000
namespace Ab
open PySem PySem.Spec PyProof.Rows L2
section
variable {K : KX} {ρ : Rho} {M : MH} {Q : Sl → MH → Prop} {te td tk tv : TE} {tb : TS} {nx bk ct : Rho → MH → Prop} {rt : Sl → MH → Prop}
/-- .. for a statement -/
theorem ws_lock {a : Addr} {kvs : List (Key × Sl)} (h : M a = some (.dK kvs)) (hw : ∀ od v, WS K tb ρ (um M a (.frz od v (.dK kvs))) ⟨fun ρ' M' => M' a = some (.frz od v (.dK kvs)) ∧ nx ρ' (um M' a (.dK kvs)), fun s M' => M' a = some (.frz od v (.dK kvs)) ∧ rt s (um M' a (.dK kvs)), fun ρ' M' => M' a = some (.frz od v (.dK kvs)) ∧ bk ρ' (um M' a (.dK kvs)), fun ρ' M' => M' a = some (.frz od v (.dK kvs)) ∧ ct ρ' (um M' a (.dK kvs))⟩) :
    WS K (tLock tb) ρ M ⟨nx, rt, bk, ct⟩ := fun σ B H D hR hS p1 p2 p3 p4 => by
  obtain ⟨hB, u, hu, vs, rfl, hv⟩ := hS.has a _ h
  refine ⟨a, .dK vs, hu, trivial, fun od => hw od (.dK vs) σ B _ _ hR (hS.put h ⟨rfl, vs, rfl, hv⟩) (fun ρ' M' σ' B' H' ⟨hM', q⟩ e R S => ?_) (fun s v M' B' H' ⟨hM', q⟩ e S o => ?_) (fun ρ' M' σ' B' H' ⟨hM', q⟩ e R S => ?_) (fun ρ' M' σ' B' H' ⟨hM', q⟩ e R S => ?_)⟩
  · obtain ⟨_, u', hu', rfl, vs', e', hv'⟩ := S.has a _ hM'
    cases e'
    exact ⟨hu', p1 ρ' _ σ' B' _ q e R (S.put hM' ⟨vs, rfl, hv'⟩)⟩
  · obtain ⟨_, u', hu', rfl, vs', e', hv'⟩ := S.has a _ hM'
    cases e'
    exact ⟨hu', p2 s v _ B' _ q e (S.put hM' ⟨vs, rfl, hv'⟩) o⟩
  · obtain ⟨_, u', hu', rfl, vs', e', hv'⟩ := S.has a _ hM'
    cases e'
    exact ⟨hu', p3 ρ' _ σ' B' _ q e R (S.put hM' ⟨vs, rfl, hv'⟩)⟩
  · obtain ⟨_, u', hu', rfl, vs', e', hv'⟩ := S.has a _ hM'
    cases e'
    exact ⟨hu', p4 ρ' _ σ' B' _ q e R (S.put hM' ⟨vs, rfl, hv'⟩)⟩
theorem slok_kS {F : PySem.W.Frag} {B : Hp} : ∀ k : Key, SlOk F B (kV k) (kS k)
  | .inl _ => slok_int
  | .inr _ => slok_str
theorem slks_at {F : PySem.W.Frag} {B : Hp} : ∀ {vs : List (Key × V)} {kvs : List (Key × Sl)} {i : Nat} {k : Key} {v : V}, SlKs F B vs kvs → vs[i]? = some (k, v) → ∃ s, kvs[i]? = some (k, s)
  | (k, v) :: _, (k', s) :: _, 0, _, _, .cons h t, e => by
    cases e
    have h1 : k = k' := h.1
    exact ⟨s, by rw [List.getElem?_cons_zero, h1]⟩
  | _, _, i + 1, k, v, .cons _ t, e => by
    obtain ⟨s, h⟩ := slks_at (i := i) t (by simpa using e)
    exact ⟨s, by simpa using h⟩
/-- the keys of a locked dict -/
theorem wi_keys {R : Nat → (Nat → Sl) → (MH → Prop) → MH → Prop} (h : W K td ρ M fun s M1 => ∃ a od v kvs, s = .raw (.ref a) ∧ M1 a = some (.frz od v (.dK kvs)) ∧ R kvs.length (fun i => (kvs.map fun q => kS q.1).getD i .non) (fun M2 => M2 a = some (.frz od v (.dK kvs))) M1) : WI K (iKeys td) ρ M R := fun σ B H hR hS R0 k =>
  h σ B H hR hS _ fun s v0 M1 B1 H1 ⟨a, od, v, kvs, es, hM, q⟩ e1 S1 o1 => by
    subst es
    obtain rfl : v0 = .ref a := o1
    obtain ⟨_, u, hu, rfl, vs, rfl, hv⟩ := S1.has a _ hM
    have hl : vs.length = kvs.length := Paired.length hv
    refine ⟨a, od, rfl, .inl ⟨vs, hu, k kvs.length _ _ M1 B1 H1 _ q e1 S1 ⟨fun i B2 M2 H2 hi e2 S2 st => ?_, fun i B2 M2 H2 x H3 hi e2 S2 st y => ?_, fun i B2 M2 H2 hi e2 S2 st => ?_⟩⟩⟩
    · obtain ⟨_, u2, hu2, rfl, _⟩ := S2.has a _ st
      exact ⟨hu2, by omega⟩
    · obtain ⟨rfl, kk, vv, hk, rfl⟩ := y
      obtain ⟨s, hs⟩ := slks_at hv hk
      refine ⟨B2, Same.refl _, S2, ?_⟩
      rw [List.getD_eq_getElem?_getD, List.getElem?_map, hs]
      exact slok_kS kk
    · obtain ⟨_, u2, hu2, rfl, _⟩ := S2.has a _ st
      exact ⟨hu2, by omega⟩
end
section
variable {K : PySem.W.Frag} {M : MH} {Q : Sl → MH → Prop}
/-- list(d) -/
abbrev rListDk : List V → Hp → VK → Prop := fun xs H Q => ∃ (a : Addr) (kvs : List (Key × V)), xs = [.ref a] ∧ Rd H a (.dK kvs) ∧ ∀ p, H p = none → Q (.ref p) (upd H p (.lst (kvs.map fun kv => kV kv.1)))
theorem slks_keys {B : Hp} : ∀ {vs : List (Key × V)} {kvs : List (Key × Sl)}, SlKs K B vs kvs → SlAll K B (vs.map fun kv => kV kv.1) (kvs.map fun q => kS q.1)
  | _, _, .nil => .nil
  | (k, v) :: _, (k', s) :: _, .cons h t => .cons (by have h1 : k = k' := h.1; subst h1; exact slok_kS k) (slks_keys t)
theorem wl_listD {s : Sl} {kvs : List (Key × Sl)} (h : DcV K s M kvs) (q : ∀ p, M p = none → Q (.raw (.ref p)) (um M p (.lst (kvs.map fun q => kS q.1)))) : WL K rListDk [s] M Q := fun B H vs hS o Q0 k => by
  cases o with
  | cons o1 o2 =>
    cases o2
    obtain ⟨a, us, rfl, hr, hk⟩ := h.get hS o1
    exact ⟨a, us, rfl, hr, fun p hp => k _ _ (um M p _) B _ (q p (hS.freeM hp)) (Same.refl B) (hS.new hp ⟨_, rfl, slks_keys hk⟩) slok_ref⟩
def leT (x y : Str) : Bool := !decide (y.cps.toList < x.cps.toList)
def sortT (ks : List Str) : List Str := ks.mergeSort leT
theorem leT_iff {x y : Str} : leT x y = true ↔ x = y ∨ x.cps.toList < y.cps.toList := by
  unfold leT
  rw [Bool.not_eq_true', decide_eq_false_iff_not]
  constructor
  · intro h
    rcases Std.lt_trichotomy x.cps.toList y.cps.toList with h' | h' | h'
    · exact .inr h'
    · left
      have hc : x.cps = y.cps := Array.toList_inj.mp h'
      cases x
      cases y
      simp only [Str.mk.injEq]
      exact hc
    · exact absurd h' h
  · rintro (rfl | h) h2
    · exact List.lt_irrefl _ h2
    · exact List.lt_asymm h h2
theorem leT_trans (a b c : Str) (h1 : leT a b = true) (h2 : leT b c = true) : leT a c = true := by
  rw [leT_iff] at *
  rcases h1 with rfl | h1
  · exact h2
  · rcases h2 with rfl | h2
    · exact .inr h1
    · exact .inr (List.lt_trans h1 h2)
theorem leT_total (a b : Str) : (leT a b || leT b a) = true := by
  rw [Bool.or_eq_true, leT_iff, leT_iff]
  rcases Std.lt_trichotomy a.cps.toList b.cps.toList with h | h | h
  · exact .inl (.inr h)
  · left; left
    have hc : a.cps = b.cps := Array.toList_inj.mp h
    cases a
    cases b
    simp only [Str.mk.injEq]
    exact hc
  · exact .inr (.inr h)
theorem leT_anti {a b : Str} (h1 : leT a b = true) (h2 : leT b a = true) : a = b := by
  rw [leT_iff] at h1 h2
  rcases h1 with h1 | h1
  · exact h1
  · rcases h2 with h2 | h2
    · exact h2.symm
    · exact absurd h2 (List.lt_asymm h1)
theorem sortT_pw (ks : List Str) : (sortT ks).Pairwise fun a b => leT a b = true := List.pairwise_mergeSort leT_trans leT_total ks
theorem rising_pw : ∀ {p : Str} {ys : List Str}, risingS p ys = true → (p :: ys).Pairwise fun a b => leT a b = true
  | p, [], _ => List.pairwise_singleton ..
  | p, x :: r, h => by
    rw [risingS, Bool.and_eq_true, ltCps_eq] at h
    have ih := rising_pw h.2
    have hpx : leT p x = true := h.1
    refine List.pairwise_cons.mpr ⟨fun y hy => ?_, ih⟩
    rcases List.mem_cons.mp hy with rfl | hy
    · exact hpx
    · exact leT_trans _ _ _ hpx ((List.pairwise_cons.mp ih).1 y hy)
theorem sorted_is {ys ks : List Str} (hp : ys.Perm ks) (hs : sortedS ys = true) : ys = sortT ks := by
  refine List.Perm.eq_of_pairwise (le := fun a b => leT a b = true) (fun a b _ _ => leT_anti) ?_ (sortT_pw ks) (hp.trans (List.mergeSort_perm ks leT).symm)
  cases ys with
  | nil => exact .nil
  | cons x r => exact rising_pw hs
theorem sla_strs {B : Hp} : ∀ ys : List Str, SlAll K B (ys.map V.str) (ys.map fun y => .str y)
  | [] => .nil
  | _ :: ys => .cons slok_str (sla_strs ys)
theorem sla_str {B : Hp} : ∀ {vs : List V} {ys : List Str}, SlAll K B vs (ys.map fun y => .str y) → vs = ys.map V.str
  | _, [], .nil => rfl
  | _, _ :: _, .cons h t => by rw [List.map_cons, ← sla_str t, of_str h]
theorem wl_sortedS {s : Sl} {ys : List Str} (h : LsV K s M (ys.map fun y => .str y)) (hl : ys.length < 64) (q : ∀ p, M p = none → Q (.raw (.ref p)) (um M p (.lst ((sortT ys).map fun y => .str y)))) : WL K (rSortedS K) [s] M Q := fun B H vs hS o Q0 k => by
  cases o with
  | cons o1 o2 =>
    cases o2
    obtain ⟨a, us, rfl, hr, hk⟩ := h.get hS o1
    have e := sla_str hk
    subst e
    refine ⟨a, ys, rfl, hr, hl, fun zs p hp hs hn => ?_⟩
    have e2 := sorted_is hp hs
    subst e2
    exact k _ _ (um M p _) B _ (q p (hS.freeM hn)) (Same.refl B) (hS.new hn ⟨_, rfl, sla_strs _⟩) slok_ref
/-- x in xs, xs a list of data that may change -/
theorem w2_inL {s : Sl} {d : PyData} {ds : List PyData} (hl : LsV K s M (ds.map .dat)) (h1 : SeqAt.shaped d = true) (h2 : SeqAt.shaped (.list ds) = true) (q : Q (.bl (ds.any fun z => PyData.eqv z d)) M) : W2 K (rInD K) (.dat d) s M Q := fun B H v w hS o1 o2 Q0 k => by
  obtain ⟨a, vs, rfl, hq, ha⟩ := hl.get hS o2
  exact ⟨d, ds, dq_dpS h1 (dp_same hS.sub _ _ o1), .lst hq (dqa_dpS h2 (dpa_same hS.sub _ _ (dpa_of ha))), h1, h2, k _ _ M B H q (Same.refl B) hS slok_bl⟩
end
end Ab
set_option Elab.async false
set_option linter.all false
set_option maxRecDepth 1000000
set_option  maxHeartbeats 4000000
namespace L2
open PySem PySem.Spec PyProof.Rows
end L2
namespace Ab
open PySem PySem.Spec PyProof.Rows L2
end Ab
set_option Elab.async false
set_option linter.all false
set_option maxRecDepth 1000000
set_option  maxHeartbeats 4000000
namespace Ab
open PySem L2
def goodS (z : Str) : Bool := decide (z.length ≤ 40) && z.cps.toList.all fun c => decide (32 ≤ c) && decide (c < 127) && decide (c ≠ 37)
theorem goodS_ok {z : Str} (h : goodS z = true) : PyData.strOk z = true := by
  unfold goodS at h
  rw [Bool.and_eq_true, List.all_eq_true] at h
  unfold PyData.strOk
  rw [← Array.all_toList, List.all_eq_true]
  intro c hc
  have := h.2 c hc
  simp only [Bool.and_eq_true, decide_eq_true_eq] at this
  exact decide_eq_true (by omega)
inductive Val where
  | int (n : Int)
  | str (z : Str)
  deriving DecidableEq
def Val.enc : Val → PyData
  | .int n => .int n
  | .str z => .str z
def Val.ok : Val → Prop
  | .int n => n.natAbs < 10 ^ 30
  | .str z => goodS z = true
inductive Term where
  | any
  | value (v : Val)
  | variable (z : Str)
  deriving DecidableEq
def Term.enc : Term → PyData
  | .any => .tuple [.str "any"]
  | .value v => .tuple [.str "value", v.enc]
  | .variable z => .tuple [.str "variable", .str z]
def Term.ok : Term → Prop
  | .any => True
  | .value v => v.ok
  | .variable z => goodS z = true
inductive Lit where
  | fact (rel : Str) (ts : List Term)
  | neg (rel : Str) (ts : List Term)
  | compare (op : Str) (s t : Term)
  | is (x op : Str) (s t : Term)
  | count (x rel : Str) (ts : List Term)
  deriving DecidableEq
abbrev encT (ts : List Term) : PyData := .tuple (ts.map Term.enc)
abbrev encR (row : List Val) : PyData := .tuple (row.map Val.enc)
def Lit.enc : Lit → PyData
  | .fact r ts => .tuple [.str "fact", .str r, encT ts]
  | .neg r ts => .tuple [.str "not", .str r, encT ts]
  | .compare op s t => .tuple [.str "compare", .str op, s.enc, t.enc]
  | .is x op s t => .tuple [.str "is", .str x, .str op, s.enc, t.enc]
  | .count x r ts => .tuple [.str "count", .str x, .str r, encT ts]
def okTs (ts : List Term) : Prop := ts.length ≤ 1000 ∧ ∀ t ∈ ts, t.ok
def okR (row : List Val) : Prop := row.length ≤ 1000 ∧ ∀ v ∈ row, v.ok
def opsC : List Str := ["=", "<>", "<", "<=", ">", ">="]
def opsI : List Str := ["+", "-", "*"]
def Lit.ok : Lit → Prop
  | .fact r ts => goodS r = true ∧ okTs ts
  | .neg r ts => goodS r = true ∧ okTs ts
  | .compare op s t => op ∈ opsC ∧ s.ok ∧ t.ok
  | .is x op s t => goodS x = true ∧ op ∈ opsI ∧ s.ok ∧ t.ok
  | .count x r ts => goodS x = true ∧ goodS r = true ∧ okTs ts
abbrev encB (b : List Lit) : PyData := .tuple (b.map Lit.enc)
def okB (b : List Lit) : Prop := b.length ≤ 1000 ∧ ∀ l ∈ b, l.ok
inductive Item where
  | relation (n : Str) (w : Int)
  | fact (n : Str) (row : List Val)
  | rule (n rel : Str) (hd : List Term) (b : List Lit)
  | denial (n : Str) (b : List Lit)
  deriving DecidableEq
def Item.enc : Item → PyData
  | .relation n w => .tuple [.str "relation", .str n, .int w]
  | .fact n row => .tuple [.str "fact", .str n, encR row]
  | .rule n rel hd b => .tuple [.str "rule", .str n, .str rel, encT hd, encB b]
  | .denial n b => .tuple [.str "denial", .str n, encB b]
def Item.ok : Item → Prop
  | .relation n w => goodS n = true ∧ 0 ≤ w ∧ w ≤ 1000
  | .fact n row => goodS n = true ∧ okR row ∧ row ≠ []
  | .rule n rel hd b => goodS n = true ∧ goodS rel = true ∧ okTs hd ∧ okB b
  | .denial n b => goodS n = true ∧ okB b
theorem okD_str {n : Nat} {z : Str} (h : PyData.strOk z = true) : okD n (.str z) = true := by cases n <;> simpa [okD] using h
theorem okD_good {n : Nat} {z : Str} (h : goodS z = true) : okD n (.str z) = true := okD_str (goodS_ok h)
theorem okD_int {n : Nat} {i : Int} : okD n (.int i) = true := by cases n <;> rfl
theorem Val.okD {n : Nat} : ∀ {v : Val}, v.ok → okD n v.enc = true
  | .int _, _ => okD_int
  | .str _, h => okD_good h
theorem okAll_cons {n : Nat} {x : PyData} {xs : List PyData} (h : Ab.okD n x = true) (t : okAll n xs = true) : okAll n (x :: xs) = true := by
  show (Ab.okD n x && okAll n xs) = true
  rw [h, t]
  rfl
theorem Term.okD {n : Nat} : ∀ {t : Term}, t.ok → okD (n + 1) t.enc = true
  | .any, _ => okD_mkT (by simp) (okAll_cons (okD_str (by decide +kernel)) rfl)
  | .value v, h => okD_mkT (by simp) (okAll_cons (okD_str (by decide +kernel)) (okAll_cons (Val.okD h) rfl))
  | .variable z, h => okD_mkT (by simp) (okAll_cons (okD_str (by decide +kernel)) (okAll_cons (okD_good h) rfl))
theorem okR_okD {n : Nat} {row : List Val} (h : okR row) : okD (n + 1) (encR row) = true := okD_mkT (by rw [List.length_map]; have := h.1; omega) (okAll_of fun d hd => by
  obtain ⟨t, ht, rfl⟩ := List.mem_map.mp hd
  exact Val.okD (h.2 t ht))
theorem eqv_str (x y : Str) : PyData.eqv (.str x) (.str y) = decide (x = y) := by
  simp only [PyData.eqv]
  by_cases e : x = y
  · subst e; simp
  · rw [decide_eq_false e]; exact beq_eq_false_iff_ne.mpr e
theorem eqv_val : ∀ v w : Val, PyData.eqv v.enc w.enc = decide (v = w)
  | .int a, .int b => by
    show PyData.eqv (.int a) (.int b) = _
    rw [eqv_int]
    exact decide_eq_decide.mpr ⟨fun h => by rw [h], fun h => Val.int.inj h⟩
  | .str a, .str b => by
    show PyData.eqv (.str a) (.str b) = _
    rw [eqv_str]
    exact decide_eq_decide.mpr ⟨fun h => by rw [h], fun h => Val.str.inj h⟩
  | .int a, .str b => by
    rw [decide_eq_false (by simp)]
    simp [Val.enc, PyData.eqv]
  | .str a, .int b => by
    rw [decide_eq_false (by simp)]
    simp [Val.enc, PyData.eqv]
theorem eqvAll_map {α : Type} [DecidableEq α] {f : α → PyData} (hf : ∀ x y, PyData.eqv (f x) (f y) = decide (x = y)) : ∀ xs ys : List α, PyData.eqvAll (xs.map f) (ys.map f) = decide (xs = ys)
  | [], [] => by simp [PyData.eqvAll]
  | [], _ :: _ => by simp [PyData.eqvAll]
  | _ :: _, [] => by simp [PyData.eqvAll]
  | x :: xs, y :: ys => by
    rw [List.map_cons, List.map_cons, PyData.eqvAll, hf, eqvAll_map hf xs ys]
    by_cases h1 : x = y <;> by_cases h2 : xs = ys <;> simp [h1, h2]
theorem eqv_row (a b : List Val) : PyData.eqv (encR a) (encR b) = decide (a = b) := by
  show PyData.eqv (.tuple _) (.tuple _) = _
  rw [PyData.eqv, eqvAll_map eqv_val]
section
variable {K : KX} {M : MH} {Q : Sl → MH → Prop}
theorem shaped_str {z : Str} (h : PyData.strOk z = true) : SeqAt.shaped (.str z) = true := okD_shaped (n := 0) (okD_str h) (by decide)
theorem w2_eqS {K : PySem.W.Frag} {x y : Str} (h1 : PyData.strOk x = true) (h2 : PyData.strOk y = true) (q : Q (.bl (decide (x = y))) M) : W2 K (rEqD K) (.dat (.str x)) (.dat (.str y)) M Q := w2_eq (shaped_str h1) (shaped_str h2) (by rw [eqv_str]; exact q)
theorem w2_neS {K : PySem.W.Frag} {x y : Str} (h1 : PyData.strOk x = true) (h2 : PyData.strOk y = true) (q : Q (.bl (!decide (x = y))) M) : W2 K (rNeD K) (.dat (.str x)) (.dat (.str y)) M Q := w2_ne (shaped_str h1) (shaped_str h2) (by rw [eqv_str]; exact q)
theorem w2_eqI {K : PySem.W.Frag} {i j : Int} (q : Q (.bl (decide (i = j))) M) : W2 K (rEqD K) (.dat (.int i)) (.dat (.int j)) M Q := w2_eq (shaped_int i) (shaped_int j) (by rw [eqv_int]; exact q)
theorem w2_neI {K : PySem.W.Frag} {i j : Int} (q : Q (.bl (!decide (i = j))) M) : W2 K (rNeD K) (.dat (.int i)) (.dat (.int j)) M Q := w2_ne (shaped_int i) (shaped_int j) (by rw [eqv_int]; exact q)
theorem ite_d {p : Prop} [Decidable p] {A B : Prop} (h1 : p → A) (h2 : ¬p → B) : if decide p = true then A else B := ite_b (fun h => h1 (of_decide_eq_true h)) (fun h => h2 (of_decide_eq_false h))
theorem ite_n {p : Prop} [Decidable p] {A B : Prop} (h1 : ¬p → A) (h2 : p → B) : if (!decide p) = true then A else B := by
  by_cases h : p
  · rw [decide_eq_true h]; exact h2 h
  · rw [decide_eq_false h]; exact h1 h
end
def isVal : PyData → Bool
  | .int n => decide (n.natAbs < 10 ^ 30)
  | .str z => goodS z
  | _ => false
theorem isVal_of : ∀ {d : PyData}, isVal d = true → ∃ v : Val, d = v.enc ∧ v.ok
  | .int n, h => ⟨.int n, rfl, show n.natAbs < 10 ^ 30 from of_decide_eq_true h⟩
  | .str z, h => ⟨.str z, rfl, h⟩
def isName : PyData → Bool
  | .str z => goodS z
  | _ => false
theorem isName_of : ∀ {d : PyData}, isName d = true → ∃ z : Str, d = .str z ∧ goodS z = true
  | .str z, h => ⟨z, rfl, h⟩
theorem list_enc {α : Type} {f : α → PyData} {R : α → Prop} : ∀ {ds : List PyData}, (∀ d ∈ ds, ∃ x, d = f x ∧ R x) → ∃ xs : List α, ds = xs.map f ∧ ∀ x ∈ xs, R x
  | [], _ => ⟨[], rfl, fun _ h => nomatch h⟩
  | d :: ds, h => by
    obtain ⟨x, rfl, hx⟩ := h d List.mem_cons_self
    obtain ⟨xs, rfl, hxs⟩ := list_enc (f := f) (R := R) fun e he => h e (List.mem_cons_of_mem _ he)
    refine ⟨x :: xs, rfl, fun y hy => ?_⟩
    rcases List.mem_cons.mp hy with e | hy
    · rw [e]; exact hx
    · exact hxs y hy
end Ab
set_option Elab.async false
set_option linter.all false
set_option maxRecDepth 1000000
set_option  maxHeartbeats 4000000
namespace Ab
open PySem L2
def vLt : Val → Val → Bool
  | .int a, .int b => decide (a < b)
  | .int _, .str _ => true
  | .str _, .int _ => false
  | .str x, .str y => decide (x.cps.toList < y.cps.toList)
end Ab
set_option Elab.async false
set_option linter.all false
set_option maxRecDepth 1000000
set_option  maxHeartbeats 4000000
namespace Ab
open PySem L2
def tagV : Val → Int
  | .int _ => 0
  | .str _ => 1
def vkey (v : Val) : PyData := .tuple [.int (tagV v), v.enc]
structure IKey where
  s : Int
  n : Str
  row : List Val
def IKey.enc (k : IKey) : PyData := .tuple [.int k.s, .str k.n, encR k.row]
def IKey.ok (k : IKey) : Prop := goodS k.n = true ∧ okR k.row
theorem eqv_vkey (v w : Val) : PyData.eqv (vkey v) (vkey w) = decide (v = w) := by
  unfold vkey
  simp only [PyData.eqv, PyData.eqvAll, eqv_val, Bool.and_true]
  by_cases h : v = w
  · subst h; simp
  · simp [h]
theorem ok_vkey : ∀ v w : Val, cmpOk (vkey v) (vkey w) = true
  | .int _, .int _ => by simp [vkey, cmpOk, cmpOks, tagV, eqv_int, Val.enc]
  | .int _, .str _ => by simp [vkey, cmpOk, cmpOks, tagV, eqv_int, Val.enc]
  | .str _, .int _ => by simp [vkey, cmpOk, cmpOks, tagV, eqv_int, Val.enc]
  | .str _, .str _ => by simp [vkey, cmpOk, cmpOks, tagV, eqv_int, Val.enc]
theorem lt_vkey : ∀ v w : Val, cmpV .Lt (vkey v) (vkey w) = vLt v w
  | .int a, .int b => by
    simp only [vkey, cmpV, cmpVs, tagV, eqv_int, Val.enc, cmpI, cmpN, vLt, List.length_cons, List.length_nil]
    by_cases h : a = b <;> simp [h]
  | .int _, .str _ => by simp [vkey, cmpV, cmpVs, tagV, eqv_int, Val.enc, cmpI, vLt]
  | .str _, .int _ => by simp [vkey, cmpV, cmpVs, tagV, eqv_int, Val.enc, cmpI, vLt]
  | .str x, .str y => by
    simp only [vkey, cmpV, cmpVs, tagV, eqv_int, eqv_str, Val.enc, cmpI, cmpS, cmpN, vLt, List.length_cons, List.length_nil]
    by_cases h : x = y
    · subst h; simp
    · simp [h]
theorem gt_vkey : ∀ v w : Val, cmpV .Gt (vkey v) (vkey w) = vLt w v
  | .int a, .int b => by
    simp only [vkey, cmpV, cmpVs, tagV, eqv_int, Val.enc, cmpI, cmpN, vLt, List.length_cons, List.length_nil]
    by_cases h : a = b <;> simp [h]
  | .int _, .str _ => by simp [vkey, cmpV, cmpVs, tagV, eqv_int, Val.enc, cmpI, vLt]
  | .str _, .int _ => by simp [vkey, cmpV, cmpVs, tagV, eqv_int, Val.enc, cmpI, vLt]
  | .str x, .str y => by
    simp only [vkey, cmpV, cmpVs, tagV, eqv_int, eqv_str, Val.enc, cmpI, cmpS, cmpN, vLt, List.length_cons, List.length_nil]
    by_cases h : x = y
    · subst h; simp
    · simp [h]
end Ab
set_option Elab.async false
set_option linter.all false
set_option maxRecDepth 1000000
set_option  maxHeartbeats 4000000
namespace Ab
open PySem PyProof.Rows L2
structure Rul where
  rel : Str
  hd : List Term
  b : List Lit
  deriving DecidableEq
def Rul.enc (r : Rul) : PyData := .tuple [.str r.rel, encT r.hd, encB r.b]
/-- the content of a state: relations, facts, rules, denials, as the dicts hold them -/
structure Ct where
  rel : List (Str × Int)
  fac : List (Str × List (List Val))
  rul : List (Str × Rul)
  den : List (Str × List Lit)
def rowsOf (c : Ct) (n : Str) : List (List Val) := (valG c.fac n).getD []
def Ct.sRel (c : Ct) (x : List (Str × Int)) : Ct := { c with rel := x }
def Ct.sFac (c : Ct) (x : List (Str × List (List Val))) : Ct := { c with fac := x }
def Ct.sRul (c : Ct) (x : List (Str × Rul)) : Ct := { c with rul := x }
def Ct.sDen (c : Ct) (x : List (Str × List Lit)) : Ct := { c with den := x }
def Ct.put (c : Ct) : Item → Ct
  | .relation n w => c.sRel (putG c.rel n w)
  | .rule n rel hd b => c.sRul (putG c.rul n ⟨rel, hd, b⟩)
  | .denial n b => c.sDen (putG c.den n b)
  | .fact n row => if row ∈ rowsOf c n then c else c.sFac (putG c.fac n (rowsOf c n ++ [row]))
def ct0 : Ct := ⟨[], [], [], []⟩
/-- dicts with keys that are texts -/
theorem valG_inr {β γ : Type} (f : β → γ) (z : Str) : ∀ kvs : List (Str × β), valG (kvs.map fun p => ((.inr p.1 : Key), f p.2)) (.inr z) = (valG kvs z).map f
  | [] => rfl
  | (a, x) :: r => by
    rw [List.map_cons, valG_cons, valG_cons, valG_inr f z r]
    by_cases e : a = z
    · subst e; simp
    · rw [if_neg e, if_neg fun h => e (Sum.inr.inj h)]
theorem any_inr {β γ : Type} (f : β → γ) (z : Str) : ∀ kvs : List (Str × β), ((kvs.map fun p => ((.inr p.1 : Key), f p.2)).any fun kv => decide (kv.1 = .inr z)) = kvs.any fun kv => decide (kv.1 = z)
  | [] => rfl
  | (a, x) :: r => by
    rw [List.map_cons, List.any_cons, List.any_cons, any_inr f z r]
    by_cases e : a = z
    · subst e; simp
    · rw [decide_eq_false e, decide_eq_false fun h => e (Sum.inr.inj h)]
theorem putG_inr {β γ : Type} (f : β → γ) (z : Str) (x : β) (kvs : List (Str × β)) : putG (kvs.map fun p => ((.inr p.1 : Key), f p.2)) (.inr z) (f x) = (putG kvs z x).map fun p => ((.inr p.1 : Key), f p.2) := by
  unfold putG
  rw [any_inr]
  cases h : kvs.any fun kv => decide (kv.1 = z) with
  | true =>
    rw [if_pos rfl, if_pos rfl, List.map_map, List.map_map]
    refine List.map_congr_left fun p _ => ?_
    show (if (Sum.inr p.1 : Key) = .inr z then ((.inr p.1 : Key), f x) else ((.inr p.1 : Key), f p.2)) = ((.inr ((if p.1 = z then (p.1, x) else p) : Str × β).1 : Key), f ((if p.1 = z then (p.1, x) else p) : Str × β).2)
    by_cases e : p.1 = z
    · rw [if_pos e, if_pos (by rw [e])]
    · rw [if_neg e, if_neg fun h => e (Sum.inr.inj h)]
  | false => rw [if_neg Bool.false_ne_true, if_neg Bool.false_ne_true, List.map_append]; rfl
theorem putG_keys {κ β : Type} [DecidableEq κ] (kvs : List (κ × β)) (k : κ) (v : β) : (putG kvs k v).map (·.1) = if k ∈ kvs.map (·.1) then kvs.map (·.1) else kvs.map (·.1) ++ [k] := by
  unfold putG
  cases h : kvs.any fun kv => decide (kv.1 = k) with
  | true =>
    obtain ⟨p, hp, e⟩ := List.any_eq_true.mp h
    rw [if_pos rfl, if_pos (List.mem_map.mpr ⟨p, hp, of_decide_eq_true e⟩), List.map_map]
    refine List.map_congr_left fun q _ => ?_
    show (if q.1 = k then (q.1, v) else q).1 = q.1
    split <;> rfl
  | false =>
    rw [if_neg Bool.false_ne_true, if_neg, List.map_append]
    · rfl
    · rintro hk
      obtain ⟨p, hp, e⟩ := List.mem_map.mp hk
      have : (kvs.any fun kv => decide (kv.1 = k)) = true := List.any_eq_true.mpr ⟨p, hp, decide_eq_true e⟩
      rw [h] at this
      cases this
theorem putG_len {κ β : Type} [DecidableEq κ] (l : List (κ × β)) (k : κ) (v : β) : (putG l k v).length ≤ l.length + 1 := by
  unfold putG
  split
  · rw [List.length_map]; omega
  · rw [List.length_append]; exact Nat.le_refl _
theorem valG_isSome {κ β : Type} [DecidableEq κ] (k : κ) : ∀ kvs : List (κ × β), (valG kvs k).isSome = decide (k ∈ kvs.map (·.1))
  | [] => by simp [valG]
  | (a, x) :: r => by
    rw [valG_cons, List.map_cons]
    by_cases e : a = k
    · subst e; simp
    · rw [if_neg e, valG_isSome k r]
      have : ¬ k = a := fun h => e h.symm
      simp [this]
theorem putG_nodup {κ β : Type} [DecidableEq κ] {kvs : List (κ × β)} (h : (kvs.map (·.1)).Nodup) (k : κ) (v : β) : ((putG kvs k v).map (·.1)).Nodup := by
  rw [putG_keys]
  split
  · exact h
  · rename_i hk
    exact List.nodup_append.mpr ⟨h, List.pairwise_singleton .., fun a ha b hb e => hk (by rw [← List.mem_singleton.mp hb, ← e]; exact ha)⟩
end Ab
namespace Ab
open PySem PyProof.Rows L2
theorem valG_mem {κ β : Type} [DecidableEq κ] {k : κ} {x : β} : ∀ {kvs : List (κ × β)}, valG kvs k = some x → (k, x) ∈ kvs
  | [], h => nomatch h
  | (a, y) :: r, h => by
    rw [valG_cons] at h
    by_cases e : a = k
    · rw [if_pos e] at h
      cases h
      subst e
      exact List.mem_cons_self ..
    · rw [if_neg e] at h
      exact List.mem_cons_of_mem _ (valG_mem h)
/-- what may stand in a state -/
structure CtOk (c : Ct) : Prop where
  rel : ∀ p ∈ c.rel, goodS p.1 = true ∧ 0 ≤ p.2 ∧ p.2 ≤ 1000
  fac : ∀ p ∈ c.fac, goodS p.1 = true ∧ (∀ r ∈ p.2, okR r ∧ r ≠ []) ∧ p.2.length ≤ 1000
  rul : ∀ p ∈ c.rul, (Item.rule p.1 p.2.rel p.2.hd p.2.b).ok
  den : ∀ p ∈ c.den, (Item.denial p.1 p.2).ok
  sz : c.rel.length ≤ 1000 ∧ c.fac.length ≤ 1000 ∧ c.rul.length ≤ 1000 ∧ c.den.length ≤ 1000
theorem CtOk.row {c : Ct} (h : CtOk c) {n : Str} : (∀ r ∈ rowsOf c n, okR r ∧ r ≠ []) ∧ (rowsOf c n).length ≤ 1000 := by
  unfold rowsOf
  cases hv : valG c.fac n with
  | none => exact ⟨fun _ h => (nomatch h), Nat.zero_le _⟩
  | some x => exact (h.fac _ (valG_mem hv)).2
theorem sortT_len (ks : List Str) : (sortT ks).length = ks.length := (List.mergeSort_perm _ _).length_eq
theorem sortT_mem {ks : List Str} {k : Str} : k ∈ sortT ks ↔ k ∈ ks := (List.mergeSort_perm _ _).mem_iff
theorem valG_of {β : Type} {n : Str} {kvs : List (Str × β)} (h : n ∈ kvs.map (·.1)) : ∃ x, valG kvs n = some x := by
  have z := valG_isSome n kvs
  rw [decide_eq_true h] at z
  cases hv : valG kvs n with
  | none => rw [hv] at z; cases z
  | some x => exact ⟨x, rfl⟩
end Ab
set_option Elab.async false
set_option linter.all false
set_option maxRecDepth 1000000
set_option  maxHeartbeats 4000000
namespace Ab
open PySem PyProof.Rows L2
section
variable {K : KX} {ρ : Rho} {M : MH} {Q : Sl → MH → Prop} {tl te : TE} {tt : TT}
theorem WT.imp {Q Q' : Bool → MH → Prop} (h : WT K tt ρ M Q) (i : ∀ b M', Q b M' → Q' b M') : WT K tt ρ M Q' := fun σ B H hR hS Q0 k => h σ B H hR hS Q0 fun b M' B' H' q => k b M' B' H' (i b M' q)
/-- [g(x) for x in xs if f(x)], nothing else is touched -/
theorem w_lcF {α : Type} {enc : α → PyData} {xs : List α} {j : Nat} {vs : List Nat} {M1 : MH} (hj : j ∈ vs) (hl : W K tl ρ M fun s M2 => s = .dat (.list (xs.map enc)) ∧ M2 = M1) (hz : xs.length ≤ 1000000) (f : α → Bool) (g : α → PyData)
    (ht : ∀ x D o, x ∈ xs → M1 D = none → WT K tt ((wipeR ρ vs).set j (some (.dat (enc x)))) (um M1 D o) fun b M' => b = f x ∧ M' = um M1 D o)
    (he : ∀ x D o, x ∈ xs → f x = true → M1 D = none → W K te ((wipeR ρ vs).set j (some (.dat (enc x)))) (um M1 D o) fun s M' => s = .dat (g x) ∧ M' = um M1 D o) (q : Q (.dat (.list ((xs.filter f).map g))) M1) : W K (tLc (iList K.K tl) (gName j) tt te vs) ρ M Q :=
  w_lc hj (wi_list (hl.imp fun s M2 ⟨e1, e2⟩ => by
    subst e1 e2
    refine ⟨_, lsv_dat, fun i acc M' => M' = M2 ∧ acc = ((xs.take i).filter f).map g, ⟨rfl, by simp⟩, fun _ _ _ _ _ _ _ _ => lsv_dat, fun i acc M' D hi ⟨eM, ea⟩ hD => ?_, fun acc M' ⟨eM, ea⟩ => ?_⟩
    · subst eM ea
      have hi' : i < xs.length := by simpa using hi
      show WT K tt ((wipeR ρ vs).set j (some (((xs.map enc).map Sl.dat).getD i .non))) _ _
      rw [getD_map hi']
      refine WT.imp (ht xs[i] D _ (List.getElem_mem hi') hD) fun b M3 ⟨e1, e2⟩ => ?_
      subst e1 e2
      have hn : xs.take (i + 1) = xs.take i ++ [xs[i]] := List.take_succ_eq_append_getElem hi'
      cases hf : f xs[i] with
      | true =>
        rw [if_pos rfl]
        show W K te ((wipeR ρ vs).set j (some (((xs.map enc).map Sl.dat).getD i .non))) _ _
        rw [getD_map hi']
        refine (he xs[i] D _ (List.getElem_mem hi') hf hD).imp fun s M4 ⟨e1, e2⟩ => ⟨g xs[i], _, e1, e2, hD, ?_, rfl, ?_⟩
        · have := List.length_filter_le f (xs.take i)
          rw [List.length_map]
          rw [List.length_take] at this
          omega
        · rw [hn, List.filter_append, List.map_append, List.filter_cons, if_pos hf]
          rfl
      | false =>
        rw [if_neg Bool.false_ne_true]
        refine ⟨_, rfl, hD, rfl, ?_⟩
        rw [hn, List.filter_append, List.map_append, List.filter_cons, if_neg (by rw [hf]; exact Bool.false_ne_true)]
        simp
    · subst eM ea
      rw [List.length_map, List.length_map, List.take_length]
      exact q))
end
end Ab
namespace Ab
open PySem PyProof.Rows L2
end Ab
namespace Ab
open PySem PyProof.Rows L2
end Ab
set_option Elab.async false
set_option linter.all false
set_option maxRecDepth 1000000
set_option  maxHeartbeats 4000000
namespace Ab
open PySem PyProof.Rows L2
end Ab
set_option Elab.async false
set_option linter.all false
set_option maxRecDepth 1000000
set_option  maxHeartbeats 4000000
namespace Ab
open PySem PyProof.Rows L2
theorem putG_mem {κ β : Type} [DecidableEq κ] {l : List (κ × β)} {k : κ} {v : β} {p : κ × β} (h : p ∈ putG l k v) : p = (k, v) ∨ p ∈ l := by
  unfold putG at h
  split at h
  · obtain ⟨q, hq, e⟩ := List.mem_map.mp h
    split at e
    · rename_i e2
      rw [← e, e2]
      exact .inl rfl
    · rw [← e]
      exact .inr hq
  · rcases List.mem_append.mp h with h | h
    · exact .inr h
    · exact .inl (List.mem_singleton.mp h)
theorem valG_nodup {κ β : Type} [DecidableEq κ] {k : κ} {x : β} : ∀ {l : List (κ × β)}, (l.map (·.1)).Nodup → (k, x) ∈ l → valG l k = some x
  | [], _, h => nomatch h
  | (a, y) :: r, hn, h => by
    rw [List.map_cons, List.nodup_cons] at hn
    rw [valG_cons]
    rcases List.mem_cons.mp h with e | h
    · injection e with e1 e2
      rw [if_pos e1.symm, e2]
    · rw [if_neg fun e => hn.1 (by show a ∈ _; rw [e]; exact List.mem_map.mpr ⟨_, h, rfl⟩), valG_nodup hn.2 h]
/-- what stands in a state made of at most n items -/
structure CtN (c : Ct) (n : Nat) : Prop where
  nr : (c.rel.map (·.1)).Nodup
  nf : (c.fac.map (·.1)).Nodup
  nu : (c.rul.map (·.1)).Nodup
  nd : (c.den.map (·.1)).Nodup
  rel : ∀ p ∈ c.rel, goodS p.1 = true ∧ 0 ≤ p.2 ∧ p.2 ≤ 1000
  fac : ∀ p ∈ c.fac, goodS p.1 = true ∧ (∀ r ∈ p.2, okR r ∧ r ≠ []) ∧ p.2.length ≤ n ∧ p.2.Nodup
  rul : ∀ p ∈ c.rul, (Item.rule p.1 p.2.rel p.2.hd p.2.b).ok
  den : ∀ p ∈ c.den, (Item.denial p.1 p.2).ok
  sz : c.rel.length + c.fac.length + c.rul.length + c.den.length ≤ n
theorem CtN.rows {c : Ct} {n : Nat} (h : CtN c n) (z : Str) : (∀ r ∈ rowsOf c z, okR r ∧ r ≠ []) ∧ (rowsOf c z).length ≤ n ∧ (rowsOf c z).Nodup := by
  unfold rowsOf
  cases hv : valG c.fac z with
  | none => exact ⟨fun _ h => (nomatch h), Nat.zero_le _, List.nodup_nil⟩
  | some x => exact (h.fac _ (valG_mem hv)).2
theorem CtN.up {c : Ct} {n : Nat} (h : CtN c n) : CtN c (n + 1) := ⟨h.nr, h.nf, h.nu, h.nd, h.rel, fun p hp => by obtain ⟨h1, h2, h3, h4⟩ := h.fac p hp; exact ⟨h1, h2, Nat.le_succ_of_le h3, h4⟩, h.rul, h.den, Nat.le_succ_of_le h.sz⟩
theorem CtN.put {c : Ct} {n : Nat} {it : Item} (h : CtN c n) (hi : it.ok) : CtN (c.put it) (n + 1) := by
  have sz := h.sz
  have hu := h.up
  cases it with
  | relation m w =>
    have l1 := putG_len c.rel m w
    exact ⟨putG_nodup h.nr _ _, hu.nf, hu.nu, hu.nd, fun p hp => (putG_mem hp).elim (fun e => by rw [e]; exact hi) (h.rel p), hu.fac, hu.rul, hu.den, by show (putG c.rel m w).length + c.fac.length + c.rul.length + c.den.length ≤ _; omega⟩
  | rule m rel hd b =>
    have l1 := putG_len c.rul m ⟨rel, hd, b⟩
    exact ⟨hu.nr, hu.nf, putG_nodup h.nu _ _, hu.nd, hu.rel, hu.fac, fun p hp => (putG_mem hp).elim (fun e => by rw [e]; exact hi) (h.rul p), hu.den, by show c.rel.length + c.fac.length + (putG c.rul m ⟨rel, hd, b⟩).length + c.den.length ≤ _; omega⟩
  | denial m b =>
    have l1 := putG_len c.den m b
    exact ⟨hu.nr, hu.nf, hu.nu, putG_nodup h.nd _ _, hu.rel, hu.fac, hu.rul, fun p hp => (putG_mem hp).elim (fun e => by rw [e]; exact hi) (h.den p), by show c.rel.length + c.fac.length + c.rul.length + (putG c.den m b).length ≤ _; omega⟩
  | fact m row =>
    show CtN (if row ∈ rowsOf c m then c else c.sFac (putG c.fac m (rowsOf c m ++ [row]))) (n + 1)
    split
    · exact hu
    · rename_i hn
      have l1 := putG_len c.fac m (rowsOf c m ++ [row])
      obtain ⟨r1, r2, r3⟩ := h.rows m
      refine ⟨hu.nr, putG_nodup h.nf _ _, hu.nu, hu.nd, hu.rel, fun p hp => (putG_mem hp).elim (fun e => ?_) (hu.fac p), hu.rul, hu.den, by show c.rel.length + (putG c.fac m (rowsOf c m ++ [row])).length + c.rul.length + c.den.length ≤ _; omega⟩
      rw [e]
      refine ⟨hi.1, fun r hr => (List.mem_append.mp hr).elim (r1 r) fun z => by rw [List.mem_singleton.mp z]; exact hi.2, by rw [List.length_append]; exact Nat.succ_le_succ r2, List.nodup_append.mpr ⟨r3, List.pairwise_singleton .., fun a ha b hb e => hn (by rw [← List.mem_singleton.mp hb, ← e]; exact ha)⟩⟩
theorem CtN.ok {c : Ct} {n : Nat} (h : CtN c n) (hn : n ≤ 1000) : CtOk c := by
  have sz := h.sz
  exact ⟨h.rel, fun p hp => by obtain ⟨h1, h2, h3, _⟩ := h.fac p hp; exact ⟨h1, h2, Nat.le_trans h3 hn⟩, h.rul, h.den, by omega, by omega, by omega, by omega⟩
end Ab
set_option Elab.async false
set_option linter.all false
set_option maxRecDepth 1000000
set_option  maxHeartbeats 4000000
namespace Ab
open PySem PyProof.Rows L2
mutual
def tpd : PyData → Bool
  | .int _ => true
  | .str _ => true
  | .tuple xs => tpds xs
  | _ => false
def tpds : List PyData → Bool
  | [] => true
  | x :: xs => tpd x && tpds xs
end
theorem tpds_mem : ∀ {xs : List PyData} {x : PyData}, tpds xs = true → x ∈ xs → tpd x = true
  | [], _, _, h => nomatch h
  | y :: ys, x, h, hx => by
    rw [tpds, Bool.and_eq_true] at h
    rcases List.mem_cons.mp hx with e | hx
    · rw [e]; exact h.1
    · exact tpds_mem h.2 hx
theorem tpd_mem {xs : List PyData} {x : PyData} (h : tpd (.tuple xs) = true) (hx : x ∈ xs) : tpd x = true := tpds_mem (by rw [tpd] at h; exact h) hx
theorem tpds_of {xs : List PyData} (h : ∀ x ∈ xs, tpd x = true) : tpds xs = true := by
  induction xs with
  | nil => rfl
  | cons x xs ih => rw [tpds, h x (List.mem_cons_self ..), ih fun y hy => h y (List.mem_cons_of_mem _ hy)]; rfl
theorem tpd_of {xs : List PyData} (h : ∀ x ∈ xs, tpd x = true) : tpd (.tuple xs) = true := by rw [tpd]; exact tpds_of h
theorem eqvs_len : ∀ {xs ys : List PyData}, xs.length ≠ ys.length → PyData.eqvAll xs ys = false
  | [], [], h => absurd rfl h
  | [], _ :: _, _ => rfl
  | _ :: _, [], _ => rfl
  | x :: xs, y :: ys, h => by rw [PyData.eqvAll, eqvs_len fun e => h (by rw [List.length_cons, List.length_cons, e]), Bool.and_false]
theorem eqvs_at : ∀ {xs ys : List PyData} {i : Nat}, xs.length = ys.length → i < xs.length → PyData.eqv (xs.getD i .none) (ys.getD i .none) = false → PyData.eqvAll xs ys = false
  | [], [], _, _, h, _ => absurd h (Nat.not_lt_zero _)
  | [], _ :: _, _, _, _, _ => rfl
  | _ :: _, [], _, _, _, _ => rfl
  | x :: xs, y :: ys, 0, _, _, h => by rw [PyData.eqvAll]; rw [show PyData.eqv x y = false from h]; rfl
  | x :: xs, y :: ys, i + 1, hl, hi, h => by rw [PyData.eqvAll, eqvs_at (i := i) (by simpa using hl) (by simpa using hi) h, Bool.and_false]
theorem eqvs_all : ∀ {xs ys : List PyData}, xs.length = ys.length → (∀ i, i < xs.length → PyData.eqv (xs.getD i .none) (ys.getD i .none) = true) → PyData.eqvAll xs ys = true
  | [], [], _, _ => rfl
  | [], _ :: _, h, _ => nomatch h
  | _ :: _, [], h, _ => nomatch h
  | x :: xs, y :: ys, hl, h => by
    rw [PyData.eqvAll, eqvs_all (by simpa using hl) fun i hi => h (i + 1) (by simpa using hi)]
    rw [show PyData.eqv x y = true from h 0 (Nat.succ_pos _)]
    rfl
theorem eqvAll_len {xs ys : List PyData} (h : xs.length ≠ ys.length) : PyData.eqv (.tuple xs) (.tuple ys) = false := by rw [PyData.eqv]; exact eqvs_len h
theorem eqvAll_at {xs ys : List PyData} {i : Nat} (h : xs.length = ys.length) (hi : i < xs.length) (e : PyData.eqv (xs.getD i .none) (ys.getD i .none) = false) : PyData.eqv (.tuple xs) (.tuple ys) = false := by rw [PyData.eqv]; exact eqvs_at h hi e
theorem eqvAll_all {xs ys : List PyData} (h : xs.length = ys.length) (e : ∀ i, i < xs.length → PyData.eqv (xs.getD i .none) (ys.getD i .none) = true) : PyData.eqv (.tuple xs) (.tuple ys) = true := by rw [PyData.eqv]; exact eqvs_all h e
def A_sameE (n : Nat) : ASp := fun ss M Q => ∃ x y : PyData, ss = [.dat x, .dat y] ∧ okD n x = true ∧ okD n y = true ∧ tpd x = true ∧ tpd y = true ∧ Q (.bl (PyData.eqv x y)) M
def A_sameEN : Nat → ASp
  | 0 => fun _ _ _ => False
  | n + 1 => A_sameE n
theorem tpd_val : ∀ v : Val, tpd v.enc = true
  | .int _ => rfl
  | .str _ => rfl
theorem tpd_row (r : List Val) : tpd (encR r) = true := tpd_of fun x hx => by
  obtain ⟨v, _, rfl⟩ := List.mem_map.mp hx
  exact tpd_val v
end Ab
set_option Elab.async false
set_option linter.all false
set_option maxRecDepth 1000000
set_option  maxHeartbeats 4000000
namespace Ab
open PySem L2
abbrev Prs (α : Type) := List Int → Option (α × List Int)
def Prs.ret {α : Type} (x : α) : Prs α := fun D => some (x, D)
def Prs.thn {α β : Type} (p : Prs α) (f : α → Prs β) : Prs β := fun D => match p D with
  | none => none
  | some (x, r) => f x r
def pLen : Prs Int := fun D => some ((D.length : Int), D)
/-- a change, with any key -/
inductive Chk where
  | comes (it : Item)
  | goes (k : IKey)
def Chk.enc : Chk → PyData
  | .comes it => .tuple [.str "comes", it.enc]
  | .goes k => .tuple [.str "goes", k.enc]
/-- bytes -/
def Byt (D : List Int) : Prop := ∀ b ∈ D, 0 ≤ b ∧ b < 256
def Rt {α : Type} (p : Prs α) (D : List Int) (x : α) : Prop := ∀ r, p (D ++ r) = some (x, r)
theorem Rt.ret {α : Type} {x : α} : Rt (Prs.ret x) [] x := fun _ => rfl
theorem Rt.thn {α β : Type} {p : Prs α} {f : α → Prs β} {D E : List Int} {x : α} {y : β} (h : Rt p D x) (h' : Rt (f x) E y) : Rt (Prs.thn p f) (D ++ E) y := fun r => by
  unfold Prs.thn
  rw [List.append_assoc, h (E ++ r)]
  exact h' r
theorem Rt.thn0 {α β : Type} {p : Prs α} {f : α → Prs β} {D : List Int} {x : α} {y : β} (h : Rt p D x) (h' : Rt (f x) [] y) : Rt (Prs.thn p f) D y := by
  have := h.thn h'
  rwa [List.append_nil] at this
theorem Rt.map {α β : Type} {p : Prs α} {g : α → β} {D : List Int} {x : α} (h : Rt p D x) : Rt (Prs.thn p fun x => Prs.ret (g x)) D (g x) := h.thn0 Rt.ret
def Chk.ok : Chk → Prop
  | .comes it => it.ok
  | .goes k => k.ok ∧ 0 ≤ k.s ∧ k.s < 4
end Ab
set_option Elab.async false
set_option linter.all false
set_option maxRecDepth 100000
set_option  maxHeartbeats 4000000
namespace Ab
open PySem PySem.Spec PyProof.Rows L2
end Ab
set_option Elab.async false
set_option linter.all false
set_option maxRecDepth 1000000
set_option  maxHeartbeats 4000000
namespace Ab
open PySem PySem.Spec PyProof.Rows L2
abbrev bys (D : List Int) : List Sl := (D.map PyData.int).map Sl.dat
abbrev rdF (l : Addr) (n : Int) : List (Str × Sl) := [("data", .raw (.ref l)), ("at", .dat (.int n))]
def rdO (C dx l : Addr) (n : Int) : MO := .ins C dx (rdF l n)
/-- a reader: its class, the error, itself, its dict, its list, all of the bytes, what else stands -/
structure Rx where
  C : Addr
  Ex : Addr
  o : Addr
  dx : Addr
  l : Addr
  all : List Int
  M0 : MH
def Rx.m (c : Rx) (D : List Int) : MH := um c.M0 c.o (rdO c.C c.dx c.l ((c.all.length : Int) - D.length))
structure Rx.Ok (c : Rx) : Prop where
  hl : c.M0 c.l = some (.lst (bys c.all))
  ne : c.l ≠ c.o
  by' : Byt c.all
  sz : c.all.length ≤ 1000000
/-- what else stood before, stands -/
abbrev Rx.Keep (c : Rx) (M' : MH) : Prop := ∀ b u, b ≠ c.o → c.M0 b = some u → M' b = some u
def Rx.Fut {α : Type} (c : Rx) (p : Prs α) (D : List Int) (Q : α → MH → Prop) (X : Value → Option Addr → MH → Prop) : Prop := match p D with
  | none => ∀ M', c.Keep M' → X (.ref c.Ex) none M'
  | some (x, r) => r <:+ c.all → Q x (c.m r)
theorem Rx.at (c : Rx) (D : List Int) : c.m D c.o = some (.ins c.C c.dx (rdF c.l ((c.all.length : Int) - D.length))) := um_same
theorem Rx.data {c : Rx} (h : c.Ok) (D : List Int) : c.m D c.l = some (.lst (bys c.all)) := by
  unfold Rx.m
  rw [um_ne h.ne]
  exact h.hl
theorem Rx.keep (c : Rx) (D : List Int) : c.Keep (c.m D) := fun b u hb h => by
  unfold Rx.m
  rw [um_ne hb]
  exact h
theorem Rx.Fut.thn {α β : Type} {c : Rx} {p : Prs α} {f : α → Prs β} {D : List Int} {Q : β → MH → Prop} {X : Value → Option Addr → MH → Prop} (F : c.Fut (Prs.thn p f) D Q X) :
    (p D = none → ∀ M', c.Keep M' → X (.ref c.Ex) none M') ∧ ∀ x r, p D = some (x, r) → c.Fut (f x) r Q X := by
  unfold Rx.Fut Prs.thn at F
  refine ⟨fun h => ?_, fun x r h => ?_⟩
  · rw [h] at F
    exact F
  · rw [h] at F
    exact F
theorem Rx.Fut.ret {α : Type} {c : Rx} {x : α} {D : List Int} {Q : α → MH → Prop} {X : Value → Option Addr → MH → Prop} (F : c.Fut (Prs.ret x) D Q X) (h : D <:+ c.all) : Q x (c.m D) := F h
theorem Rx.Fut.of {α : Type} {c : Rx} {p : Prs α} {D : List Int} {Q : α → MH → Prop} {X : Value → Option Addr → MH → Prop} (h1 : p D = none → ∀ M', c.Keep M' → X (.ref c.Ex) none M') (h2 : ∀ x r, p D = some (x, r) → r <:+ c.all → Q x (c.m r)) : c.Fut p D Q X := by
  unfold Rx.Fut
  cases h : p D with
  | none => exact h1 h
  | some z => exact h2 z.1 z.2 h
theorem Rx.Fut.len {β : Type} {c : Rx} {f : Int → Prs β} {D : List Int} {Q : β → MH → Prop} {X : Value → Option Addr → MH → Prop} (F : c.Fut (Prs.thn pLen f) D Q X) : c.Fut (f (D.length : Int)) D Q X := F
end Ab
set_option Elab.async false
set_option linter.all false
set_option maxRecDepth 1000000
set_option  maxHeartbeats 4000000
namespace L2
open PySem PySem.Spec PyProof.Rows
end L2
namespace Ab
open PySem PySem.Spec PyProof.Rows L2
/-- a def of the module, as it stands there -/
def FnG (K : PySem.W.Frag) (nm : Str) (st : Stmt) : Prop := ∃ (f : Addr) (oc : Value) (od : Option Addr) (kV dc pm cd ct : Value) (an : Option Addr) (sl : Array (Option Value)),
  PySem.W.nsIn K mainGlobals nm = some (some (.ref f)) ∧ K.lookup f = some ⟨oc, od, .func (PySem.W.fnOf nm nm (defArgs st) (defBody st) (defScope st) .none kV dc pm an cd ct), sl⟩ ∧ PySem.W.codeIn K cd nm = true ∧ PySem.W.keepIn K (.ref f) = true
abbrev fnIn {K : PySem.W.Frag} {h : Heap} (_ : K.In h) (nm : Str) (st : Stmt) : Prop := FnG K nm st
theorem fnG_mk {K : PySem.W.Frag} {h : Heap} (X : K.In h) {nm : Str} {st : Stmt} {f : Addr} {oc : Value} {od : Option Addr} {kV dc pm cd ct : Value} {an : Option Addr} {sl : Array (Option Value)}
    (h1 : PySem.W.nsIn K mainGlobals nm = some (some (.ref f))) (h2 : K.lookup f = some ⟨oc, od, .func (PySem.W.fnOf nm nm (defArgs st) (defBody st) (defScope st) .none kV dc pm an cd ct), sl⟩) (h3 : PySem.W.codeIn K cd nm = true) (h4 : PySem.W.keepIn K (.ref f) = true) : fnIn X nm st :=
  ⟨f, oc, od, kV, dc, pm, cd, ct, an, sl, h1, h2, h3, h4⟩
end Ab
namespace Ab
open PySem PySem.Spec PyProof.Rows L2
section
variable {K : KX} {ρ : Rho} {M : MH} {Q : Sl → MH → Prop} {te tl : TE}
theorem w_dropA (a : Addr) (h : W K te ρ M fun s M1 => Q s (del M1 a)) : W K te ρ M Q := fun σ B H hR hS Q0 k =>
  h σ B H hR hS Q0 fun s v M1 B1 H1 q e S o => k s v (del M1 a) B1 H1 q e S.drop o
end
section
variable {K : PySem.W.Frag} {M : MH} {Q : Sl → MH → Prop} {xs : List Sl}
theorem del_umum {a b : Addr} {x y : MO} (h : M a = none) (hb : b ≠ a) : del (um (um M a x) b y) a = um M b y := by
  rw [um_comm hb.symm, del_um]
  rw [um_ne hb.symm]
  exact h
end
end Ab
set_option Elab.async false
set_option linter.all false
set_option maxRecDepth 1000000
set_option  maxHeartbeats 4000000
namespace L2
open PySem PySem.Spec PyProof.Rows
end L2
set_option Elab.async false
set_option linter.all false
set_option maxRecDepth 1000000
set_option  maxHeartbeats 4000000
namespace L2
open PySem PySem.Spec PyProof.Rows
end L2
set_option Elab.async false
set_option linter.all false
set_option maxRecDepth 1000000
set_option  maxHeartbeats 4000000
namespace L2
open PySem PySem.Spec PyProof.Rows Ab
end L2
namespace Ab
open PySem PyProof.Rows L2
end Ab
namespace Ab
open PySem PyProof.Rows L2
end Ab
set_option Elab.async false
set_option linter.all false
set_option maxRecDepth 1000000
set_option  maxHeartbeats 4000000
namespace Ab
open PySem PyProof.Rows L2
section
variable {β : Type}
/-- a dict whose keys are texts, as data and as what may be read -/
abbrev encD (f : β → PyData) (w : List (Str × β)) : PyData := .dict (w.map fun p => (.str p.1, f p.2))
abbrev slD (f : β → PyData) (w : List (Str × β)) : List (Key × Sl) := w.map fun p => (.inr p.1, .dat (f p.2))
theorem encD_eq (f : β → PyData) (w : List (Str × β)) : encD f w = dKD (w.map fun p => (.inr p.1, f p.2)) := by
  show PyData.dict _ = PyData.dict _
  rw [List.map_map]
  rfl
theorem slD_eq (f : β → PyData) (w : List (Str × β)) : slD f w = dKS (w.map fun p => (.inr p.1, f p.2)) := by
  show _ = List.map _ (List.map _ _)
  rw [List.map_map]
  rfl
theorem dcv_encD {F : PySem.W.Frag} {M : MH} {f : β → PyData} {w : List (Str × β)} : DcV F (.dat (encD f w)) M (slD f w) := by
  rw [encD_eq, slD_eq]
  exact dcv_dat
theorem slD_val (f : β → PyData) (w : List (Str × β)) (z : Str) : valG (slD f w) (.inr z) = (valG w z).map fun x => .dat (f x) := valG_inr (fun x => Sl.dat (f x)) z w
theorem slD_put (f : β → PyData) (w : List (Str × β)) (z : Str) (x : β) : putG (slD f w) (.inr z) (.dat (f x)) = slD f (putG w z x) := putG_inr (fun x => Sl.dat (f x)) z x w
end
abbrev rDictD : List V → Hp → VK → Prop := fun xs H Q => ∃ (a : Addr) (kvs : List (Key × V)), xs = [.ref a] ∧ Rd H a (.dK kvs) ∧ ∀ p, H p = none → Q (.ref p) (upd H p (.dK kvs))
section
variable {F : PySem.W.Frag} {K : KX} {ρ : Rho} {M : MH} {Q : Sl → MH → Prop} {te td ty tx : TE} {nx bk ct : Rho → MH → Prop} {rt : Sl → MH → Prop} {β : Type} {f : β → PyData} {w : List (Str × β)}
/-- dict(d) -/
theorem wl_dict {s : Sl} {kvs : List (Key × Sl)} (h : DcV F s M kvs) (q : ∀ p, M p = none → Q (.raw (.ref p)) (um M p (.dK kvs))) : WL F rDictD [s] M Q := fun B H vs hS o Q0 k => by
  cases o with
  | cons o1 o2 =>
    cases o2
    obtain ⟨a, us, rfl, hr, hk⟩ := h.get hS o1
    exact ⟨a, us, rfl, hr, fun p hp => k _ _ _ B _ (q p (hS.freeM hp)) (Same.refl B) (hS.new hp ⟨us, rfl, hk⟩) slok_ref⟩
theorem wl_dictE (q : ∀ p, M p = none → Q (.raw (.ref p)) (um M p (.dK (slD f w)))) : WL F rDictD [.dat (encD f w)] M Q := wl_dict dcv_encD q
/-- a dict just made will not be changed any more -/
theorem w_frzD (h : W K te ρ M fun s M1 => ∃ a ys, s = .raw (.ref a) ∧ M1 a = some (.dK (dKS ys)) ∧ Q (.dat (dKD ys)) (del M1 a)) : W K te ρ M Q := fun σ B H hR hS Q0 k =>
  h σ B H hR hS _ fun s v M1 B1 H1 ⟨a, ys, es, hM, q⟩ e1 S1 o1 => by
    subst es
    have ev : v = .ref a := o1
    subst ev
    obtain ⟨hB, u, hu, vs, rfl, ha⟩ := S1.has a _ hM
    exact k _ _ _ _ H1 q (e1.trans (same_new hB)) (S1.freeze hM hu) (Dq.dct (.inl upd_same) (dpk_same0 (same_new hB) (slks_dqk ha)))
theorem w_frzE (h : W K te ρ M fun s M1 => ∃ a w, s = .raw (.ref a) ∧ M1 a = some (.dK (slD f w)) ∧ Q (.dat (encD f w)) (del M1 a)) : W K te ρ M Q := w_frzD (h.imp fun s M1 ⟨a, w, e, hM, q⟩ => ⟨a, _, e, by rw [hM, slD_eq], by rw [← encD_eq]; exact q⟩)
/-- x in d, d[x], d.get(x, y): a dict of data -/
theorem w_inE (h : W K ty ρ M fun y M1 => W K td ρ M1 fun s M2 => ∃ (β : Type) (f : β → PyData) (w : List (Str × β)) (z : Str), s = .dat (encD f w) ∧ y = .str z ∧ Q (.bl (valG w z).isSome) M2) : W K (tDIn ty td) ρ M Q :=
  w_din (h.imp fun y M1 h1 => h1.imp fun s M2 ⟨β, f, w, z, e1, e2, q⟩ => ⟨slD f w, .inr z, by rw [e1]; exact dcv_encD, e2, by
    rw [slD_val]
    cases hv : valG w z with
    | none => rw [hv] at q; exact q
    | some x => rw [hv] at q; exact q⟩)
theorem w_getE (h : W K td ρ M fun s M1 => W K ty ρ M1 fun y M2 => ∃ (β : Type) (f : β → PyData) (w : List (Str × β)) (z : Str) (x : β), s = .dat (encD f w) ∧ y = .str z ∧ valG w z = some x ∧ Q (.dat (f x)) M2) : W K (tDGet td ty) ρ M Q :=
  w_dget (h.imp fun y M1 h1 => h1.imp fun s M2 ⟨β, f, w, z, x, e1, e2, e3, q⟩ => ⟨slD f w, .inr z, _, by rw [e1]; exact dcv_encD, e2, by rw [slD_val, e3]; rfl, q⟩)
def isDc : PyData → Bool
  | .dict _ => true
  | _ => false
theorem isi_dict (d : PyData) : kitB (tyD d) "dict" = some (isDc d) := by cases d <;> (simp only [tyD, isDc]; decide +kernel)
end
end Ab
set_option Elab.async false
set_option linter.all false
set_option maxRecDepth 1000000
set_option  maxHeartbeats 4000000
namespace SupX
open PySem PySem.Spec PyProof.Rows L2
end SupX
set_option Elab.async false
set_option linter.all false
set_option maxRecDepth 1000000
set_option  maxHeartbeats 4000000
namespace PySem.W
open PySem PySem.Spec PySem.Calls PyProof.Rows
end PySem.W
namespace L2
open PySem PySem.Spec PyProof.Rows
end L2
namespace SupX
open PySem PySem.Spec PyProof.Rows L2
end SupX
namespace Ab
open PySem PySem.Spec PyProof.Rows L2 SupX
end Ab
namespace L2
open PySem PySem.Spec PyProof.Rows
end L2
namespace SupX
open PySem PySem.Spec PyProof.Rows L2
end SupX
namespace SupX
open PySem PySem.Spec PyProof.Rows L2
end SupX
set_option Elab.async false
set_option linter.all false
set_option maxRecDepth 1000000
set_option  maxHeartbeats 4000000
namespace L2
open PySem PySem.Spec PyProof.Rows
end L2
namespace Ab
open PySem PyProof.Rows L2
end Ab
namespace Ab
open PySem PyProof.Rows L2
end Ab
namespace L2
open PySem PySem.Spec PyProof.Rows
end L2
namespace Ab
open PySem PyProof.Rows L2
end Ab
set_option Elab.async false
set_option linter.all false
set_option maxRecDepth 1000000
set_option  maxHeartbeats 4000000
namespace Ab
open PySem PyProof.Rows L2
end Ab
namespace Ab
open PySem PyProof.Rows L2
end Ab
namespace Ab
open PySem PyProof.Rows L2
end Ab
set_option Elab.async false
set_option linter.all false
set_option maxRecDepth 1000000
set_option  maxHeartbeats 4000000
namespace Ab
open PySem PyProof.Rows L2
end Ab
namespace Ab
open PySem PyProof.Rows L2
end Ab
namespace Ab
open PySem PyProof.Rows L2
end Ab
set_option Elab.async false
set_option linter.all false
set_option maxRecDepth 1000000
set_option  maxHeartbeats 4000000
namespace Ab
open PySem PyProof.Rows L2 RZ
section
variable {K : KX} {ρ : Rho} {M : MH}
theorem wi_zipT {t : TA} {R : Nat → (Nat → Sl) → (MH → Prop) → MH → Prop} (h : WA K t ρ M fun ss M1 => ∃ xs ys : List PyData, ss = [.dat (.tuple xs), .dat (.tuple ys)] ∧ R (min xs.length ys.length) (fun i => .dat (.tuple [xs.getD i .none, ys.getD i .none])) (fun _ => True) M1) : WI K (iZipA K.K t) ρ M R := fun σ B H hR hS R0 k =>
  h σ B H hR hS _ fun ss vs M1 B1 H1 ⟨xs, ys, es, q⟩ e1 S1 o1 => by
    subst es
    cases o1 with
    | cons oa ob => cases ob with
      | cons ob oc =>
        cases oc
        have h1 : TpV (.dat (.tuple xs)) (xs.map .dat) := tpv_dat
        have h2 : TpV (.dat (.tuple ys)) (ys.map .dat) := tpv_dat
        obtain ⟨a, us, rfl, hq1, ha1⟩ := h1.get S1 oa
        obtain ⟨b, ws, rfl, hq2, ha2⟩ := h2.get S1 ob
        have at1 : ∀ (l : List PyData) (i : Nat), i < l.length → (l.map Sl.dat)[i]? = some (.dat (l.getD i .none)) := fun l i hi => by
          rw [List.getElem?_map, List.getD_eq_getElem?_getD, List.getElem?_eq_getElem hi]
          rfl
        refine ⟨a, b, us, ws, rfl, .inr ⟨hq1, hq2, k _ _ _ M1 B1 H1 _ q e1 S1 ⟨fun i B2 M2 H2 hi e2 S2 st => ?_, fun i B2 M2 H2 x H3 hi e2 S2 st y => ?_, fun i B2 M2 H2 hi e2 S2 st => ?_⟩⟩⟩
        · obtain ⟨a', us', ea, q1, r1⟩ := h1.get S2 (oa.mono e2)
          obtain ⟨b', ws', eb, q2, r2⟩ := h2.get S2 (ob.mono e2)
          cases ea
          cases eb
          obtain ⟨z1, hz1, _⟩ := SlAll.get r1 (at1 xs i (by omega))
          obtain ⟨z2, hz2, _⟩ := SlAll.get r2 (at1 ys i (by omega))
          exact ⟨us', ws', z1, z2, q1, q2, hz1, hz2⟩
        · obtain ⟨a', us', ea, q1, r1⟩ := h1.get S2 (oa.mono e2)
          obtain ⟨b', ws', eb, q2, r2⟩ := h2.get S2 (ob.mono e2)
          cases ea
          cases eb
          obtain ⟨T, x1, x2, rfl, hT, rfl, f1, f2⟩ := y
          obtain ⟨z1, hz1, oz1⟩ := SlAll.get r1 (at1 xs i (by omega))
          obtain ⟨z2, hz2, oz2⟩ := SlAll.get r2 (at1 ys i (by omega))
          have g1 : z1 = x1 := Option.some.inj (hz1.symm.trans (f1 us' q1))
          have g2 : z2 = x2 := Option.some.inj (hz2.symm.trans (f2 ws' q2))
          subst g1 g2
          have hB := S2.freeB hT
          refine ⟨upd B2 T (.tup [z1, z2]), same_new hB, S2.alloc hT, ?_⟩
          exact Dq.tup (SqT.of upd_same) (.cons (oz1.mono (same_new hB)) (.cons (oz2.mono (same_new hB)) .nil))
        · obtain ⟨a', us', ea, q1, r1⟩ := h1.get S2 (oa.mono e2)
          obtain ⟨b', ws', eb, q2, r2⟩ := h2.get S2 (ob.mono e2)
          cases ea
          cases eb
          refine ⟨us', ws', q1, q2, ?_⟩
          rw [SlAll.len r1, SlAll.len r2, List.length_map, List.length_map]
          omega
end
end Ab
set_option Elab.async false
set_option linter.all false
set_option maxRecDepth 1000000
set_option  maxHeartbeats 4000000
namespace Ab
open PySem PyProof.Rows L2
def varT : Term → Option Str
  | .variable z => some z
  | _ => none
def varsF (ts : List Term) : List Str := ts.filterMap varT
def bindsF : Lit → List Str
  | .fact _ ts => varsF ts
  | .is x _ _ _ => [x]
  | .count x _ _ => [x]
  | _ => []
theorem varsF_len (ts : List Term) : (varsF ts).length ≤ ts.length := List.length_filterMap_le ..
theorem bindsF_len {l : Lit} (h : l.ok) : (bindsF l).length ≤ 1000 := by
  cases l with
  | fact r ts => exact Nat.le_trans (varsF_len ts) h.2.1
  | neg r ts => simp [bindsF]
  | compare op s t => simp [bindsF]
  | is x op s t => simp [bindsF]
  | count x r ts => simp [bindsF]
theorem any_strs (ks : List Str) (z : Str) : ((ks.map PyData.str).any fun y => PyData.eqv y (.str z)) = decide (z ∈ ks) := by
  induction ks with
  | nil => rfl
  | cons k ks ih =>
    rw [List.map_cons, List.any_cons, ih, eqv_str]
    by_cases h : k = z
    · subst h; simp
    · have h' : z ≠ k := fun e => h e.symm
      simp [h, h']
theorem strs_shaped {ks : List Str} (h : ∀ z ∈ ks, PyData.strOk z = true) (hl : ks.length ≤ 1000000) : SeqAt.shaped (.list (ks.map PyData.str)) = true := okD_shaped (n := 1) (okD_mkL (by rw [List.length_map]; exact hl) (okAll_of fun d hd => by
  obtain ⟨z, hz, rfl⟩ := List.mem_map.mp hd
  exact okD_str (h z hz))) (by decide)
/-- the variables and names are texts that may be compared -/
theorem varsF_good {ts : List Term} (h : ∀ t ∈ ts, t.ok) : ∀ z ∈ varsF ts, goodS z = true := fun z hz => by
  obtain ⟨t, ht, e⟩ := List.mem_filterMap.mp hz
  cases t with
  | any => cases e
  | value v => cases e
  | «variable» y => cases e; exact h _ ht
theorem bindsF_good {l : Lit} (h : l.ok) : ∀ z ∈ bindsF l, goodS z = true := by
  cases l with
  | fact r ts => exact varsF_good h.2.2
  | neg r ts => exact fun z h => nomatch h
  | compare op s t => exact fun z h => nomatch h
  | is x op s t => exact fun z hz => by rw [List.mem_singleton.mp hz]; exact h.1
  | count x r ts => exact fun z hz => by rw [List.mem_singleton.mp hz]; exact h.1
section
variable {K : PySem.W.Frag} {M : MH} {Q : Sl → MH → Prop}
/-- z in a list of texts; not in -/
theorem w2_inT {s : Sl} {z : Str} {ks : List Str} (hl : LsV K s M (ks.map fun y => .str y)) (h1 : goodS z = true) (h2 : ∀ y ∈ ks, goodS y = true) (h3 : ks.length ≤ 1000000) (q : Q (.bl (decide (z ∈ ks))) M) : W2 K (rInD K) (.str z) s M Q := by
  refine w2_inL (ds := ks.map .str) (by rw [List.map_map]; exact hl) (shaped_str (goodS_ok h1)) (strs_shaped (fun y hy => goodS_ok (h2 y hy)) h3) ?_
  rw [any_strs]
  exact q
theorem w2_notInL {s : Sl} {d : PyData} {ds : List PyData} (hl : LsV K s M (ds.map .dat)) (h1 : SeqAt.shaped d = true) (h2 : SeqAt.shaped (.list ds) = true) (q : Q (.bl (!ds.any fun z => PyData.eqv z d)) M) : W2 K (rNotInD K) (.dat d) s M Q := fun B H v w hS o1 o2 Q0 k => by
  obtain ⟨a, vs, rfl, hq, ha⟩ := hl.get hS o2
  exact ⟨d, ds, dq_dpS h1 (dp_same hS.sub _ _ o1), .lst hq (dqa_dpS h2 (dpa_same hS.sub _ _ (dpa_of ha))), h1, h2, k _ _ M B H q (Same.refl B) hS slok_bl⟩
theorem w2_notInT {s : Sl} {z : Str} {ks : List Str} (hl : LsV K s M (ks.map fun y => .str y)) (h1 : goodS z = true) (h2 : ∀ y ∈ ks, goodS y = true) (h3 : ks.length ≤ 1000000) (q : Q (.bl (!decide (z ∈ ks))) M) : W2 K (rNotInD K) (.str z) s M Q := by
  refine w2_notInL (ds := ks.map .str) (by rw [List.map_map]; exact hl) (shaped_str (goodS_ok h1)) (strs_shaped (fun y hy => goodS_ok (h2 y hy)) h3) ?_
  rw [any_strs]
  exact q
end
/-- the raised: a class with one field -/
def XP (C : Addr) (fl : Str) (M : MH) (X : Value → Option Addr → MH → Prop) (d : PyData) : Prop := ∀ M' e, (∀ b u, M b = some u → M' b = some u) → M e = none → M' e = some (.xd [(fl, .dat d)]) → X (.ref C) (some e) M'
theorem XP.ext {C : Addr} {fl : Str} {M N : MH} {X : Value → Option Addr → MH → Prop} {d : PyData} (h : XP C fl M X d) (e : ∀ b u, M b = some u → N b = some u) : XP C fl N X d := fun M' x h1 h2 h3 => h M' x (fun b u q => h1 b u (e b u q)) (by
  cases z : M x with
  | none => rfl
  | some u => rw [e x u z] at h2; cases h2) h3
theorem XP.at {C : Addr} {fl : Str} {M : MH} {X : Value → Option Addr → MH → Prop} {d : PyData} (h : XP C fl M X d) {e : Addr} (he : M e = none) : X (.ref C) (some e) (um M e (.xd [(fl, .dat d)])) := h _ e (fun b u hb => by rw [um_ne fun z => by rw [z, he] at hb; cases hb]; exact hb) he um_same
end Ab
namespace Ab
open PySem PyProof.Rows L2
end Ab
namespace Ab
open PySem PyProof.Rows L2
section
variable {K : KX} {ρ : Rho} {M : MH} {Q : Sl → MH → Prop} {te : TE} {tt : TT} {nx bk ct : Rho → MH → Prop} {rt : Sl → MH → Prop}
/-- [g(x) for x in a tuple of data if f(x)] -/
theorem w_lcTF {α : Type} {enc : α → PyData} {xs : List α} {tl : TE} {j : Nat} {vs : List Nat} {M1 : MH} (hj : j ∈ vs) (hl : W K tl ρ M fun s M2 => s = .dat (.tuple (xs.map enc)) ∧ M2 = M1) (hz : xs.length ≤ 1000000) (f : α → Option PyData)
    (ht : ∀ x D o, x ∈ xs → M1 D = none → WT K tt ((wipeR ρ vs).set j (some (.dat (enc x)))) (um M1 D o) fun b M' => b = (f x).isSome ∧ M' = um M1 D o)
    (he : ∀ x D o d, x ∈ xs → f x = some d → M1 D = none → W K te ((wipeR ρ vs).set j (some (.dat (enc x)))) (um M1 D o) fun s M' => s = .dat d ∧ M' = um M1 D o) (q : Q (.dat (.list (xs.filterMap f))) M1) : W K (tLc (iTup K.K tl) (gName j) tt te vs) ρ M Q :=
  w_lc hj (wi_tup (hl.imp fun s M2 ⟨e1, e2⟩ => by
    subst e1 e2
    refine ⟨_, tpv_dat, fun i acc M' => M' = M2 ∧ acc = (xs.take i).filterMap f, ⟨rfl, by simp⟩, fun _ _ _ _ _ _ _ _ => trivial, fun i acc M' D hi ⟨eM, ea⟩ hD => ?_, fun acc M' ⟨eM, ea⟩ => ?_⟩
    · subst eM ea
      have hi' : i < xs.length := by simpa using hi
      show WT K tt ((wipeR ρ vs).set j (some (((xs.map enc).map Sl.dat).getD i .non))) _ _
      rw [getD_map hi']
      refine WT.imp (ht xs[i] D _ (List.getElem_mem hi') hD) fun b M3 ⟨e1, e2⟩ => ?_
      subst e1 e2
      have hn : xs.take (i + 1) = xs.take i ++ [xs[i]] := List.take_succ_eq_append_getElem hi'
      cases hf : f xs[i] with
      | some d =>
        show W K te ((wipeR ρ vs).set j (some (((xs.map enc).map Sl.dat).getD i .non))) _ _
        rw [getD_map hi']
        refine (he xs[i] D _ d (List.getElem_mem hi') hf hD).imp fun s M4 ⟨e1, e2⟩ => ⟨d, _, e1, e2, hD, ?_, rfl, ?_⟩
        · have := List.length_filterMap_le f (xs.take i)
          rw [List.length_take] at this
          omega
        · rw [hn, List.filterMap_append, List.filterMap_cons, hf]
          rfl
      | none =>
        refine ⟨_, rfl, hD, rfl, ?_⟩
        rw [hn, List.filterMap_append, List.filterMap_cons, hf]
        simp
    · subst eM ea
      rw [List.length_map, List.length_map, List.take_length]
      exact q))
/-- for x in a tuple of data -/
theorem ws_forT {α : Type} {enc : α → PyData} {xs : List α} {tl : TE} {g : TG} {tb : TS} {M1 : MH} (hl : W K tl ρ M fun s M2 => s = .dat (.tuple (xs.map enc)) ∧ M2 = M1) (J : List α → Rho → MH → Prop) (h0 : J [] ρ M1)
    (hs : ∀ pre x post ρ' M', xs = pre ++ x :: post → J pre ρ' M' → WG K g (.dat (enc x)) ρ' M' fun ρ2 M2 => WS K tb ρ2 M2 ⟨J (pre ++ [x]), rt, nx, J (pre ++ [x])⟩) (hd : ∀ ρ' M', J xs ρ' M' → nx ρ' M') : WS K (tFor (iTup K.K tl) g tb) ρ M ⟨nx, rt, bk, ct⟩ :=
  ws_for (wi_tup (hl.imp fun s M2 ⟨e1, e2⟩ => by
    subst e1 e2
    refine ⟨_, tpv_dat, fun i => J (xs.take i), h0, fun _ _ _ _ _ => trivial, fun i ρ' M' hi hj => ?_, fun ρ' M' hj => hd ρ' M' (by rwa [List.length_map, List.length_map, List.take_length] at hj)⟩
    have hi' : i < xs.length := by simpa using hi
    have q := hs (xs.take i) xs[i] (xs.drop (i + 1)) ρ' M' (split_at hi') hj
    rw [← List.take_succ_eq_append_getElem hi'] at q
    show WG K g (((xs.map enc).map Sl.dat).getD i .non) ρ' M' _
    rw [getD_map hi']
    exact q))
end
end Ab
namespace Ab
open PySem PyProof.Rows L2
theorem lsv_strs {K : PySem.W.Frag} {M : MH} {ks : List Str} : LsV K (.dat (.list (ks.map .str))) M (ks.map fun y => .str y) := .inl ⟨_, rfl, by rw [List.map_map]; rfl⟩
end Ab
set_option Elab.async false
set_option linter.all false
set_option maxRecDepth 1000000
set_option  maxHeartbeats 4000000
namespace Ab
open PySem PyProof.Rows L2
/-- a draw of a sort -/
abbrev A_draw (P : PyData → Prop) : ASp := A_gen (fun ds => ds = []) fun _ d => P d
/-- bound names -/
abbrev bnd (ks : List Str) : PyData := .list (ks.map .str)
structure okK (ks : List Str) : Prop where
  g : ∀ z ∈ ks, goodS z = true
  l : ks.length ≤ 100000
/-- a term instead of one that may be loose -/
def settled (ks : List Str) : Term → Term
  | .any => .value (.int 1)
  | .variable z => if z ∈ ks then .variable z else .value (.int 1)
  | t => t
theorem settled_ok {ks : List Str} {t : Term} (h : t.ok) : (settled ks t).ok := by
  cases t with
  | any => exact (by decide +kernel : (1 : Int).natAbs < 10 ^ 30)
  | value v => exact h
  | «variable» z =>
    show (if z ∈ ks then Term.variable z else .value (.int 1)).ok
    by_cases hz : z ∈ ks
    · rw [if_pos hz]; exact h
    · rw [if_neg hz]; exact (by decide +kernel : (1 : Int).natAbs < 10 ^ 30)
/-- the widths as a dict -/
def kvW (W : List (Str × Int)) : List (Key × Sl) := W.map fun p => (.inr p.1, .int p.2)
structure okW (W : List (Str × Int)) : Prop where
  g : ∀ p ∈ W, goodS p.1 = true ∧ 0 ≤ p.2 ∧ p.2 ≤ 100
  l : W.length < 60
  n : W ≠ []
section
variable {K : PySem.W.Frag} {M : MH} {Q : Sl → MH → Prop}
/-- one of some texts -/
theorem w2_ixT1 {ks : List Str} {i : Int} (h0 : 0 ≤ i) (h : i < ks.length) (q : ∀ z ∈ ks, Q (.str z) M) : W2 K (rIxL K) (.dat (bnd ks)) (.int i) M Q :=
  w2_ixAny h0 (by rw [List.length_map]; exact h) fun d hd => by
    obtain ⟨z, hz, rfl⟩ := List.mem_map.mp hd
    exact q z hz
end
end Ab
namespace Ab
open PySem PyProof.Rows L2
section
variable {K : KX} {ρ : Rho} {M : MH} {Q : Sl → MH → Prop} {td te tl : TE}
theorem w_dropE (h : W K te ρ M fun s M1 => ∃ a, Q s (del M1 a)) : W K te ρ M Q := fun σ B H hR hS Q0 k =>
  h σ B H hR hS Q0 fun s v M1 B1 H1 ⟨a, q⟩ e S o => k s v (del M1 a) B1 H1 q e S.drop o
/-- sorted(list(d)), read at once -/
theorem w_sortedLN {kvs : List (Key × Sl)} {ks : List Str} (h : W K td ρ M fun s M1 => DcV K.K s M1 kvs ∧ kvs.map (·.1) = ks.map Sum.inr ∧ ks.length < 64 ∧ Q (.dat (bnd (sortT ks))) M1) : W K (tCB (rSortedS K.K) (tCons (tCB rListDk (tCons td tNil)) tNil)) ρ M Q :=
  w_dropE (w_frz (w_cb (wa_cons (w_cb (wa_cons (h.imp fun s M1 ⟨h1, h2, h3, q⟩ => wa_nil (wl_listD h1 fun p hp => wa_nil (wl_sortedS (ys := ks) (lsv_ref (by
    rw [um_same]
    have e : kvs.map (fun q => kS q.1) = (kvs.map (·.1)).map kS := by rw [List.map_map]; rfl
    rw [e, h2, List.map_map]
    rfl)) h3 fun p2 hp2 => ⟨p2, (sortT ks).map .str, rfl, by rw [um_same, List.map_map]; rfl, p, by rw [del_um hp2, del_um hp]; exact q⟩))))))))
/-- [g(x) for x in a list of data], each of a sort -/
theorem w_lcP1 {α : Type} {enc : α → PyData} {xs : List α} {j : Nat} {vs : List Nat} {M1 : MH} (hj : j ∈ vs) (hl : W K tl ρ M fun s M2 => s = .dat (.list (xs.map enc)) ∧ M2 = M1) (hz : xs.length ≤ 1000000) (P : PyData → Prop)
    (he : ∀ x D o, x ∈ xs → M1 D = none → W K te ((wipeR ρ vs).set j (some (.dat (enc x)))) (um M1 D o) fun s M' => ∃ d, s = .dat d ∧ P d ∧ M' = um M1 D o) (q : ∀ ds, ds.length = xs.length → (∀ d ∈ ds, P d) → Q (.dat (.list ds)) M1) : W K (tLc (iList K.K tl) (gName j) tYes te vs) ρ M Q :=
  w_lc hj (wi_list (hl.imp fun s M2 ⟨e1, e2⟩ => by
    subst e1 e2
    refine ⟨_, lsv_dat, fun i acc M' => M' = M2 ∧ acc.length = i ∧ ∀ d ∈ acc, P d, ⟨rfl, rfl, fun _ h => (nomatch h)⟩, fun _ _ _ _ _ _ _ _ => lsv_dat, fun i acc M' D hi ⟨eM, ea, ep⟩ hD => ?_, fun acc M' ⟨eM, ea, ep⟩ => ?_⟩
    · subst eM ea
      have hi' : acc.length < xs.length := by simpa using hi
      refine wt_yes ?_
      rw [if_pos rfl]
      show W K te ((wipeR ρ vs).set j (some (((xs.map enc).map Sl.dat).getD acc.length .non))) _ _
      rw [getD_map hi']
      refine (he _ D _ (List.getElem_mem hi') hD).imp fun s M4 ⟨d, e1, e2, e3⟩ => ⟨d, _, e1, e3, hD, by omega, rfl, by rw [List.length_append]; rfl, fun z hz => ?_⟩
      rcases List.mem_append.mp hz with h | h
      · exact ep z h
      · rw [List.mem_singleton.mp h]; exact e2
    · subst eM
      exact q acc (by rw [ea, List.length_map, List.length_map]) ep))
end
theorem kvW_keys (W : List (Str × Int)) : (kvW W).map (·.1) = (W.map (·.1)).map Sum.inr := by unfold kvW; rw [List.map_map, List.map_map]; rfl
theorem kvW_at {W : List (Str × Int)} {z : Str} {n : Int} (h : valG W z = some n) : valG (kvW W) (.inr z) = some (.int n) := by
  have := valG_inr (fun i : Int => Sl.int i) z W
  rw [h] at this
  exact this
end Ab
namespace Ab
open PySem PyProof.Rows L2
section
variable {K : KX} {ρ : Rho} {M : MH} {Q : Sl → MH → Prop} {te tl : TE}
/-- terms instead of terms -/
theorem w_termL {ts : List Term} {j : Nat} {vs : List Nat} {M1 : MH} (hj : j ∈ vs) (hts : okTs ts) (hl : W K tl ρ M fun s M2 => s = .dat (.list (ts.map Term.enc)) ∧ M2 = M1)
    (he : ∀ x D o, x ∈ ts → M1 D = none → W K te ((wipeR ρ vs).set j (some (.dat (Term.enc x)))) (um M1 D o) fun s M' => ∃ t : Term, t.ok ∧ s = .dat t.enc ∧ M' = um M1 D o)
    (q : ∀ us, okTs us → us.length = ts.length → Q (.dat (.list (us.map Term.enc))) M1) : W K (tLc (iList K.K tl) (gName j) tYes te vs) ρ M Q :=
  w_lcP1 (enc := Term.enc) (xs := ts) (M1 := M1) hj hl (by have := hts.1; omega) (fun d => ∃ t : Term, d = t.enc ∧ t.ok) (fun x D o hx hD => (he x D o hx hD).imp fun s M' ⟨t, h1, h2, h3⟩ => ⟨_, h2, ⟨t, rfl, h1⟩, h3⟩) fun ds hl hP => by
    obtain ⟨us, rfl, hus⟩ := list_enc hP
    rw [List.length_map] at hl
    exact q us ⟨by rw [hl]; exact hts.1, hus⟩ hl
theorem Term.shaped {t : Term} (h : t.ok) : SeqAt.shaped t.enc = true := okD_shaped (n := 2) (Term.okD h) (by decide)
end
end Ab
namespace Ab
open PySem PyProof.Rows L2
def Lit.form : Lit → Str
  | .fact _ _ => "fact"
  | .neg _ _ => "not"
  | .compare _ _ _ => "compare"
  | .is _ _ _ _ => "is"
  | .count _ _ _ => "count"
theorem Lit.form_good : ∀ l : Lit, goodS l.form = true
  | .fact _ _ => (by decide +kernel : goodS ("fact" : Str) = true)
  | .neg _ _ => (by decide +kernel : goodS ("not" : Str) = true)
  | .compare _ _ _ => (by decide +kernel : goodS ("compare" : Str) = true)
  | .is _ _ _ _ => (by decide +kernel : goodS ("is" : Str) = true)
  | .count _ _ _ => (by decide +kernel : goodS ("count" : Str) = true)
theorem w2_ixHd {K : PySem.W.Frag} {M : MH} {Q : Sl → MH → Prop} {l : Lit} (q : Q (.str l.form) M) : W2 K (rIxT K) (.dat l.enc) (.int 0) M Q := by
  cases l <;> exact w2_ixT rfl q
end Ab
set_option Elab.async false
set_option linter.all false
set_option maxRecDepth 1000000
set_option  maxHeartbeats 4000000
namespace Ab
open PySem PyProof.Rows L2
end Ab
namespace Ab
open PySem PyProof.Rows L2
end Ab
set_option Elab.async false
set_option linter.all false
set_option maxRecDepth 1000000
set_option  maxHeartbeats 4000000
namespace Ab
open PySem PyProof.Rows L2
abbrev Way := List (Str × Val)
abbrev encW (w : Way) : PyData := encD Val.enc w
abbrev Rows := List (List Val)
/-- values of at most so many bits -/
def vb (b : Nat) : Val → Prop
  | .int n => n.natAbs < 2 ^ b
  | .str z => goodS z = true
theorem vb_mono {b c : Nat} (h : b ≤ c) : ∀ {v : Val}, vb b v → vb c v
  | .int n, x => Nat.lt_of_lt_of_le x (Nat.pow_le_pow_right (by decide) h)
  | .str _, x => x
structure wayB (b : Nat) (w : Way) : Prop where
  g : ∀ p ∈ w, goodS p.1 = true ∧ vb b p.2
def rowB (b : Nat) (r : List Val) : Prop := r.length ≤ 1000 ∧ ∀ v ∈ r, vb b v
def termB (b : Nat) : Term → Prop
  | .any => True
  | .value v => vb b v
  | .variable z => goodS z = true
def metT (t : Term) (v : Val) (w : Way) : Option Way := match t with
  | .any => some w
  | .value x => if x = v then some w else none
  | .variable y => match valG w y with
    | some u => if u = v then some (putG w y v) else none
    | none => some (putG w y v)
def metZ : List Term → List Val → Way → Option Way
  | t :: ts, v :: vs, w => (metT t v w).bind (metZ ts vs)
  | _, _, w => some w
def metF (ts : List Term) (row : List Val) (w : Way) : Option Way := if ts.length = row.length then metZ ts row w else none
def valF (w : Way) : Term → Val
  | .any => .int 0
  | .value v => v
  | .variable y => (valG w y).getD (.int 0)
/-- what can be valued -/
def hasT (w : Way) : Term → Prop
  | .any => False
  | .value _ => True
  | .variable y => y ∈ w.map (·.1)
def cmpF (op : Str) (v w : Val) : Bool := if op = "=" then decide (v = w) else if op = "<>" then !decide (v = w) else if op = "<" then vLt v w else if op = "<=" then !vLt w v else if op = ">" then vLt w v else !vLt v w
def reckF (op : Str) : Val → Val → Option Int
  | .int i, .int j => some (if op = "+" then i + j else if op = "-" then i - j else i * j)
  | _, _ => none
def boundF (w : Way) (y : Str) (v : Val) : Option Way := match valG w y with
  | some u => if u = v then some (putG w y v) else none
  | none => some (putG w y v)
def countF (ts : List Term) (rows : Rows) (w : Way) : Nat := (rows.filter fun r => (metF ts r w).isSome).length
def testF (R : Str → Rows) (w : Way) : Lit → Option Way
  | .fact _ _ => none
  | .neg r ts => if 0 < countF ts (R r) w then none else some w
  | .compare op s t => if cmpF op (valF w s) (valF w t) = true then some w else none
  | .is x op s t => (reckF op (valF w s) (valF w t)).bind fun i => boundF w x (.int i)
  | .count x r ts => boundF w x (.int (countF ts (R r) w : Int))
abbrev Wys := List (Way × Rows)
def waysL (R L : Str → Rows) (found : Wys) (l : Lit) : Wys := match l with
  | .fact r ts => found.flatMap fun p => (R r).filterMap fun row => (metF ts row p.1).map fun w => (w, p.2 ++ [row])
  | l => found.filterMap fun p => (testF L p.1 l).map fun w => (w, p.2)
def waysF (R L : Str → Rows) (b : List Lit) : Wys := b.foldl (waysL R L) [([], [])]
def headF (ts : List Term) (w : Way) : List Val := ts.map (valF w)
abbrev encTk (k : Rows) : PyData := .tuple (k.map encR)
abbrev encWy (p : Way × Rows) : PyData := .tuple [encW p.1, encTk p.2]
def optW : Option Way → PyData
  | none => .none
  | some w => encW w
theorem waysF_snoc (R L : Str → Rows) (b : List Lit) (l : Lit) : waysF R L (b ++ [l]) = waysL R L (waysF R L b) l := by unfold waysF; rw [List.foldl_append]; rfl
theorem wayB.put {b : Nat} {w : Way} (h : wayB b w) {y : Str} {v : Val} (hy : goodS y = true) (hv : vb b v) : wayB b (putG w y v) := ⟨fun p hp => (putG_mem hp).elim (fun e => by rw [e]; exact ⟨hy, hv⟩) (h.g p)⟩
theorem metT_ok {b : Nat} {t : Term} {v : Val} {w w' : Way} (hw : wayB b w) (ht : termB b t) (hv : vb b v) (h : metT t v w = some w') : wayB b w' ∧ w'.length ≤ w.length + 1 := by
  cases t with
  | any => cases h; exact ⟨hw, Nat.le_succ _⟩
  | value x =>
    have h' : (if x = v then some w else none) = some w' := h
    split at h'
    · cases h'; exact ⟨hw, Nat.le_succ _⟩
    · cases h'
  | «variable» y =>
    have h' : (match valG w y with | some u => if u = v then some (putG w y v) else none | none => some (putG w y v)) = some w' := h
    have hp := putG_len w y v
    cases e : valG w y with
    | none => rw [e] at h'; cases h'; exact ⟨hw.put ht hv, hp⟩
    | some u =>
      rw [e] at h'
      dsimp only at h'
      split at h'
      · cases h'; exact ⟨hw.put ht hv, hp⟩
      · cases h'
theorem le_vkey : ∀ v w : Val, cmpV .LtE (vkey v) (vkey w) = !vLt w v
  | .int a, .int b => by
    simp only [vkey, cmpV, cmpVs, tagV, eqv_int, Val.enc, cmpI, cmpN, vLt, List.length_cons, List.length_nil]
    by_cases h : a = b
    · simp [h]
    · simp [h]
      rw [← decide_not]
      exact decide_eq_decide.mpr (by omega)
  | .int _, .str _ => by simp [vkey, cmpV, cmpVs, tagV, eqv_int, Val.enc, cmpI, vLt]
  | .str _, .int _ => by simp [vkey, cmpV, cmpVs, tagV, eqv_int, Val.enc, cmpI, vLt]
  | .str x, .str y => by
    simp only [vkey, cmpV, cmpVs, tagV, eqv_int, eqv_str, Val.enc, cmpI, cmpS, cmpN, vLt, List.length_cons, List.length_nil]
    by_cases h : x = y
    · subst h; simp
    · simp [h]
theorem ge_vkey : ∀ v w : Val, cmpV .GtE (vkey v) (vkey w) = !vLt v w
  | .int a, .int b => by
    simp only [vkey, cmpV, cmpVs, tagV, eqv_int, Val.enc, cmpI, cmpN, vLt, List.length_cons, List.length_nil]
    by_cases h : a = b
    · simp [h]
    · simp [h]
      rw [← decide_not]
      exact decide_eq_decide.mpr (by omega)
  | .int _, .str _ => by simp [vkey, cmpV, cmpVs, tagV, eqv_int, Val.enc, cmpI, vLt]
  | .str _, .int _ => by simp [vkey, cmpV, cmpVs, tagV, eqv_int, Val.enc, cmpI, vLt]
  | .str x, .str y => by
    simp only [vkey, cmpV, cmpVs, tagV, eqv_int, eqv_str, Val.enc, cmpI, cmpS, cmpN, vLt, List.length_cons, List.length_nil]
    by_cases h : x = y
    · subst h; simp
    · simp [h]
theorem shapedV {b : Nat} : ∀ {v : Val}, vb b v → SeqAt.shaped v.enc = true
  | .int i, _ => shaped_int i
  | .str _, h => shaped_str (goodS_ok h)
theorem shapedK {b : Nat} {v : Val} (h : vb b v) : SeqAt.shaped (vkey v) = true := okD_shaped (n := 2) (okD_mkT (by simp) (okAll_cons okD_int (okAll_cons (by cases v with | int i => exact okD_int | str z => exact okD_str (goodS_ok h)) rfl))) (by decide)
end Ab
set_option Elab.async false
set_option linter.all false
set_option maxRecDepth 1000000
set_option  maxHeartbeats 4000000
namespace Ab
open PySem PyProof.Rows L2
theorem lsv_ext {F : PySem.W.Frag} {s : Sl} {xs : List Sl} {M N : MH} (h : LsV F s M xs) (e : ∀ b u, M b = Option.some u → N b = Option.some u) : LsV F s N xs := by
  rcases h with h | ⟨a, z, h⟩ | h
  · exact .inl h
  · exact .inr (.inl ⟨a, z, e _ _ h⟩)
  · exact .inr (.inr h)
theorem dcv_ext {F : PySem.W.Frag} {s : Sl} {kvs : List (Key × Sl)} {M N : MH} (h : DcV F s M kvs) (e : ∀ b u, M b = Option.some u → N b = Option.some u) : DcV F s N kvs := by
  rcases h with ⟨a, z, h | ⟨ob, v, h⟩⟩ | h | h
  · exact .inl ⟨a, z, .inl (e _ _ h)⟩
  · exact .inl ⟨a, z, .inr ⟨ob, v, e _ _ h⟩⟩
  · exact .inr (.inl h)
  · exact .inr (.inr h)
theorem ext_fresh {M : MH} {D : Addr} {o : MO} (hD : M D = none) : ∀ b u, M b = Option.some u → um M D o b = Option.some u := fun b u hb => by
  rw [um_ne fun z => by rw [z, hD] at hb; cases hb]
  exact hb
abbrev rowS (rs : Rows) : List Sl := rs.map fun r => .dat (encR r)
/-- a dict of lists of rows, however it stands -/
structure RowsV (F : PySem.W.Frag) (s : Sl) (M : MH) (R : Str → Rows) : Prop where
  ex : ∃ kvs, DcV F s M kvs ∧ ∀ z, ∃ sz, (valG kvs (.inr z)).getD (.dat (.list [])) = sz ∧ LsV F sz M (rowS (R z))
theorem RowsV.ext {F : PySem.W.Frag} {s : Sl} {M N : MH} {R : Str → Rows} (h : RowsV F s M R) (e : ∀ b u, M b = Option.some u → N b = Option.some u) : RowsV F s N R := by
  obtain ⟨kvs, h1, h2⟩ := h.ex
  exact ⟨kvs, dcv_ext h1 e, fun z => let ⟨sz, e1, e2⟩ := h2 z; ⟨sz, e1, lsv_ext e2 e⟩⟩
section
variable {K : KX} {ρ : Rho} {M : MH} {Q : Sl → MH → Prop} {te : TE} {tt : TT}
/-- [g(x) for x in a list of data that may change, but not now, if f(x)] -/
theorem w_lcV {α : Type} {enc : α → PyData} {xs : List α} {tl : TE} {j : Nat} {vs : List Nat} {M1 : MH} (hj : j ∈ vs) (hl : W K tl ρ M fun s M2 => LsV K.K s M2 (xs.map fun x => .dat (enc x)) ∧ M2 = M1) (hz : xs.length ≤ 1000000) (f : α → Bool) (g : α → PyData)
    (ht : ∀ x D o, x ∈ xs → M1 D = none → WT K tt ((wipeR ρ vs).set j (some (.dat (enc x)))) (um M1 D o) fun b M' => b = f x ∧ M' = um M1 D o)
    (he : ∀ x D o, x ∈ xs → f x = true → M1 D = none → W K te ((wipeR ρ vs).set j (some (.dat (enc x)))) (um M1 D o) fun s M' => s = .dat (g x) ∧ M' = um M1 D o) (q : Q (.dat (.list ((xs.filter f).map g))) M1) : W K (tLc (iList K.K tl) (gName j) tt te vs) ρ M Q :=
  w_lc hj (wi_list (hl.imp fun s M2 ⟨hs, e2⟩ => by
    subst e2
    refine ⟨_, hs, fun i acc M' => M' = M2 ∧ acc = ((xs.take i).filter f).map g, ⟨rfl, by simp⟩, fun i acc M' _ hJ D o hD => ?_, fun i acc M' D hi ⟨eM, ea⟩ hD => ?_, fun acc M' ⟨eM, ea⟩ => ?_⟩
    · obtain ⟨rfl, _⟩ := hJ
      exact lsv_ext hs (ext_fresh hD)
    · subst eM ea
      have hi' : i < xs.length := by rw [List.length_map] at hi; exact hi
      have gi : (xs.map fun x => Sl.dat (enc x)).getD i .non = .dat (enc xs[i]) := by
        rw [List.getD_eq_getElem?_getD, List.getElem?_map, List.getElem?_eq_getElem hi']
        rfl
      show WT K tt ((wipeR ρ vs).set j (some ((xs.map fun x => Sl.dat (enc x)).getD i .non))) _ _
      rw [gi]
      refine WT.imp (ht xs[i] D _ (List.getElem_mem hi') hD) fun b M3 ⟨e1, e2⟩ => ?_
      subst e1 e2
      have hn : xs.take (i + 1) = xs.take i ++ [xs[i]] := List.take_succ_eq_append_getElem hi'
      cases hf : f xs[i] with
      | true =>
        rw [if_pos rfl]
        show W K te ((wipeR ρ vs).set j (some ((xs.map fun x => Sl.dat (enc x)).getD i .non))) _ _
        rw [gi]
        refine (he xs[i] D _ (List.getElem_mem hi') hf hD).imp fun s M4 ⟨e1, e2⟩ => ⟨g xs[i], _, e1, e2, hD, ?_, rfl, ?_⟩
        · have := List.length_filter_le f (xs.take i)
          rw [List.length_map]
          rw [List.length_take] at this
          omega
        · rw [hn, List.filter_append, List.map_append, List.filter_cons, if_pos hf]
          rfl
      | false =>
        rw [if_neg (by decide)]
        refine ⟨_, rfl, hD, rfl, ?_⟩
        rw [hn, List.filter_append, List.map_append, List.filter_cons, if_neg (by rw [hf]; decide)]
        simp
    · subst eM ea
      rw [List.length_map, List.take_length]
      exact q))
end
/-- a literal that may be worked at w -/
def litW (b : Nat) (w : Way) : Lit → Prop
  | .fact r ts => goodS r = true ∧ (∀ t ∈ ts, termB b t) ∧ ts.length ≤ 1000
  | .neg r ts => goodS r = true ∧ (∀ t ∈ ts, termB b t) ∧ ts.length ≤ 1000
  | .compare op s t => op ∈ opsC ∧ hasT w s ∧ hasT w t ∧ termB b s ∧ termB b t
  | .is x op s t => goodS x = true ∧ op ∈ opsI ∧ hasT w s ∧ hasT w t ∧ termB b s ∧ termB b t
  | .count x r ts => goodS x = true ∧ goodS r = true ∧ (∀ t ∈ ts, termB b t) ∧ ts.length ≤ 1000
structure rowsB (b : Nat) (R : Str → Rows) : Prop where
  l : ∀ z, (R z).length ≤ 1000000
  g : ∀ z, ∀ r ∈ R z, rowB b r
theorem valF_vb {b : Nat} {w : Way} {t : Term} (hw : wayB b w) (ht : termB b t) (h : hasT w t) : vb b (valF w t) := by
  cases t with
  | any => exact h.elim
  | value v => exact ht
  | «variable» y =>
    obtain ⟨v, hv⟩ := valG_of h
    show vb b ((valG w y).getD (.int 0))
    rw [hv]
    exact (hw.g _ (valG_mem hv)).2
theorem vb_nat {b : Nat} {n : Nat} (hb : 20 ≤ b) (hn : n ≤ 1000000) : vb b (.int (n : Int)) := by
  show (n : Int).natAbs < 2 ^ b
  have h1 : (2 : Nat) ^ 20 ≤ 2 ^ b := Nat.pow_le_pow_right (by decide) hb
  have h2 : (2 : Nat) ^ 20 = 1048576 := by decide
  omega
theorem reck_vb {b : Nat} {op : Str} {v u : Val} {i : Int} (hb : 1 ≤ b) (hv : vb b v) (hu : vb b u) (h : reckF op v u = some i) : vb (2 * b) (.int i) := by
  cases v with
  | str z => cases h
  | int x =>
    cases u with
    | str z => cases h
    | int y =>
      have h' : some (if op = "+" then x + y else if op = "-" then x - y else x * y) = some i := h
      have hx : x.natAbs < 2 ^ b := hv
      have hy : y.natAbs < 2 ^ b := hu
      have e1 : (2 : Nat) ^ (2 * b) = 2 ^ b * 2 ^ b := by rw [← Nat.pow_add]; congr 1; omega
      have e2 : (2 : Nat) ≤ 2 ^ b := Nat.le_trans (show 2 ≤ 2 ^ 1 by decide) (Nat.pow_le_pow_right (by decide) hb)
      have e3 : 2 ^ b + 2 ^ b ≤ 2 ^ b * 2 ^ b := by
        have := Nat.mul_le_mul_left (2 ^ b) e2
        omega
      injection h' with h'
      show i.natAbs < _
      rw [← h', e1]
      split
      · omega
      · split
        · omega
        · rw [Int.natAbs_mul]
          exact Nat.mul_lt_mul'' hx hy
end Ab
set_option Elab.async false
set_option linter.all false
set_option maxRecDepth 1000000
set_option  maxHeartbeats 4000000
namespace Ab
open PySem PyProof.Rows L2
def hasK (k : List Str) : Term → Prop
  | .any => False
  | .value _ => True
  | .variable y => y ∈ k
def litK (k : List Str) : Lit → Prop
  | .compare _ s t => hasK k s ∧ hasK k t
  | .is _ _ s t => hasK k s ∧ hasK k t
  | _ => True
def bodyK : List Str → List Lit → Prop
  | _, [] => True
  | k, l :: b => litK k l ∧ bodyK (k ++ bindsF l) b
def litB (b : Nat) : Lit → Prop
  | .fact r ts => goodS r = true ∧ (∀ t ∈ ts, termB b t) ∧ ts.length ≤ 50
  | .neg r ts => goodS r = true ∧ (∀ t ∈ ts, termB b t) ∧ ts.length ≤ 50
  | .compare op s t => op ∈ opsC ∧ termB b s ∧ termB b t
  | .is x op s t => goodS x = true ∧ op ∈ opsI ∧ termB b s ∧ termB b t
  | .count x r ts => goodS x = true ∧ goodS r = true ∧ (∀ t ∈ ts, termB b t) ∧ ts.length ≤ 50
theorem termB_mono {b c : Nat} (h : b ≤ c) {t : Term} (x : termB b t) : termB c t := by
  cases t with
  | any => trivial
  | value v => exact vb_mono h x
  | «variable» z => exact x
theorem litB_mono {b c : Nat} (h : b ≤ c) {l : Lit} (x : litB b l) : litB c l := by
  cases l with
  | fact r ts => exact ⟨x.1, fun t ht => termB_mono h (x.2.1 t ht), x.2.2⟩
  | neg r ts => exact ⟨x.1, fun t ht => termB_mono h (x.2.1 t ht), x.2.2⟩
  | compare op s t => exact ⟨x.1, termB_mono h x.2.1, termB_mono h x.2.2⟩
  | is y op s t => exact ⟨x.1, x.2.1, termB_mono h x.2.2.1, termB_mono h x.2.2.2⟩
  | count y r ts => exact ⟨x.1, x.2.1, fun t ht => termB_mono h (x.2.2.1 t ht), x.2.2.2⟩
theorem rowsB_mono {b c : Nat} (h : b ≤ c) {R : Str → Rows} (x : rowsB b R) : rowsB c R := ⟨x.l, fun z r hr => ⟨(x.g z r hr).1, fun v hv => vb_mono h ((x.g z r hr).2 v hv)⟩⟩
/-- a way that may be met with -/
structure WyOk (k : List Str) (b i : Nat) (p : Way × Rows) : Prop where
  wb : wayB b p.1
  l : p.1.length ≤ 51 * i
  k : ∀ y ∈ k, y ∈ p.1.map (·.1)
  t : p.2.length ≤ i
  r : ∀ r ∈ p.2, rowB b r
theorem hasT_of {k : List Str} {w : Way} {t : Term} (h : ∀ y ∈ k, y ∈ w.map (·.1)) (x : hasK k t) : hasT w t := by
  cases t with
  | any => exact x.elim
  | value v => trivial
  | «variable» y => exact h y x
theorem litW_of {k : List Str} {b i : Nat} {p : Way × Rows} {l : Lit} (h : WyOk k b i p) (hb : litB b l) (hk : litK k l) : litW b p.1 l := by
  cases l with
  | fact r ts => exact ⟨hb.1, hb.2.1, Nat.le_trans hb.2.2 (by decide)⟩
  | neg r ts => exact ⟨hb.1, hb.2.1, Nat.le_trans hb.2.2 (by decide)⟩
  | compare op s t => exact ⟨hb.1, hasT_of h.k hk.1, hasT_of h.k hk.2, hb.2.1, hb.2.2⟩
  | is y op s t => exact ⟨hb.1, hb.2.1, hasT_of h.k hk.1, hasT_of h.k hk.2, hb.2.2.1, hb.2.2.2⟩
  | count y r ts => exact ⟨hb.1, hb.2.1, hb.2.2.1, Nat.le_trans hb.2.2.2 (by decide)⟩
theorem put_has {w : Way} {y z : Str} {v : Val} (h : z ∈ w.map (·.1) ∨ z = y) : z ∈ (putG w y v).map (·.1) := by
  rw [putG_keys]
  split
  · rename_i hin
    rcases h with h | rfl
    · exact h
    · exact hin
  · exact List.mem_append.mpr (h.imp id fun e => by rw [e]; exact List.mem_singleton.mpr rfl)
theorem metT_keys {t : Term} {v : Val} {w w' : Way} (h : metT t v w = some w') {z : Str} (hz : z ∈ w.map (·.1) ∨ varT t = some z) : z ∈ w'.map (·.1) := by
  cases t with
  | any => cases h; exact hz.elim id fun e => nomatch e
  | value x =>
    have h' : (if x = v then some w else none) = some w' := h
    split at h'
    · cases h'; exact hz.elim id fun e => nomatch e
    · cases h'
  | «variable» y =>
    have h' : (match valG w y with | some u => if u = v then some (putG w y v) else none | none => some (putG w y v)) = some w' := h
    have hz' : z ∈ w.map (·.1) ∨ z = y := hz.imp id fun e => (Option.some.inj e).symm
    cases e : valG w y with
    | none => rw [e] at h'; cases h'; exact put_has hz'
    | some u =>
      rw [e] at h'
      dsimp only at h'
      split at h'
      · cases h'; exact put_has hz'
      · cases h'
theorem metZ_ok {b : Nat} : ∀ {ts : List Term} {row : List Val} {w w' : Way}, ts.length = row.length → wayB b w → (∀ t ∈ ts, termB b t) → (∀ v ∈ row, vb b v) → metZ ts row w = some w' →
    wayB b w' ∧ w'.length ≤ w.length + ts.length ∧ ∀ z, (z ∈ w.map (·.1) ∨ z ∈ varsF ts) → z ∈ w'.map (·.1)
  | [], [], w, w', _, hw, _, _, h => by
    cases h
    exact ⟨hw, Nat.le_refl _, fun z hz => hz.elim id fun e => nomatch e⟩
  | t :: ts, v :: vs, w, w', hl, hw, ht, hv, h => by
    have h' : (metT t v w).bind (metZ ts vs) = some w' := h
    cases e : metT t v w with
    | none => rw [e] at h'; cases h'
    | some w1 =>
      rw [e] at h'
      obtain ⟨m1, m2⟩ := metT_ok hw (ht t List.mem_cons_self) (hv v List.mem_cons_self) e
      obtain ⟨i1, i2, i3⟩ := metZ_ok (Nat.succ.inj hl) m1 (fun z hz => ht z (List.mem_cons_of_mem _ hz)) (fun z hz => hv z (List.mem_cons_of_mem _ hz)) h'
      refine ⟨i1, by rw [List.length_cons]; omega, fun z hz => ?_⟩
      rcases hz with hz | hz
      · exact i3 z (.inl (metT_keys e (.inl hz)))
      · unfold varsF at hz
        rw [List.filterMap_cons] at hz
        cases ev : varT t with
        | none => rw [ev] at hz; exact i3 z (.inr hz)
        | some y =>
          rw [ev] at hz
          rcases List.mem_cons.mp hz with e2 | e2
          · exact i3 z (.inl (metT_keys e (.inr (by rw [ev, e2]))))
          · exact i3 z (.inr e2)
theorem metF_ok {b : Nat} {ts : List Term} {row : List Val} {w w' : Way} (hw : wayB b w) (ht : ∀ t ∈ ts, termB b t) (hv : rowB b row) (h : metF ts row w = some w') :
    wayB b w' ∧ w'.length ≤ w.length + ts.length ∧ ∀ z, (z ∈ w.map (·.1) ∨ z ∈ varsF ts) → z ∈ w'.map (·.1) := by
  unfold metF at h
  split at h
  · rename_i hl
    exact metZ_ok hl hw ht hv.2 h
  · cases h
theorem boundF_ok {b c : Nat} {w w' : Way} {y : Str} {v : Val} (hbc : b ≤ c) (hw : wayB b w) (gy : goodS y = true) (hv : vb c v) (h : boundF w y v = some w') : wayB c w' ∧ w'.length ≤ w.length + 1 ∧ ∀ z, (z ∈ w.map (·.1) ∨ z = y) → z ∈ w'.map (·.1) := by
  have hw' : wayB c w := ⟨fun p hp => ⟨(hw.g p hp).1, vb_mono hbc (hw.g p hp).2⟩⟩
  have hp := putG_len w y v
  have r : wayB c (putG w y v) ∧ (putG w y v).length ≤ w.length + 1 ∧ ∀ z, (z ∈ w.map (·.1) ∨ z = y) → z ∈ (putG w y v).map (·.1) := ⟨hw'.put gy hv, hp, fun z hz => put_has hz⟩
  unfold boundF at h
  cases e : valG w y with
  | none => rw [e] at h; cases h; exact r
  | some u =>
    rw [e] at h
    dsimp only at h
    split at h
    · cases h; exact r
    · cases h
theorem WyOk.up {k : List Str} {b c i : Nat} {p : Way × Rows} (h : WyOk k b i p) (hbc : b ≤ c) : WyOk k c (i + 1) p :=
  ⟨⟨fun q hq => ⟨(h.wb.g q hq).1, vb_mono hbc (h.wb.g q hq).2⟩⟩, by have := h.l; omega, h.k, Nat.le_succ_of_le h.t, fun r hr => ⟨(h.r r hr).1, fun v hv => vb_mono hbc ((h.r r hr).2 v hv)⟩⟩
/-- a literal more -/
theorem ways_step {k : List Str} {b i : Nat} {R L : Str → Rows} {found : Wys} {l : Lit} (hf : ∀ p ∈ found, WyOk k b i p) (hb : litB b l) (hk : litK k l) (h20 : 20 ≤ b) (hR : rowsB b R) (hL : rowsB b L) : ∀ p ∈ waysL R L found l, WyOk (k ++ bindsF l) (2 * b) (i + 1) p := by
  have test : ∀ {l : Lit}, litB b l → litK k l → (∀ r ts, l ≠ .fact r ts) → ∀ q ∈ found.filterMap fun p => (testF L p.1 l).map fun w => (w, p.2), WyOk (k ++ bindsF l) (2 * b) (i + 1) q := fun {l} hb hk hnf q hq => by
    obtain ⟨p, hp, e⟩ := List.mem_filterMap.mp hq
    have hpo := hf p hp
    obtain ⟨w', e2, e3⟩ := Option.map_eq_some_iff.mp e
    subst e3
    have hup := hpo.up (show b ≤ 2 * b by omega)
    cases l with
    | fact r ts => exact absurd rfl (hnf r ts)
    | neg r ts =>
      have e' : (if 0 < countF ts (L r) p.1 then none else some p.1) = some w' := e2
      split at e'
      · cases e'
      · cases e'
        refine ⟨hup.wb, hup.l, fun y hy => ?_, hup.t, hup.r⟩
        rw [show bindsF (.neg r ts) = [] from rfl, List.append_nil] at hy
        exact hup.k y hy
    | compare op s t =>
      have e' : (if cmpF op (valF p.1 s) (valF p.1 t) = true then some p.1 else none) = some w' := e2
      split at e'
      · cases e'
        refine ⟨hup.wb, hup.l, fun y hy => ?_, hup.t, hup.r⟩
        rw [show bindsF (.compare op s t) = [] from rfl, List.append_nil] at hy
        exact hup.k y hy
      · cases e'
    | is x op s t =>
      have e' : ((reckF op (valF p.1 s) (valF p.1 t)).bind fun i => boundF p.1 x (.int i)) = some w' := e2
      cases er : reckF op (valF p.1 s) (valF p.1 t) with
      | none => rw [er] at e'; cases e'
      | some n =>
        rw [er] at e'
        have hv := reck_vb (by omega) (valF_vb hpo.wb hb.2.2.1 (hasT_of hpo.k hk.1)) (valF_vb hpo.wb hb.2.2.2 (hasT_of hpo.k hk.2)) er
        obtain ⟨b1, b2, b3⟩ := boundF_ok (show b ≤ 2 * b by omega) hpo.wb hb.1 hv e'
        refine ⟨b1, by have := hpo.l; dsimp only; omega, fun y hy => ?_, hup.t, hup.r⟩
        rcases List.mem_append.mp hy with h1 | h1
        · exact b3 y (.inl (hpo.k y h1))
        · exact b3 y (.inr (List.mem_singleton.mp h1))
    | count x r ts =>
      have e' : boundF p.1 x (.int (countF ts (L r) p.1 : Int)) = some w' := e2
      have cl : countF ts (L r) p.1 ≤ 1000000 := Nat.le_trans (List.length_filter_le _ _) (hL.l r)
      obtain ⟨b1, b2, b3⟩ := boundF_ok (show b ≤ 2 * b by omega) hpo.wb hb.1 (vb_nat (by omega) cl) e'
      refine ⟨b1, by have := hpo.l; dsimp only; omega, fun y hy => ?_, hup.t, hup.r⟩
      rcases List.mem_append.mp hy with h1 | h1
      · exact b3 y (.inl (hpo.k y h1))
      · exact b3 y (.inr (List.mem_singleton.mp h1))
  cases l with
  | fact r ts =>
    intro q hq
    obtain ⟨p, hp, hq2⟩ := List.mem_flatMap.mp (show q ∈ found.flatMap fun p => (R r).filterMap fun row => (metF ts row p.1).map fun w => (w, p.2 ++ [row]) from hq)
    obtain ⟨row, hrow, e⟩ := List.mem_filterMap.mp hq2
    obtain ⟨w', e2, e3⟩ := Option.map_eq_some_iff.mp e
    subst e3
    have hpo := hf p hp
    obtain ⟨b1, b2, b3⟩ := metF_ok hpo.wb hb.2.1 (hR.g r row hrow) e2
    have hl2 := hb.2.2
    refine ⟨⟨fun z hz => ⟨(b1.g z hz).1, vb_mono (by omega) (b1.g z hz).2⟩⟩, by have := hpo.l; dsimp only; omega, fun y hy => ?_, by rw [List.length_append]; have := hpo.t; simp; omega, fun r' hr' => ?_⟩
    · rcases List.mem_append.mp hy with h1 | h1
      · exact b3 y (.inl (hpo.k y h1))
      · exact b3 y (.inr h1)
    · rcases List.mem_append.mp hr' with h1 | h1
      · exact ⟨(hpo.r r' h1).1, fun v hv => vb_mono (by omega) ((hpo.r r' h1).2 v hv)⟩
      · rw [List.mem_singleton.mp h1]
        exact ⟨(hR.g r row hrow).1, fun v hv => vb_mono (by omega) ((hR.g r row hrow).2 v hv)⟩
  | neg r ts => exact test hb hk fun _ _ e => nomatch e
  | compare op s t => exact test hb hk fun _ _ e => nomatch e
  | is x op s t => exact test hb hk fun _ _ e => nomatch e
  | count x r ts => exact test hb hk fun _ _ e => nomatch e
/-- a part of the ways found makes a part of the next ones -/
theorem waysL_app (R L : Str → Rows) (f g : Wys) (l : Lit) : waysL R L (f ++ g) l = waysL R L f l ++ waysL R L g l := by
  cases l with
  | fact r ts => exact List.flatMap_append
  | neg r ts => exact List.filterMap_append ..
  | compare op s t => exact List.filterMap_append ..
  | is x op s t => exact List.filterMap_append ..
  | count x r ts => exact List.filterMap_append ..
end Ab
set_option Elab.async false
set_option linter.all false
set_option maxRecDepth 1000000
set_option  maxHeartbeats 4000000
namespace Ab
open PySem PyProof.Rows L2
def litC (W : List (Str × Int)) (k : List Str) : Lit → Prop
  | .fact r ts => valG W r = some (ts.length : Int)
  | .neg r ts => valG W r = some (ts.length : Int)
  | .compare _ s t => hasK k s ∧ hasK k t
  | .is _ _ s t => hasK k s ∧ hasK k t
  | .count _ r ts => valG W r = some (ts.length : Int)
theorem settled_has {k : List Str} {t : Term} : hasK k (settled k t) := by
  cases t with
  | any => trivial
  | value v => trivial
  | «variable» z =>
    show hasK k (if z ∈ k then Term.variable z else .value (.int 1))
    by_cases hz : z ∈ k
    · rw [if_pos hz]; exact hz
    · rw [if_neg hz]; trivial
section
variable {K : KX} {ρ : Rho} {M : MH} {Q : Sl → MH → Prop} {te tl : TE}
/-- terms of a sort instead of terms -/
theorem w_termLP {ts : List Term} {j : Nat} {vs : List Nat} {M1 : MH} (P : Term → Prop) (hj : j ∈ vs) (hts : okTs ts) (hl : W K tl ρ M fun s M2 => s = .dat (.list (ts.map Term.enc)) ∧ M2 = M1)
    (he : ∀ x D o, x ∈ ts → M1 D = none → W K te ((wipeR ρ vs).set j (some (.dat (Term.enc x)))) (um M1 D o) fun s M' => ∃ t : Term, (t.ok ∧ P t) ∧ s = .dat t.enc ∧ M' = um M1 D o)
    (q : ∀ us, okTs us → (∀ u ∈ us, P u) → us.length = ts.length → Q (.dat (.list (us.map Term.enc))) M1) : W K (tLc (iList K.K tl) (gName j) tYes te vs) ρ M Q :=
  w_lcP1 (enc := Term.enc) (xs := ts) (M1 := M1) hj hl (by have := hts.1; omega) (fun d => ∃ t : Term, d = t.enc ∧ (t.ok ∧ P t)) (fun x D o hx hD => (he x D o hx hD).imp fun s M' ⟨t, h1, h2, h3⟩ => ⟨_, h2, ⟨t, rfl, h1⟩, h3⟩) fun ds hl hP => by
    obtain ⟨us, rfl, hus⟩ := list_enc hP
    rw [List.length_map] at hl
    exact q us ⟨by rw [hl]; exact hts.1, fun u hu => (hus u hu).1⟩ (fun u hu => (hus u hu).2) hl
end
/-- the facts of a body -/
def isF : Lit → Bool
  | .fact _ _ => true
  | _ => false
def factsN (b : List Lit) : Nat := (b.filter isF).length
theorem factsN_snoc (b : List Lit) (l : Lit) : factsN (b ++ [l]) = factsN b + (if isF l then 1 else 0) := by
  unfold factsN
  rw [List.filter_append, List.length_append]
  cases h : isF l <;> simp [h]
theorem form_fact (l : Lit) : decide (l.form = "fact") = isF l := by
  cases l with
  | fact r ts => exact decide_eq_true rfl
  | neg r ts => exact decide_eq_false (by decide +kernel : ("not" : Str) ≠ "fact")
  | compare op s t => exact decide_eq_false (by decide +kernel : ("compare" : Str) ≠ "fact")
  | is x op s t => exact decide_eq_false (by decide +kernel : ("is" : Str) ≠ "fact")
  | count x r ts => exact decide_eq_false (by decide +kernel : ("count" : Str) ≠ "fact")
theorem hasK_mono {j k : List Str} (h : ∀ z ∈ j, z ∈ k) {t : Term} (x : hasK j t) : hasK k t := by
  cases t with
  | any => exact x
  | value v => trivial
  | «variable» z => exact h z x
theorem litK_of {W : List (Str × Int)} {j k : List Str} (h : ∀ z ∈ j, z ∈ k) {l : Lit} (x : litC W j l) : litK k l := by
  cases l with
  | fact r ts => trivial
  | neg r ts => trivial
  | compare op s t => exact ⟨hasK_mono h x.1, hasK_mono h x.2⟩
  | is y op s t => exact ⟨hasK_mono h x.1, hasK_mono h x.2⟩
  | count y r ts => trivial
theorem bodyK_snoc : ∀ {k : List Str} {b : List Lit} {l : Lit}, bodyK k b → litK (k ++ b.flatMap bindsF) l → bodyK k (b ++ [l])
  | k, [], l, _, h => ⟨by rw [List.flatMap_nil, List.append_nil] at h; exact h, trivial⟩
  | k, m :: b, l, h, h2 => ⟨h.1, bodyK_snoc h.2 (by rw [List.flatMap_cons, ← List.append_assoc] at h2; exact h2)⟩
/-- widths of a literal's relation, as far as it has one -/
def litWd (W : List (Str × Int)) : Lit → Prop
  | .fact r ts => valG W r = some (ts.length : Int)
  | .neg r ts => valG W r = some (ts.length : Int)
  | .count _ r ts => valG W r = some (ts.length : Int)
  | _ => True
theorem litC.wd {W : List (Str × Int)} {k : List Str} {l : Lit} (h : litC W k l) : litWd W l := by
  cases l with
  | fact r ts => exact h
  | neg r ts => exact h
  | compare op s t => trivial
  | is y op s t => trivial
  | count y r ts => exact h
/-- how many ways there are -/
theorem waysL_len {R L : Str → Rows} {c : Nat} (hc : 1 ≤ c) (hR : ∀ z, (R z).length ≤ c) (found : Wys) (l : Lit) : (waysL R L found l).length ≤ found.length * (if isF l then c else 1) := by
  have test : ∀ f : Way → Option Way, (found.filterMap fun p => (f p.1).map fun w => (w, p.2)).length ≤ found.length * 1 := fun f => by rw [Nat.mul_one]; exact List.length_filterMap_le _ _
  cases l with
  | fact r ts =>
    show (found.flatMap fun p => (R r).filterMap fun row => (metF ts row p.1).map fun w => (w, p.2 ++ [row])).length ≤ found.length * c
    induction found with
    | nil => simp
    | cons p ps ih =>
      rw [List.flatMap_cons, List.length_append, List.length_cons, Nat.succ_mul]
      have h1 := List.length_filterMap_le (fun row => (metF ts row p.1).map fun w => (w, p.2 ++ [row])) (R r)
      have h2 := hR r
      have h3 := ih fun f => by rw [Nat.mul_one]; exact List.length_filterMap_le _ _
      omega
  | neg r ts => exact test fun w => testF L w (.neg r ts)
  | compare op s t => exact test fun w => testF L w (.compare op s t)
  | is x op s t => exact test fun w => testF L w (.is x op s t)
  | count x r ts => exact test fun w => testF L w (.count x r ts)
theorem waysF_len {R L : Str → Rows} {c : Nat} (hc : 1 ≤ c) (hR : ∀ z, (R z).length ≤ c) : ∀ b : List Lit, (waysF R L b).length ≤ c ^ factsN b := by
  suffices h : ∀ rb : List Lit, (waysF R L rb.reverse).length ≤ c ^ factsN rb.reverse from fun b => by have := h b.reverse; rwa [List.reverse_reverse] at this
  intro rb
  induction rb with
  | nil => exact Nat.le_refl _
  | cons l rb ih =>
    rw [List.reverse_cons, waysF_snoc, factsN_snoc]
    refine Nat.le_trans (waysL_len hc hR _ l) ?_
    cases h : isF l with
    | true => rw [if_pos rfl, if_pos rfl, Nat.pow_succ]; exact Nat.mul_le_mul_right _ ih
    | false => rw [if_neg Bool.false_ne_true, if_neg Bool.false_ne_true, Nat.mul_one, Nat.add_zero]; exact ih
theorem factsN_take (b : List Lit) (i : Nat) : factsN (b.take i) ≤ factsN b := by
  unfold factsN
  exact (List.Sublist.filter _ (List.take_sublist i b)).length_le
end Ab
set_option Elab.async false
set_option linter.all false
set_option maxRecDepth 1000000
set_option  maxHeartbeats 4000000
namespace L2
open PySem PySem.Spec PyProof.Rows
/-- locked for an expression, or locked already -/
def tLockU (t : TE) : TE := fun σ H Q => tLockE t σ H Q ∨ t σ H Q
theorem pe_lockU {X : Cx} {e : Expr} {t : TE} (h : PE X e t) : PE X e (tLockU t) := ⟨fun pins s σ H Q I hw => hw.elim ((pe_lock h).run pins s σ H Q I) (h.run pins s σ H Q I)⟩
/-- len of a dict that is read -/
abbrev rLenDr : List V → Hp → VK → Prop := fun xs H Q => ∃ a kvs, xs = [V.ref a] ∧ Rd H a (.dK kvs) ∧ Q (.int kvs.length) H
theorem call_lenDr {X : Cx} : CallR X (.builtin "len") rLenDr := by
  intro pins s σ H xs us Q I r h
  obtain ⟨a, kvs, rfl, ha, q⟩ := h
  obtain ⟨u, rfl, ru⟩ := vals1 r
  cases ru
  exact d_len I ha fun t s' I' => ⟨.int kvs.length, H, I', ⟨t, rfl⟩, q⟩
end L2
namespace Ab
open PySem PySem.Spec PyProof.Rows L2
theorem wl_lenDr {F : PySem.W.Frag} {M : MH} {Q : Sl → MH → Prop} {s : Sl} {kvs : List (Key × Sl)} (h : DcV F s M kvs) (q : Q (.int (kvs.length : Int)) M) : WL F rLenDr [s] M Q := fun B H vs hS o Q0 k => by
  cases o with
  | cons o1 o2 =>
    cases o2
    obtain ⟨a, us, rfl, hr, hk⟩ := h.get hS o1
    have hl : us.length = kvs.length := Paired.length hk
    exact ⟨a, us, rfl, hr, by rw [hl]; exact k _ _ M B H q (Same.refl B) hS slok_int⟩
section
variable {K : KX} {ρ : Rho} {M : MH} {Q : Sl → MH → Prop} {te td : TE} {β : Type}
/-- w_lc, here and now -/
theorem lc_at {wi : TI} {tt : TT} {j : Nat} {vs : List Nat} (hj : j ∈ vs) {σ : L2.St} {B H : Hp} {Q0 : VK} (hR : Rl K B σ ρ) (hS : Sep K B M H)
    (k : ∀ s v M' B' H', Q s M' → Same B B' → Sep K B' M' H' → SlOk K B' v s → Q0 v H')
    (h : ∀ R0 : It → Hp → Prop, (∀ n item stay M1 B' H' It, (∃ J : Nat → List PyData → MH → Prop, J 0 [] M1 ∧ (∀ i acc M', i ≤ n → J i acc M' → ∀ D o, M' D = none → stay (um M' D o)) ∧
    (∀ i acc M' D, i < n → J i acc M' → M' D = none → WT K tt ((wipeR ρ vs).set j (some (item i))) (um M' D (.lst (acc.map .dat))) fun b M3 =>
      if b = true then W K te ((wipeR ρ vs).set j (some (item i))) M3 fun s M4 => ∃ d M5, s = .dat d ∧ M4 = um M5 D (.lst (acc.map .dat)) ∧ M5 D = none ∧ acc.length < 1000000 ∧ J (i + 1) (acc ++ [d]) M5
      else ∃ M5, M3 = um M5 D (.lst (acc.map .dat)) ∧ M5 D = none ∧ J (i + 1) acc M5) ∧
    ∀ acc M', J n acc M' → Q (.dat (.list acc)) M') → Same B B' → Sep K B' M1 H' → ItOk K B' It n item stay → R0 It H') → wi σ H R0) : tLc wi (gName j) tt te vs σ H Q0 :=
  h _ fun n item stay M1 B1 H1 It ⟨J, j0, js, jt, je⟩ e1 S1 ok => fun D hD => by
    have hwp : ∀ x, wipe ((wipe σ vs).set j (some x)) vs = wipe σ vs := fun x => by rw [wipe_set _ _ _ _ hj, wipe_wipe]
    refine ⟨fun i m H' => m = n - i ∧ i ≤ n ∧ ∃ acc M' B', J i acc M' ∧ M' D = none ∧ Same B1 B' ∧ Sep K B' (um M' D (.lst (acc.map .dat))) H', ⟨n, by simp, Nat.zero_le _, [], M1, B1, j0, S1.freeM hD, Same.refl _, S1.new hD ⟨[], rfl, .nil⟩⟩, ?_⟩
    rintro i m H' ⟨rfl, hi, acc, M', B', hj', hMD, e2, S2⟩
    by_cases hlt : i < n
    · refine .inr ⟨ok.go i B' _ H' hlt e2 S2 (js i acc M' hi hj' D _ hMD), fun H2 => ∃ acc M2 B2, J (i + 1) acc M2 ∧ M2 D = none ∧ Same B1 B2 ∧ Sep K B2 (um M2 D (.lst (acc.map .dat))) H2, fun H2 ⟨acc, M2, B2, q⟩ => ⟨n - (i + 1), by omega, rfl, hlt, acc, M2, B2, q⟩, fun x H3 y => ?_⟩
      obtain ⟨B3, e3, S3, o3⟩ := ok.yld i B' _ H' x H3 hlt e2 S2 (js i acc M' hi hj' D _ hMD) y
      refine ⟨hwp x, ?_⟩
      have R3 : Rl K B3 ((wipe σ vs).set j (some x)) ((wipeR ρ vs).set j (some (item i))) := Rl.put o3 j ((hR.mono ((e1.trans e2).trans e3)).wiped vs)
      refine jt i acc M' D hlt hj' hMD _ B3 H3 R3 S3 _ fun b M4 B4 H4 q4 e4 S4 => ?_
      have e14 := (e2.trans e3).trans e4
      cases b with
      | true =>
        refine q4 _ B4 H4 (R3.mono e4) S4 _ fun s v M5 B5 H5 ⟨d, M6, es, em, hn6, hl6, hj6⟩ e5 S5 o5 => ?_
        subst es em
        obtain ⟨_, u, hu, ws, rfl, ha⟩ := S5.has D _ um_same
        have hlen := SlAll.len ha
        rw [List.length_map] at hlen
        refine ⟨ws, hu, Nat.lt_of_lt_of_le (by omega) (show 1000000 ≤ sizeLine by decide), acc ++ [d], M6, B5, hj6, hn6, e14.trans e5, ?_⟩
        have S6 := S5.put (u := .lst (ws ++ [v])) (o' := .lst ((acc ++ [d]).map .dat)) um_same ⟨_, rfl, by rw [List.map_append]; exact SlAll.app ha (.cons o5 .nil)⟩
        rw [um_um] at S6
        exact S6
      | false =>
        obtain ⟨M5, em, hn5, hj5⟩ := q4
        subst em
        exact ⟨acc, M5, B4, hj5, hn5, e14, S4⟩
    · have ei : i = n := by omega
      subst ei
      refine .inl ⟨ok.stop i B' _ H' (Nat.le_refl _) e2 S2 (js i acc M' hi hj' D _ hMD), ?_⟩
      obtain ⟨hB, u, hu, ws, rfl, ha⟩ := S2.has D _ um_same
      have S3 := S2.freeze um_same hu
      rw [del_um hMD] at S3
      exact k _ _ M' _ H' (je acc M' hj') ((e1.trans e2).trans (same_new hB)) S3 (lst_ok (dpa_of ha) hB)
theorem dqk_keys {F : PySem.W.Frag} {B : Hp} {f : β → PyData} : ∀ {vs : List (Key × V)} {w : List (Str × β)}, DqKs F B vs (w.map fun p => (.str p.1, f p.2)) → vs.map (·.1) = (w.map (·.1)).map Sum.inr
  | _, [], h => by cases h; rfl
  | _, p :: w, h => by
    cases h with
    | @cons k v vs _ _ _ hx h1 h2 =>
      show k :: vs.map (·.1) = Sum.inr p.1 :: _
      rw [dqk_keys h2]
      cases k with
      | inl i => exact nomatch hx
      | inr x => injection hx with hx; rw [hx]
/-- [te for x in d], d data that stands locked -/
theorem lcKeysAt {i j : Nat} {vs : List Nat} {ns : List Str} {σ : L2.St} {B H : Hp} {a : Addr} {od : Obj} {kvs : List (Key × V)} {Q0 : VK} (hj : j ∈ vs) (hR : Rl K B σ ρ) (hS : Sep K B M H) (hv : σ[i]? = some (some (.ref a))) (hB : B a = some (.frz od (.dK kvs)))
    (hk : kvs.map (·.1) = ns.map Sum.inr) (hz : ns.length ≤ 1000000) (g : Str → PyData)
    (he : ∀ n D o, n ∈ ns → M D = none → W K te ((wipeR ρ vs).set j (some (.str n))) (um M D o) fun s M' => s = .dat (g n) ∧ M' = um M D o)
    (k : ∀ v B' H', Same B B' → Sep K B' M H' → SlOk K B' v (.dat (.list (ns.map g))) → Q0 v H') : tLc (iKeys (tVar i)) (gName j) tYes te vs σ H Q0 := by
  have hl : kvs.length = ns.length := by simpa using congrArg List.length hk
  refine lc_at (Q := fun s M' => s = .dat (.list (ns.map g)) ∧ M' = M) hj hR hS (fun s v M' B' H' ⟨e1, e2⟩ e S o => by subst e1 e2; exact k v B' H' e S o) fun R0 r => ?_
  refine ⟨_, hv, a, od, rfl, .inl ⟨kvs, hS.sub _ _ hB, ?_⟩⟩
  refine r ns.length (fun m => .str (ns.getD m "")) (fun _ => True) M B H _ ⟨fun m acc M' => M' = M ∧ acc = (ns.take m).map g, ⟨rfl, rfl⟩, fun _ _ _ _ _ _ _ _ => trivial, fun m acc M' D hm ⟨e1, e2⟩ hD => ?_, fun acc M' ⟨e1, e2⟩ => ⟨by rw [e2, List.take_length], e1⟩⟩ (Same.refl B) hS ⟨fun m B2 M2 H2 hm e S _ => ⟨S.sub _ _ (e _ _ hB), by omega⟩, fun m B2 M2 H2 x H3 hm e S _ y => ?_, fun m B2 M2 H2 hm e S _ => ⟨S.sub _ _ (e _ _ hB), by omega⟩⟩
  · subst e1 e2
    have gm : ns.getD m "" = ns[m] := by rw [List.getD_eq_getElem?_getD, List.getElem?_eq_getElem hm]; rfl
    refine wt_yes ?_
    rw [if_pos rfl]
    dsimp only
    rw [gm]
    refine (he ns[m] D _ (List.getElem_mem hm) hD).imp fun s M5 ⟨e1, e2⟩ => ⟨_, _, e1, e2, hD, ?_, rfl, ?_⟩
    · rw [List.length_map, List.length_take]; omega
    · rw [List.take_succ_eq_append_getElem hm, List.map_append]; rfl
  · obtain ⟨rfl, kk, vv, hk2, rfl⟩ := y
    have h1 : (kvs.map (·.1))[m]? = some kk := by rw [List.getElem?_map, hk2]; rfl
    rw [hk, List.getElem?_map, List.getElem?_eq_getElem hm] at h1
    cases h1
    refine ⟨B2, Same.refl _, S, ?_⟩
    rw [List.getD_eq_getElem?_getD, List.getElem?_eq_getElem hm]
    exact slok_str
theorem Rl0.re {F : PySem.W.Frag} {B B' : Hp} (e : Re B B') : ∀ {σ : L2.St} {ρ : Rho}, Rl0 F B σ ρ → Rl0 F B' σ ρ
  | [], [], _ => trivial
  | _ :: _, _ :: _, ⟨h, t⟩ => ⟨fun s q => let ⟨v, e1, e2⟩ := h s q; ⟨v, e1, e2.re e⟩, Rl0.re e t⟩
theorem re_upd {B : Hp} {a : Addr} {u v : HO} {kvs : List (Key × V)} (h : B a = some u) (hu : Rd B a (.dK kvs)) (hv : v = .dK kvs ∨ ∃ o, v = .frz o (.dK kvs)) : Re B (upd B a v) := fun b o e => by
  by_cases hb : b = a
  · subst hb
    refine .inr ⟨kvs, hu, ?_⟩
    rcases hv with rfl | ⟨o, rfl⟩
    · exact .inl upd_same
    · exact .inr ⟨o, upd_same⟩
  · exact .inl (by rw [upd_ne hb]; exact e)
theorem Sep.reUpd {F : PySem.W.Frag} {B H : Hp} {a : Addr} {u v : HO} {kvs : List (Key × V)} (S : Sep F B M H) (h : B a = some u) (hu : Rd B a (.dK kvs)) (hv : v = .dK kvs ∨ ∃ o, v = .frz o (.dK kvs)) : Sep F (upd B a v) M (upd H a v) := by
  refine ⟨fun b o e => ?_, fun b o e => ?_⟩
  · by_cases hb : b = a
    · subst hb; rw [upd_same] at e ⊢; exact e
    · rw [upd_ne hb] at e ⊢; exact S.sub _ _ e
  · obtain ⟨hB, x, hx, hm⟩ := S.has b o e
    have hb : b ≠ a := fun z => by rw [z, h] at hB; cases hB
    exact ⟨by rw [upd_ne hb]; exact hB, x, by rw [upd_ne hb]; exact hx, hm.re (re_upd h hu hv)⟩
/-- [te for x in d], d data -/
theorem w_lcKeysD {F : PySem.W.Frag} {f : β → PyData} {w : List (Str × β)} {i j : Nat} {vs : List Nat} (hj : j ∈ vs) (hi : ρ[i]? = some (some (.dat (encD f w)))) (hz : w.length ≤ 1000000) (g : Str → PyData)
    (he : ∀ n D o, n ∈ w.map (·.1) → M D = none → W (KX.pure F) te ((wipeR ρ vs).set j (some (.str n))) (um M D o) fun s M' => s = .dat (g n) ∧ M' = um M D o)
    (q : Q (.dat (.list ((w.map (·.1)).map g))) M) : W (KX.pure F) (tLockU (tLc (iKeys (tVar i)) (gName j) tYes te vs)) ρ M Q := fun σ B H hR hS Q0 k => by
  obtain ⟨v, hv, ov⟩ := hR.get hi
  have ov' : Dq F B v (.dict (w.map fun p => (.str p.1, f p.2))) := ov
  cases ov' with
  | @dct a kvs _ hh ha =>
    have hk := dqk_keys ha
    have hz' : (w.map (·.1)).length ≤ 1000000 := by rw [List.length_map]; exact hz
    rcases hh with hB | ⟨od, hB⟩
    · left
      refine ⟨a, .dK kvs, hS.sub _ _ hB, trivial, fun od => ?_⟩
      have re1 : Re B (upd B a (.frz od (.dK kvs))) := re_upd hB (.inl hB) (.inr ⟨od, rfl⟩)
      have S1 : Sep F (upd B a (.frz od (.dK kvs))) M (upd H a (.frz od (.dK kvs))) := hS.reUpd hB (.inl hB) (.inr ⟨od, rfl⟩)
      have R1 : Rl (KX.pure F) (upd B a (.frz od (.dK kvs))) σ ρ := ⟨hR.r.re re1, fun _ _ _ _ _ _ _ q => q.elim⟩
      refine lcKeysAt hj R1 S1 hv upd_same hk hz' g he fun x B2 H2 e S2 o => ?_
      have hB2 : B2 a = some (.frz od (.dK kvs)) := e _ _ upd_same
      refine ⟨S2.sub _ _ hB2, k _ x M (upd B2 a (.dK kvs)) (upd H2 a (.dK kvs)) q (fun b u hb => ?_) (S2.reUpd hB2 (.inr ⟨od, hB2⟩) (.inl rfl)) (SlOk.re (re_upd hB2 (.inr ⟨od, hB2⟩) (.inl rfl)) o)⟩
      by_cases hba : b = a
      · subst hba; rw [upd_same]; rw [hB] at hb; exact hb
      · rw [upd_ne hba]; exact e _ _ (by rw [upd_ne hba]; exact hb)
    · right
      exact lcKeysAt hj hR hS hv hB hk hz' g he fun x B2 H2 e S2 o => k _ x M B2 H2 q e S2 o
end
section
variable {K : KX} {ρ : Rho} {M : MH} {nx bk ct : Rho → MH → Prop} {rt : Sl → MH → Prop}
theorem putG_new {κ α : Type} [DecidableEq κ] {k : κ} {x : α} {kvs : List (κ × α)} (h : k ∉ kvs.map (·.1)) : putG kvs k x = kvs ++ [(k, x)] := by
  unfold putG
  rw [if_neg]
  intro hc
  obtain ⟨p, hp, e⟩ := List.any_eq_true.mp hc
  exact h (by rw [← of_decide_eq_true e]; exact List.mem_map_of_mem hp)
theorem slks_split {F : PySem.W.Frag} {B : Hp} {k : Key} {s : Sl} : ∀ {l r : List (Key × Sl)} {vs : List (Key × V)}, SlKs F B vs (l ++ (k, s) :: r) → ∃ vl v vr, vs = vl ++ (k, v) :: vr ∧ SlKs F B vl l ∧ SlOk F B v s ∧ SlKs F B vr r
  | [], r, _, h => by
    cases h with
    | @cons p _ vr _ h1 h2 =>
      obtain ⟨k1, v1⟩ := p
      obtain ⟨e, o⟩ := h1
      have e' : k1 = k := e
      subst e'
      exact ⟨[], v1, vr, rfl, .nil, o, h2⟩
  | q :: l, r, _, h => by
    cases h with
    | @cons p _ vr _ h1 h2 =>
      obtain ⟨vl, v, vr, e, a1, a2, a3⟩ := slks_split h2
      exact ⟨p :: vl, v, vr, by rw [e]; rfl, .cons h1 a1, a2, a3⟩
theorem slks_join {F : PySem.W.Frag} {B : Hp} {k : Key} {v : V} {s : Sl} {l r : List (Key × Sl)} {vl vr : List (Key × V)} (h1 : SlKs F B vl l) (h2 : SlOk F B v s) (h3 : SlKs F B vr r) : SlKs F B (vl ++ (k, v) :: vr) (l ++ (k, s) :: r) := by
  induction h1 with
  | nil => exact .cons ⟨rfl, h2⟩ h3
  | cons h _ ih => exact .cons h ih
/-- a list in a dict will not be changed any more -/
theorem Sep.frzIn {F : PySem.W.Frag} {B H : Hp} {a b : Addr} {kvs : List (Key × Sl)} {k : Key} {ds : List PyData} (S : Sep F B M H) (hab : b ≠ a) (ha : M a = some (.dK (kvs ++ [(k, .raw (.ref b))]))) (hb : M b = some (.lst (ds.map .dat))) :
    ∃ B', Same B B' ∧ Sep F B' (um (del M b) a (.dK (kvs ++ [(k, .dat (.list ds))]))) H := by
  obtain ⟨hB, u, hu, vs, rfl, hv⟩ := S.has b _ hb
  have e : Same B (upd B b (.lst vs)) := same_new hB
  have S1 := S.freeze hb hu
  refine ⟨_, e, ?_⟩
  have ha1 : del M b a = some (.dK (kvs ++ [(k, .raw (.ref b))])) := by rw [del_ne hab.symm]; exact ha
  obtain ⟨hB2, u2, hu2, ws, rfl, hw⟩ := S1.has a _ ha1
  obtain ⟨vl, v, vr, rfl, a1, a2, a3⟩ := slks_split hw
  have ev : v = .ref b := a2
  subst ev
  refine ⟨S1.sub, fun c o hc => ?_⟩
  by_cases hca : c = a
  · subst hca
    rw [um_same] at hc
    cases hc
    exact ⟨hB2, _, hu2, _, rfl, slks_join a1 (lst_ok (dpa_of hv) hB) a3⟩
  · rw [um_ne hca] at hc
    exact S1.has c o hc
theorem ws_frzIn {t : TS} (h : WS K t ρ M ⟨fun ρ' M' => ∃ a b kvs k ds, b ≠ a ∧ M' a = some (.dK (kvs ++ [(k, .raw (.ref b))])) ∧ M' b = some (.lst (ds.map .dat)) ∧ nx ρ' (um (del M' b) a (.dK (kvs ++ [(k, .dat (.list ds))]))), rt, bk, ct⟩) : WS K t ρ M ⟨nx, rt, bk, ct⟩ := fun σ B H D hR hS p1 p2 p3 p4 =>
  h σ B H D hR hS (fun ρ' M' σ' B' H' ⟨a, b, kvs, k, ds, hab, ha, hb, q⟩ e R S => by
    obtain ⟨B2, e2, S2⟩ := S.frzIn hab ha hb
    exact p1 ρ' _ σ' B2 H' q (e.trans e2) (R.mono e2) S2) p2 p3 p4
/-- a, b = x, y -/
theorem ws_par {i j : Nat} {ta : TA} (h : WA K ta ρ M fun xs M1 => ∃ s1 s2, xs = [s1, s2] ∧ nx ((ρ.set i (some s1)).set j (some s2)) M1) : WS K (tPar i j ta) ρ M ⟨nx, rt, bk, ct⟩ := fun σ B H D hR hS p1 p2 p3 p4 =>
  h σ B H hR hS _ fun ss vs M' B' H' ⟨s1, s2, es, q⟩ e S o => by
    subst es
    cases o with
    | cons o1 o2 =>
      cases o2 with
      | cons o2 o3 =>
        cases o3
        exact ⟨_, _, rfl, p1 _ M' _ B' H' q e (Rl.put o2 j (Rl.put o1 i (hR.mono e))) S⟩
end
end Ab
set_option Elab.async false
set_option linter.all false
set_option maxRecDepth 1000000
set_option  maxHeartbeats 4000000
namespace Ab
open PySem PySem.Spec PyProof.Rows L2
section
variable {X : Cx} {pins : List (Addr × Obj)} {σ : L2.St} {H : Hp} {s : Shared}
theorem ravL {v : Value} {us : List Value} {x : PyData} {ds : List PyData} {P : Program} {w : World} {h : Heap}
    (a : (∃ as, Reads h v x as) ∧ ∃ bs, ReadAtMost h x.depth bs ∧ ReprK P w bs h x.depth v x.shown)
    (b : (∃ as, ReadsAll h us ds as) ∧ ∃ bs, ReadAtMost h (PyData.depthAll ds) bs ∧ ReprAllK P w bs h (PyData.depthAll ds) us (PyData.shownAll ds)) :
    (∃ as, ReadsAll h (v :: us) (x :: ds) as) ∧ ∃ bs, ReadAtMost h (PyData.depthAll (x :: ds)) bs ∧ ReprAllK P w bs h (PyData.depthAll (x :: ds)) (v :: us) (PyData.shownAll (x :: ds)) := by
  obtain ⟨⟨as, r⟩, b1, hb1, k1⟩ := a
  obtain ⟨⟨as', r'⟩, b2, hb2, k2⟩ := b
  refine ⟨⟨_, .cons r r'⟩, b1 ++ b2, ?_, ?_⟩
  · simp only [PyData.depthAll]
    exact (hb1.mono (Nat.le_max_left _ _)).append (hb2.mono (Nat.le_max_right _ _))
  · simp only [PyData.depthAll, PyData.shownAll]
    exact .cons ((k1.more fun b hb => List.mem_append_left _ hb).level_le (Nat.le_max_left _ _)) (k2.more_le (fun b hb => List.mem_append_right _ hb) (Nat.le_max_right _ _))
theorem reprEK_more {P : Program} {w : World} {h : Heap} {as as' : List Addr} {d d' : Nat} (hsub : ∀ b ∈ as, b ∈ as') (hd : d ≤ d') : ∀ {l : List DictEntry} {ts : List Str}, ReprEntriesK P w as h d l ts → ReprEntriesK P w as' h d' l ts
  | _, _, .nil => .nil
  | _, _, .cons k v r => .cons ((k.more hsub).level_le hd) ((v.more hsub).level_le hd) (reprEK_more hsub hd r)
theorem key_rd {P : Program} {w : World} {h : Heap} {k : Key} {u : Value} (e : keyIs k u = true) (hs : (kD k).showable = true) (hz : (kD k).shown.length ≤ sizeLine) : (∃ as, Reads h u (kD k) as) ∧ ReprK P w [] h (kD k).depth u (kD k).shown := by
  rcases keyIs_shape e with ⟨i, t, rfl, rfl⟩ | ⟨x, t, rfl, rfl⟩
  · refine ⟨⟨_, Reads.int i t⟩, ?_⟩
    show ReprK P w [] h _ _ (PyData.int i).shown
    simp only [PyData.shown]
    exact .of_is (ReprIs.int t (by simpa [kD, PyData.showable] using hs)) _ _ _
  · refine ⟨⟨_, Reads.str x t⟩, ?_⟩
    show ReprK P w [] h _ _ (PyData.str x).shown
    simp only [PyData.shown]
    exact .of_is (ReprIs.str x t (by simpa only [kD, PyData.shown] using hz)) _ _ _
mutual
theorem Dq.rd (I : Inv X pins σ H s) : ∀ (d : PyData) (v : V) (u : Value), Dq X.K H v d → RelV v u → d.showable = true → d.shown.length ≤ sizeLine →
    (∃ as, Reads s.heap u d as) ∧ ∃ bs, ReadAtMost s.heap d.depth bs ∧ ReprK X.prog X.w bs s.heap d.depth u d.shown
  | .none, _, _, h, r, _, _ => by
    cases h
    cases r
    exact ⟨⟨_, Reads.none⟩, [], (fun _ h => nomatch h), by simp only [PyData.shown]; exact .of_is ReprIs.none _ _ _⟩
  | .bool b, _, _, h, r, _, _ => by
    cases h
    cases r
    exact ⟨⟨_, Reads.bool b⟩, [], (fun _ h => nomatch h), by simp only [PyData.shown]; exact .of_is (ReprIs.bool b) _ _ _⟩
  | .int i, _, _, h, r, hs, _ => by
    cases h
    obtain ⟨t, rfl⟩ := r
    exact ⟨⟨_, Reads.int i t⟩, [], (fun _ h => nomatch h), by simp only [PyData.shown]; exact .of_is (ReprIs.int t (by simpa [PyData.showable] using hs)) _ _ _⟩
  | .str x, _, _, h, r, _, hz => by
    cases h
    obtain ⟨t, rfl⟩ := r
    exact ⟨⟨_, Reads.str x t⟩, [], (fun _ h => nomatch h), by simp only [PyData.shown]; exact .of_is (ReprIs.str x t (by simpa only [PyData.shown] using hz)) _ _ _⟩
  | .list ds, _, _, h, r, hs, hz => by
    cases h with
    | @lst a xs _ hh ha =>
      cases r
      have hz' : (listText (PyData.shownAll ds)).length ≤ sizeLine := by simpa only [PyData.shown] using hz
      obtain ⟨its, rv, ⟨o, n, ho, hc, _, hd⟩, _⟩ := I.list (a := a) (xs := xs) (.inl (.inl hh))
      obtain ⟨⟨as, hr⟩, bs, hb, hk⟩ := Dq.rdAll I ds _ its ha rv (by simpa [PyData.showable] using hs) (fun t ht => Nat.le_trans (listText_mem_le ht) hz')
      have r := Reads.list ho hc hd (by simpa using hr)
      have hna : a ∉ bs := not_mem_of_deeper r (by simp only [PyData.depth]; omega) hb
      refine ⟨⟨_, r⟩, a :: bs, ReadAtMost.cons r (by simp only [PyData.depth]; omega) hb, ?_⟩
      simp only [PyData.depth, PyData.shown]
      cases its with
      | nil =>
        have hr' : ReadsAll s.heap [] ds _ := hr
        cases hr'
        simp only [PyData.shownAll, listText_nil]
        exact ReprK.listEmpty ho hc hd
      | cons x l => exact ReprK.list ho hc hd hna (by simpa using hk.length_eq) (fun i y e => hk.item i y (by simpa using e))
  | .tuple ds, _, _, h, r, hs, hz => by
    cases h with
    | @tup a xs _ hh ha =>
      cases r
      have hz' : (tupleText (PyData.shownAll ds)).length ≤ sizeLine := by simpa only [PyData.shown] using hz
      obtain ⟨its, rv, ⟨o, ho, hc, n, hd⟩, _⟩ := I.tuple hh
      obtain ⟨⟨as, hr⟩, bs, hb, hk⟩ := Dq.rdAll I ds _ its ha rv (by simpa [PyData.showable] using hs) (fun t ht => Nat.le_trans (tupleText_mem_le ht) hz')
      have r := Reads.tuple ho hc hd (by simpa using hr)
      have hna : a ∉ bs := not_mem_of_deeper r (by simp only [PyData.depth]; omega) hb
      refine ⟨⟨_, r⟩, a :: bs, ReadAtMost.cons r (by simp only [PyData.depth]; omega) hb, ?_⟩
      simp only [PyData.depth, PyData.shown]
      exact ReprK.tuple ho hc hd hna (by simpa using hk)
  | .dict kvs, _, _, h, r, hs, hz => by
    cases h with
    | @dct a vs _ hh ha =>
      cases r
      have hz' : (dictText (PyData.shownKv kvs)).length ≤ sizeLine := by simpa only [PyData.shown] using hz
      obtain ⟨_, hsys, vals, rel, o, es, ep, ho, hx, hd, _, hp, _⟩ := dk_rd I.hok hh
      obtain ⟨⟨as1, r1⟩, ⟨as2, r2⟩, bs, hb, hk⟩ := Dq.rdKs I kvs _ vals es.toList ha rel hp (by simpa [PyData.showable] using hs) (fun t ht => Nat.le_trans (dictText_mem_le ht) hz')
      have r := Reads.dict ho hx.1 hd r1 r2
      have hna : a ∉ bs := not_mem_of_deeper r (by simp only [PyData.depth]; omega) hb
      refine ⟨⟨_, r⟩, a :: bs, ReadAtMost.cons r (by simp only [PyData.depth]; omega) hb, ?_⟩
      simp only [PyData.depth, PyData.shown]
      exact ReprK.dict ho hx.1 hd hsys hna hk
theorem Dq.rdAll (I : Inv X pins σ H s) : ∀ (ds : List PyData) (vs : List V) (us : List Value), DqAll X.K H vs ds → Vals vs us → PyData.showableAll ds = true → (∀ t ∈ PyData.shownAll ds, t.length ≤ sizeLine) →
    (∃ as, ReadsAll s.heap us ds as) ∧ ∃ bs, ReadAtMost s.heap (PyData.depthAll ds) bs ∧ ReprAllK X.prog X.w bs s.heap (PyData.depthAll ds) us (PyData.shownAll ds)
  | [], _, _, h, r, _, _ => by
    cases h
    cases r
    exact ⟨⟨_, ReadsAll.nil⟩, [], (fun _ h => nomatch h), by simp only [PyData.shownAll]; exact .nil⟩
  | d :: ds, _, _, h, r, hs, hz => by
    cases h with
    | cons h1 h2 =>
      cases r with
      | cons r1 r2 =>
        have hs' : d.showable = true ∧ PyData.showableAll ds = true := by simpa [PyData.showableAll] using hs
        exact ravL (Dq.rd I d _ _ h1 r1 hs'.1 (hz _ (by simp only [PyData.shownAll]; exact List.mem_cons_self ..))) (Dq.rdAll I ds _ _ h2 r2 hs'.2 fun t ht => hz t (by simp only [PyData.shownAll]; exact List.mem_cons_of_mem _ ht))
theorem Dq.rdKs (I : Inv X pins σ H s) : ∀ (ds : List (PyData × PyData)) (vs : List (Key × V)) (us : List (Key × Value)) (es : List DictEntry), DqKs X.K H vs ds → KV vs us → Pairs (mixKind X.prog X.w) es us → PyData.showableKv ds = true → (∀ t ∈ PyData.shownKv ds, t.length ≤ sizeLine) →
    (∃ as, ReadsAll s.heap (es.map (·.key)) (ds.map (·.1)) as) ∧ (∃ as, ReadsAll s.heap (es.map (·.val)) (ds.map (·.2)) as) ∧ ∃ bs, ReadAtMost s.heap (PyData.depthKv ds) bs ∧ ReprEntriesK X.prog X.w bs s.heap (PyData.depthKv ds) es (PyData.shownKv ds)
  | [], _, _, _, h, r, p, _, _ => by
    cases h
    cases r
    cases p
    exact ⟨⟨_, ReadsAll.nil⟩, ⟨_, ReadsAll.nil⟩, [], (fun _ h => nomatch h), by simp only [PyData.shownKv]; exact .nil⟩
  | (x, d) :: ds, _, _, _, h, r, p, hs, hz => by
    cases h with
    | @cons k v vs _ _ _ hx h1 h2 =>
      cases r with
      | @cons _ q _ us r1 r2 =>
        cases p with
        | @cons e _ es _ p1 p2 p3 =>
          subst hx
          obtain ⟨k', u⟩ := q
          obtain ⟨rfl, r1⟩ := r1
          have hs' : ((kD k).showable = true ∧ d.showable = true) ∧ PyData.showableKv ds = true := by simpa [PyData.showableKv] using hs
          have hz1 := hz ((kD k).shown ++ ": " ++ d.shown) (by simp only [PyData.shownKv]; exact List.mem_cons_self ..)
          rw [strLen_append, strLen_append] at hz1
          obtain ⟨⟨as, rk⟩, kk⟩ := key_rd (P := X.prog) (w := X.w) (h := s.heap) (show keyIs k e.key = true from p1) hs'.1.1 (by omega)
          obtain ⟨⟨as1, rv⟩, b1, hb1, kv⟩ := Dq.rd I d _ _ h1 r1 hs'.1.2 (by omega)
          obtain ⟨⟨as2, q1⟩, ⟨as3, q2⟩, b2, hb2, kr⟩ := Dq.rdKs I ds _ _ _ h2 r2 p3 hs'.2 fun t ht => hz t (by simp only [PyData.shownKv]; exact List.mem_cons_of_mem _ ht)
          have p2' : e.val = u := p2
          refine ⟨⟨_, .cons rk q1⟩, ⟨_, .cons (show Reads s.heap e.val d as1 by rw [p2']; exact rv) q2⟩, b1 ++ b2, ?_, ?_⟩
          · simp only [PyData.depthKv]
            exact (hb1.mono (by omega)).append (hb2.mono (by omega))
          · simp only [PyData.depthKv, PyData.shownKv]
            exact .cons ((kk.more fun _ h => nomatch h).level_le (by omega)) (by rw [p2']; exact (kv.more fun b hb => List.mem_append_left _ hb).level_le (by omega)) (reprEK_more (fun b hb => List.mem_append_right _ hb) (by omega) kr)
end
/-- repr of a list, of a tuple -/
def rRepr (K : PySem.W.Frag) : List V → Hp → VK → Prop := fun vs H Q => ∃ v d, vs = [v] ∧ Dq K H v d ∧ ((∃ ds, d = .list ds) ∨ ∃ ds, d = .tuple ds) ∧ d.showable = true ∧ d.depth ≤ 60 ∧ d.shown.length ≤ sizeLine ∧ Q (.str d.shown) H
theorem call_reprD (hg : X.A.guards = some []) (hu : X.A.units + 64 < cLine) : CallR X (.builtin "repr") (rRepr X.K) := by
  intro pins s σ H xs us Q I rv h
  obtain ⟨v, d, rfl, hd, hk, hs, hdep, hz, q⟩ := h
  cases rv with
  | cons r1 r2 =>
    cases r2
    have fin : ∀ h' u tk, (∀ b o, s.heap.get? b = some o → h'.get? b = some o) → EP X pins σ Q (.str d.shown u) { s with heap := h', toks := tk } := fun h' u tk k => ⟨.str d.shown, H, I.kept k, ⟨u, rfl⟩, q⟩
    rcases hk with ⟨ds, rfl⟩ | ⟨ds, rfl⟩
    · cases hd with
      | @lst a xs _ hh ha =>
        cases r1
        have hz' : (listText (PyData.shownAll ds)).length ≤ sizeLine := by simpa only [PyData.shown] using hz
        obtain ⟨its, rv, ⟨o, n, ho, hc, _, hd⟩, _⟩ := I.list (a := a) (xs := xs) (.inl (.inl hh))
        obtain ⟨⟨as, hr⟩, bs, hb, hk⟩ := Dq.rdAll I ds _ its ha rv (by simpa [PyData.showable] using hs) (fun t ht => Nat.le_trans (listText_mem_le ht) hz')
        have r := Reads.list ho hc hd (by simpa using hr)
        have hna : a ∉ bs := not_mem_of_deeper r (by simp only [PyData.depth]; omega) hb
        simp only [PyData.depth] at hdep
        simp only [PyData.shown] at fin
        refine call_repr_slot (by omega) ⟨o, ho, hc⟩ F.slot_list_repr.toG ?_
        cases its with
        | nil =>
          have hr' : ReadsAll s.heap [] ds _ := hr
          cases hr'
          simp only [PyData.shownAll, listText_nil] at fin
          exact call_list_repr_empty ⟨o, ho, hc⟩ ho hd ⟨_, _, rfl, fin s.heap _ _ fun _ _ e => e⟩
        | cons x l =>
          exact call_list_reprK ho hc hd hna (by simpa using hk.length_eq) (fun i y e => hk.item i y (by simpa using e)) hg (fun b _ => Clear.nil b) (by show X.A.units + 1 + _ < cLine; omega) (fun _ _ e => e) (fun h' u tk k => ⟨_, _, rfl, fin h' u tk k⟩) hz'
    · cases hd with
      | @tup a xs _ hh ha =>
        cases r1
        have hz' : (tupleText (PyData.shownAll ds)).length ≤ sizeLine := by simpa only [PyData.shown] using hz
        obtain ⟨its, rv, ⟨o, ho, hc, n, hd⟩, _⟩ := I.tuple hh
        obtain ⟨⟨as, hr⟩, bs, hb, hk⟩ := Dq.rdAll I ds _ its ha rv (by simpa [PyData.showable] using hs) (fun t ht => Nat.le_trans (tupleText_mem_le ht) hz')
        have r := Reads.tuple ho hc hd (by simpa using hr)
        have hna : a ∉ bs := not_mem_of_deeper r (by simp only [PyData.depth]; omega) hb
        simp only [PyData.depth] at hdep
        simp only [PyData.shown] at fin
        refine call_repr_slot (by omega) ⟨o, ho, hc⟩ F.slot_tuple_repr ?_
        exact call_tuple_reprK ho hc hd hna (by simpa using hk) hg (fun b _ => Clear.nil b) (by show X.A.units + 1 + _ < cLine; omega) (fun _ _ e => e) (fun h' u tk k => ⟨_, _, rfl, fin h' u tk k⟩) hz'
end
section
variable {K : PySem.W.Frag} {M : MH} {Q : Sl → MH → Prop}
theorem wl_repr {d : PyData} (hk : (∃ ds, d = .list ds) ∨ ∃ ds, d = .tuple ds) (hs : d.showable = true) (hd : d.depth ≤ 60) (hz : d.shown.length ≤ sizeLine) (q : Q (.dat (.str d.shown)) M) : WL K (rRepr K) [.dat d] M Q := fun B H vs hS o Q0 k => by
  cases o with
  | cons o1 o2 =>
    cases o2
    exact ⟨_, d, rfl, dp_same hS.sub d _ o1, hk, hs, hd, hz, k _ _ M B H q (Same.refl B) hS slok_str⟩
theorem w2_neT {x y : Str} (q : Q (.bl (!decide (x = y))) M) : W2 K rNe (.dat (.str x)) (.dat (.str y)) M Q := fun B H v w hS o1 o2 Q0 k => by
  rw [of_str o1, of_str o2]
  refine ⟨rfl, ?_⟩
  rw [show (decide (V.str x = V.str y)) = decide (x = y) from by simp]
  exact k _ _ M B H q (Same.refl B) hS slok_bl
end
end Ab
set_option Elab.async false
set_option linter.all false
set_option maxRecDepth 1000000
set_option  maxHeartbeats 4000000
namespace Ab
open PySem PySem.Spec PyProof.Rows L2
/-- as FnOk, where nothing guards -/
structure FnU (P : Program) (w : World) (K : PySem.W.Frag) (mg : Str → Option Value) (base : Heap) (k : Nat) (f : Addr) (fd : FuncData) (ps : List Str) (sp : Sp) : Prop where
  len : ∀ vs H Q E, sp vs H Q E → vs.length = ps.length
  run : ∀ (A : Around) (outer : List Env) (s : Shared) (H : Hp) (args : Args) (us : List Value) (vs : List V) (Q : VK) (E : XK), A.guards = some [] → Room k A → Env0 P w K mg base A outer s H → BindsTo s fd args (ps.zip us) → Vals vs us → sp vs H Q E →
    codeAny (model P w) A (.call (.ref f) args) (CR CX0 outer P w H s Q E) s
section
variable {P : Program} {w : World} {K : PySem.W.Frag} {mg : Str → Option Value} {base : Heap}
theorem ab_okG {x qual : Str} {st : Stmt} {f : Addr} {fd : FuncData} {N ps : List Str} {k : Nat} {A : ASp} (F : Fun K x qual st f fd) (S : FnScope N ps (defScope st))
    (hlen : ∀ ss M Q, A ss M Q → ss.length = ps.length)
    (hb : ∀ (cdv : Value) (Ar : Around) (outer : List Env) (s : Shared) (H : Hp) (E : XK), Ar.guards = some [] → Room k (Ar.deeper (envOfC qual (defScope st) s.heap.objs.size f cdv)) →
      ∃ t, PSs (cxOf CX0 P w K mg base N qual (defScope st) f cdv Ar outer s H E).nox (defBody st) t ∧ ∀ ss M Q, A ss M Q → WS (KX.pure K) t (rho0 N.length ss) M ⟨fun _ M' => Q .non M', Q, NoR, NoR⟩) :
    FnU P w K mg base (k + 1) f fd ps (conc K A) := by
  have hl : ∀ vs H Q E, conc K A vs H Q E → vs.length = ps.length := fun vs H Q E h => by
    obtain ⟨B, M, ss, QA, hS, hv, ha, _⟩ := h
    rw [SlAll.len hv]
    exact hlen ss M QA ha
  obtain ⟨oc, od, kV, doc, pm, an, cdv, ct, osl, rfl, lk, hcd⟩ := F.ex
  refine ⟨hl, fun Ar outer s H args us vs Q E hg hr e0 hbd hv hsp => ?_⟩
  have keeps : ∀ b o, base.get? b = some o → s.heap.get? b = some o := fun b o e => (e0.bs b o e).1
  have hin : K.In s.heap := e0.mod.kin.keeps keeps
  refine codeAny_call_function hr.depth (hin _ _ lk) rfl S.co S.gen rfl (PySem.W.codeRec_of hin hcd) (hbd _ _ _ _ ?_)
  refine wpAny_newFunctionEnv_cells S.kind (fun p hp => ?_) fun env he s1 x => ?_
  · rcases S.par p.1 (List.of_mem_zip hp).1 with q | q
    · exact .inl q
    · exact .inr ⟨q, PySem.W.cellsFrom_some _ _ _ (.inl q)⟩
  subst he
  refine ⟨(e0.mod.nolimit.keeps keeps).keeps x.toInCall.keep, codeAny_func ?_⟩
  obtain ⟨t, ht, hw⟩ := hb cdv Ar outer s H E hg (hr.deeper _)
  have I := inv_start (CX := CX0) (E := E) S hr.hd e0 (hl _ _ _ _ hsp) hv x
  obtain ⟨B, M, ss, QA, hS, ho, ha, hq⟩ := hsp
  have hR : Rl (KX.pure K) B (L2.start N vs) (rho0 N.length ss) := by
    unfold L2.start rho0
    rw [SlAll.len ho]
    exact ⟨rl_start _ ho, fun _ _ _ _ _ _ _ q => q.elim⟩
  have hT : t { nx := fun _ H' => Q .non H', rt := Q } (L2.start N vs) H := hw ss M QA ha (L2.start N vs) B H ⟨fun _ H' => Q .non H', Q, _, _⟩ hR hS (fun ρ' M' σ' B' H' q e _ S' => hq .non .non M' B' H' q e S' slok_non) (fun s v M' B' H' q e S' o => hq s v M' B' H' q e S' o) (fun _ _ _ _ _ z => z.elim) (fun _ _ _ _ _ z => z.elim)
  refine wpAny_mono (ht.nox.run [] s1 (L2.start N vs) H _ I hT) (fun fl s' hs => ?_) fun e s' hs => hs
  cases fl with
  | ret u =>
    obtain ⟨v, σ', H', J, rv, q⟩ := hs
    exact ⟨v, H', J.os, J.bare, J.base, J.hok, rv, q⟩
  | next =>
    obtain ⟨σ', H', J, q⟩ := hs
    exact ⟨.non, H', J.os, J.bare, J.base, J.hok, rfl, q⟩
  | brk =>
    obtain ⟨_, _, _, q⟩ := hs
    exact False.elim q
  | cont =>
    obtain ⟨_, _, _, q⟩ := hs
    exact False.elim q
end
/-- the end of a law whose def is known where nothing guards -/
theorem walk_ofG {l : PySem.W.OpenLaw} {n k : Nat} {q : Program} {loose : List Str} {XP : (Str → Option Value) → Heap → Prop} {YP : World → Heap → Prop} {d : DefRec} {K : Params → PySem.W.Frag} {sp : World → Sp} {x : Str}
    (hn : l.most = some n) (hn2 : n ≤ sizeLine) (hdf : d.params.defaults = []) (hr : Room k callerA)
    (hY : ∀ (w : World) (h : Heap), YP w h → (K w.params).In h)
    (F : ∀ (w : World) (mg : Str → Option Value) (fa : Addr) (h : Heap), (K w.params).In h → h.Ns mainGlobals mg → mg d.name = some (.ref fa) →
      ∃ fd : FuncData, (∀ (s : Shared) (u : Value), BindsTo s fd ⟨[u], []⟩ [(x, u)]) ∧
        ∀ base : Heap, (K w.params).In base → base.Ns mainGlobals mg → FnU l.prog w (K w.params) mg base k fa fd [x] (sp w))
    (hsp : ∀ (w : World) (H : Hp) (a : Addr) (ns : List Int), ns.length ≤ n → (∀ z ∈ ns, Builtin.Int.intBits z ≤ 1048576) → Only H → SqL (K w.params) H a (ns.map V.int) → sp w [.ref a] H (fun v _ => v = .bl true) fun _ _ _ => False) :
    PySem.W.WalkO q loose XP YP l.row.toRowW d [] (fun f vs => PySem.call f vs) := by
  refine Att.attach_callB hn hdf fun w s₀ s₁ mg mb fa o pm cd doc a vs ns G Y ho hd hcd hmg ha hi hlen hbits hg => ?_
  have hK := hY w _ Y
  obtain ⟨fd, hb, hF⟩ := F w mg fa _ hK G.T.g hmg
  have rv := vals_ints hi
  have lenV := hi.length
  have hl : ns.length ≤ sizeLine := Nat.le_trans hlen hn2
  -- the script stands in H, if it stands nowhere else
  have core : ∀ H : Hp, Only H → SqL (K w.params) H a (ns.map V.int) → HOk l.prog w H s₁.heap → (∀ b u, H b = some u → b = a ∧ (K w.params).lookup a = none) →
      codeAny (model l.prog w) callerA (.call (.ref fa) ⟨[.ref a], []⟩) (fun r s' => r = .ok (.ret (.bool true)) ∧ OldK s₁.heap s'.heap ∧ s'.os = s₁.os ∧ AllBare s'.gens) s₁ := by
    intro H hO hS hok hA
    have noA : ∀ {b : Addr} {m : Str → Option Value}, s₁.heap.Ns b m → (hidT s₁.heap H).Ns b m := fun {b m} ⟨ob, es, ep, e, dd, r⟩ => ⟨ob, es, ep, hidT_get e (by
      cases z : H b with
      | none => rfl
      | some u =>
        obtain ⟨rfl, _⟩ := hA b u z
        rw [ha] at e
        cases e
        cases (show Data.seq vs.toArray _ = Data.dict es ep from dd)), dd, r⟩
    have hKb : (K w.params).In (hidT s₁.heap H) := fun b ob e => hidT_get (hK b ob e) (by
      cases z : H b with
      | none => rfl
      | some u =>
        obtain ⟨rfl, z2⟩ := hA b u z
        rw [z2] at e
        cases e)
    have hM : Mod (K w.params) mg (hidT s₁.heap H) := ⟨hKb, noA G.T.g, ⟨mb, noA G.T.b, G.T.builtins⟩, let ⟨mc, h1, h2⟩ := G.T.nolimit; ⟨mc, noA h1, h2⟩⟩
    have e0 : Env0 l.prog w (K w.params) mg (hidT s₁.heap H) callerA [] s₁ H := ⟨rfl, hM, fun b ob e => of_hidT e, Nat.le_of_eq (hidT_size _ _), trivial, fun b hb => (nomatch hb), hok, .of_eq hg⟩
    refine codeAny_mono ((hF _ hKb (noA G.T.g)).run callerA [] s₁ H ⟨[.ref a], []⟩ [.ref a] [.ref a] (fun v _ => v = .bl true) (fun _ _ _ => False) rfl hr e0 (hb s₁ (.ref a)) (.cons rfl .nil) (hsp w H a ns hlen hbits hO hS)) fun r s' h => ?_
    cases r with
    | error e => exact (show False from h).elim
    | ok fl =>
      cases fl with
      | next => exact False.elim h
      | brk => exact False.elim h
      | cont => exact False.elim h
      | ret u =>
        obtain ⟨v, H', os, bare, un, hok', r', rfl⟩ := h
        obtain rfl : u = Value.bool true := r'
        refine ⟨rfl, OldK.of_keep fun b ob e => ?_, os, bare⟩
        cases z : H b with
        | none => exact un.keep b ob e z (fun z => nomatch z) (fun z => nomatch z)
        | some u =>
          rcases hO b with z1 | ⟨ob1, xs, z1⟩
          · rw [z] at z1; cases z1
          · obtain ⟨e1, _⟩ := hok b _ z1
            obtain ⟨e2, _⟩ := hok' b _ (un.frzs b ob1 _ z1)
            rw [e] at e1
            cases e1
            exact e2
  cases hk : (K w.params).lookup a with
  | some ob =>
    have e := hK a ob hk
    rw [ha] at e
    cases e
    exact core (fun _ => none) (fun _ => .inl rfl) (.inr ⟨_, vs.toArray, _, hk, rfl, rfl, rfl, by rw [List.size_toArray, lenV]; exact hl, by simpa using rv⟩) (fun b u z => nomatch z) (fun b u z => nomatch z)
  | none =>
    have h1 : ∀ b u, (if b = a then some (HO.frz { cls := .type "list", data := .seq vs.toArray } (.lst (ns.map V.int))) else none) = some u → b = a ∧ u = .frz { cls := .type "list", data := .seq vs.toArray } (.lst (ns.map V.int)) := fun b u z => by
      by_cases hb : b = a
      · rw [if_pos hb] at z
        cases z
        exact ⟨hb, rfl⟩
      · rw [if_neg hb] at z
        cases z
    refine core (fun b => if b = a then some (.frz { cls := .type "list", data := .seq vs.toArray } (.lst (ns.map V.int))) else none) (fun b => ?_) (.inl (.inr ⟨{ cls := .type "list", data := .seq vs.toArray }, if_pos rfl⟩)) (fun b u z => ?_) (fun b u z => ⟨(h1 b u z).1, hk⟩)
    · by_cases hb : b = a
      · exact .inr ⟨_, _, if_pos hb⟩
      · exact .inl (if_neg hb)
    · obtain ⟨rfl, rfl⟩ := h1 b u z
      exact ⟨ha, by rw [List.length_map]; exact hl, vs, _, rv, ha⟩
end Ab
set_option Elab.async false
set_option linter.all false
set_option maxRecDepth 1000000
set_option  maxHeartbeats 4000000
namespace Ab
open PySem PyProof.Rows L2
theorem okV {n b : Nat} {v : Val} (h : vb b v) : okD n v.enc = true := by
  cases v with
  | int i => exact okD_int
  | str z => exact okD_str (goodS_ok h)
theorem okRw {n b : Nat} {r : List Val} (h : rowB b r) : okD (n + 1) (encR r) = true := okD_mkT (by rw [List.length_map]; exact Nat.le_trans h.1 (by decide)) (okAll_of fun d hd => by
  obtain ⟨v, hv, rfl⟩ := List.mem_map.mp hd
  exact okV (h.2 v hv))
/-- rows of a relation, as data -/
abbrev encRs (rs : Rows) : PyData := .list (rs.map encR)
/-- what stands under a name -/
def rowsW (lw : List (Str × Rows)) (z : Str) : Rows := (valG lw z).getD []
theorem rowsW_at {lw : List (Str × Rows)} {z : Str} {rs : Rows} (h : valG lw z = some rs) : rowsW lw z = rs := by unfold rowsW; rw [h]; rfl
theorem rowsV_data {F : PySem.W.Frag} {M : MH} (lw : List (Str × Rows)) : RowsV F (.dat (encD encRs lw)) M (rowsW lw) := ⟨⟨slD encRs lw, dcv_encD, fun z => ⟨_, rfl, by
  rw [slD_val]
  unfold rowsW
  cases valG lw z with
  | none => exact lsv_dat (ds := [])
  | some rs =>
    have := lsv_dat (K := F) (M := M) (ds := rs.map encR)
    rw [List.map_map] at this
    exact this⟩⟩⟩
def lkR (lw : List (Str × Rows)) (r : Str) (n : Nat) : Prop := ∃ rs, valG lw r = some rs ∧ ∀ row ∈ rs, row.length = n
/-- the rows that a literal looks up stand, and fit -/
def lkL (rw' lw : List (Str × Rows)) : Lit → Prop
  | .fact r ts => lkR rw' r ts.length
  | .neg r ts => lkR lw r ts.length
  | .count _ r ts => lkR lw r ts.length
  | _ => True
theorem eqv_nil (xs : List PyData) : PyData.eqv (.list xs) (.list []) = xs.isEmpty := by
  cases xs with
  | nil => rfl
  | cons x xs => rfl
section
variable {K : KX} {ρ : Rho} {M : MH} {nx bk ct : Rho → MH → Prop} {rt : Sl → MH → Prop}
/-- for x in a list of data -/
theorem ws_forL {α : Type} {enc : α → PyData} {xs : List α} {tl : TE} {g : TG} {tb : TS} {M1 : MH} (hl : W K tl ρ M fun s M2 => s = .dat (.list (xs.map enc)) ∧ M2 = M1) (J : List α → Rho → MH → Prop) (h0 : J [] ρ M1)
    (hs : ∀ pre x post ρ' M', xs = pre ++ x :: post → J pre ρ' M' → WG K g (.dat (enc x)) ρ' M' fun ρ2 M2 => WS K tb ρ2 M2 ⟨J (pre ++ [x]), rt, nx, J (pre ++ [x])⟩) (hd : ∀ ρ' M', J xs ρ' M' → nx ρ' M') : WS K (tFor (iList K.K tl) g tb) ρ M ⟨nx, rt, bk, ct⟩ :=
  ws_for (wi_list (hl.imp fun s M2 ⟨e1, e2⟩ => by
    subst e1 e2
    refine ⟨_, lsv_dat, fun i => J (xs.take i), h0, fun _ _ _ _ _ => lsv_dat, fun i ρ' M' hi hj => ?_, fun ρ' M' hj => hd ρ' M' (by rwa [List.length_map, List.length_map, List.take_length] at hj)⟩
    have hi' : i < xs.length := by simpa using hi
    have q := hs (xs.take i) xs[i] (xs.drop (i + 1)) ρ' M' (split_at hi') hj
    rw [← List.take_succ_eq_append_getElem hi'] at q
    show WG K g (((xs.map enc).map Sl.dat).getD i .non) ρ' M' _
    rw [getD_map hi']
    exact q))
end
theorem lsW_um {M : MH} {a : Addr} {f : List (Way × Rows)} : um M a (.lst (f.map fun q => Sl.dat (encWy q))) a = some (.lst ((f.map encWy).map .dat)) := by
  rw [um_same, List.map_map]
  rfl
theorem lkL_nf {rw' lw : List (Str × Rows)} {l : Lit} (h : lkL rw' lw l) (hnf : ∀ r ts, l ≠ .fact r ts) : lkL [] lw l := by
  cases l with
  | fact r ts => exact absurd rfl (hnf r ts)
  | neg r ts => exact h
  | compare op s t => exact h
  | is x op s t => exact h
  | count x r ts => exact h
theorem waysL_nf {R L : Str → Rows} {l : Lit} {f : List (Way × Rows)} (hnf : ∀ r ts, l ≠ .fact r ts) : waysL R L f l = f.filterMap fun p => (testF L p.1 l).map fun w => (w, p.2) := by
  cases l with
  | fact r ts => exact absurd rfl (hnf r ts)
  | neg r ts => rfl
  | compare op s t => rfl
  | is x op s t => rfl
  | count x r ts => rfl
theorem form_nf {l : Lit} (hnf : ∀ r ts, l ≠ .fact r ts) : l.form ≠ "fact" := by
  cases l with
  | fact r ts => exact absurd rfl (hnf r ts)
  | neg r ts => exact (by decide +kernel : ("not" : Str) ≠ "fact")
  | compare op s t => exact (by decide +kernel : ("compare" : Str) ≠ "fact")
  | is x op s t => exact (by decide +kernel : ("is" : Str) ≠ "fact")
  | count x r ts => exact (by decide +kernel : ("count" : Str) ≠ "fact")
section
variable {M : MH} {g q p b : Addr} {A A' F L X D : MO}
theorem mh1 (gq : g ≠ q) (gp : g ≠ p) (gb : g ≠ b) (bp : b ≠ p) : um (um (um (um (um M g A) q F) p L) b X) g A' = um (um (um (um M g A') q F) b X) p L := by
  rw [um_comm gb.symm, um_comm gp.symm, um_comm gq.symm, um_um, um_comm bp.symm]
theorem mh2 (gq : g ≠ q) (gp : g ≠ p) (gb : g ≠ b) (bp : b ≠ p) (bq : b ≠ q) (hb : M b = none) : um (del (um (um (um (um M g A) q F) b X) p L) b) g A' = um (um (um M g A') q F) p L := by
  rw [um_comm bp, del_um (by rw [um_ne bp, um_ne bq, um_ne gb.symm]; exact hb), um_comm gp.symm, um_comm gq.symm, um_um]
theorem mh3 (gq : g ≠ q) (pq : p ≠ q) (h : M q = some D) : um (um (um (um M g A) q F) p L) q D = um (um M g A) p L := by
  have e : um (um M g A) q D = um M g A := um_id (by rw [um_ne gq.symm]; exact h)
  rw [um_comm pq, um_um, e]
theorem mh4 (gp : g ≠ p) (h : M g = none) : del (um (um M g A) p L) g = um M p L := by
  rw [um_comm gp, del_um (by rw [um_ne gp]; exact h)]
theorem mh5 (bp : b ≠ p) : um (um (um M b A) p L) b A' = um (um M b A') p L := by
  rw [um_comm bp.symm, um_um]
end
/-- rows as the draws make them -/
def rwR (Ws : List (Str × Int)) (x : Str × Rows) : Prop := x.2.length ≤ 5 ∧ ∀ row ∈ x.2, okR row ∧ valG Ws x.1 = some (row.length : Int)
structure RwOk (Ws : List (Str × Int)) (rw' : List (Str × Rows)) : Prop where
  k : rw'.map (·.1) = Ws.map (·.1)
  r : ∀ x ∈ rw', rwR Ws x
end Ab
set_option Elab.async false
set_option linter.all false
set_option maxRecDepth 1000000
set_option  maxHeartbeats 4000000
namespace Ab
open PySem PyProof.Rows L2
structure Shw (n m : Nat) (d : PyData) : Prop where
  s : PyData.showable d = true
  l : PyData.leavesShort 40 d = true
  w : PyData.weight d ≤ m
  d : PyData.depth d ≤ n
theorem shw_int {i : Int} (h : i.natAbs < 10 ^ 30) : Shw 0 101 (.int i) := by
  have h2 : i.natAbs < 2 ^ 100 := Nat.lt_trans h (by decide)
  have hl : i.natAbs ≠ 0 → i.natAbs.log2 < 100 := fun h0 => (Nat.log2_lt h0).mpr h2
  refine ⟨?_, ?_, ?_, Nat.le_refl 0⟩
  · simp only [PyData.showable, decide_eq_true_eq]
    by_cases h0 : i.natAbs = 0
    · rw [h0]; decide
    · exact Nat.lt_trans (hl h0) (by decide)
  · simp only [PyData.leavesShort, PyData.shown_int, decide_eq_true_eq]
    have := int_text_length_le10 (a := i) (k := 30) (by decide) h
    have e : (((toString i : String) : Str)).length = (toString i).length := PySem.ofString_length _
    omega
  · simp only [PyData.weight]
    split
    · omega
    · rename_i h0
      have := hl (by simpa using h0)
      omega
theorem shw_str {z : Str} (h : goodS z = true) : Shw 0 40 (.str z) := by
  have h' := h
  unfold goodS at h'
  rw [Bool.and_eq_true, List.all_eq_true, decide_eq_true_eq] at h'
  refine ⟨by simp only [PyData.showable], ?_, ?_, Nat.le_refl 0⟩
  · simp only [PyData.leavesShort, List.all_eq_true, decide_eq_true_eq]
    intro c hc
    have := h'.2 c hc
    simp only [Bool.and_eq_true, decide_eq_true_eq] at this
    have e : (16 : Nat) ^ 8 = 4294967296 := by decide
    omega
  · simp only [PyData.weight]
    exact h'.1
theorem shw_mono {n m n' m' : Nat} {d : PyData} (h : Shw n m d) (hn : n ≤ n') (hm : m ≤ m') : Shw n' m' d := ⟨h.s, h.l, Nat.le_trans h.w hm, Nat.le_trans h.d hn⟩
theorem shw_val {v : Val} (h : v.ok) : Shw 0 101 v.enc := by
  cases v with
  | int i => exact shw_int h
  | str z => exact shw_mono (shw_str h) (Nat.le_refl _) (by decide)
theorem shw_all {n m : Nat} : ∀ {ds : List PyData}, (∀ d ∈ ds, Shw n m d) → PyData.showableAll ds = true ∧ PyData.leavesShortAll 40 ds = true ∧ PyData.depthAll ds ≤ n ∧ PyData.weightAll ds ≤ ds.length * (m + 1)
  | [], _ => ⟨rfl, rfl, Nat.zero_le _, Nat.zero_le _⟩
  | d :: ds, h => by
    have h1 := h d List.mem_cons_self
    obtain ⟨a1, a2, a3, a4⟩ := shw_all (ds := ds) fun x hx => h x (List.mem_cons_of_mem _ hx)
    refine ⟨?_, ?_, ?_, ?_⟩
    · simp only [PyData.showableAll, h1.s, a1, Bool.and_self]
    · simp only [PyData.leavesShortAll, h1.l, a2, Bool.and_self]
    · simp only [PyData.depthAll]; have := h1.d; omega
    · simp only [PyData.weightAll, List.length_cons, Nat.succ_mul]; have := h1.w; omega
theorem shw_list {n m c : Nat} {ds : List PyData} (h : ∀ d ∈ ds, Shw n m d) (hc : ds.length ≤ c) : Shw (n + 1) (c * (m + 1)) (.list ds) := by
  obtain ⟨a1, a2, a3, a4⟩ := shw_all h
  exact ⟨by simpa only [PyData.showable] using a1, by simpa only [PyData.leavesShort] using a2, by simp only [PyData.weight]; exact Nat.le_trans a4 (Nat.mul_le_mul_right _ hc), by simp only [PyData.depth]; omega⟩
theorem shw_tuple {n m c : Nat} {ds : List PyData} (h : ∀ d ∈ ds, Shw n m d) (hc : ds.length ≤ c) : Shw (n + 1) (c * (m + 1)) (.tuple ds) := by
  obtain ⟨a1, a2, a3, a4⟩ := shw_all h
  exact ⟨by simpa only [PyData.showable] using a1, by simpa only [PyData.leavesShort] using a2, by simp only [PyData.weight]; exact Nat.le_trans a4 (Nat.mul_le_mul_right _ hc), by simp only [PyData.depth]; omega⟩
theorem shw_kv {β : Type} {f : β → PyData} {n m : Nat} : ∀ {w : List (Str × β)}, (∀ p ∈ w, goodS p.1 = true ∧ Shw n m (f p.2)) → PyData.showableKv (w.map fun p => (.str p.1, f p.2)) = true ∧ PyData.leavesShortKv 40 (w.map fun p => (.str p.1, f p.2)) = true ∧ PyData.depthKv (w.map fun p => (.str p.1, f p.2)) ≤ n ∧ PyData.weightKv (w.map fun p => (.str p.1, f p.2)) ≤ w.length * (m + 42)
  | [], _ => ⟨rfl, rfl, Nat.zero_le _, Nat.zero_le _⟩
  | p :: w, h => by
    obtain ⟨g1, h1⟩ := h p List.mem_cons_self
    have h0 := shw_str g1
    obtain ⟨a1, a2, a3, a4⟩ := shw_kv (w := w) fun x hx => h x (List.mem_cons_of_mem _ hx)
    refine ⟨?_, ?_, ?_, ?_⟩
    · simp only [List.map_cons, PyData.showableKv, h0.s, h1.s, a1, Bool.and_self]
    · simp only [List.map_cons, PyData.leavesShortKv, h0.l, h1.l, a2, Bool.and_self]
    · simp only [List.map_cons, PyData.depthKv]; have := h1.d; have := h0.d; omega
    · simp only [List.map_cons, PyData.weightKv, List.length_cons, Nat.succ_mul]; have := h1.w; have := h0.w; omega
theorem shw_dict {β : Type} {f : β → PyData} {n m c : Nat} {w : List (Str × β)} (h : ∀ p ∈ w, goodS p.1 = true ∧ Shw n m (f p.2)) (hc : w.length ≤ c) : Shw (n + 1) (c * (m + 42)) (encD f w) := by
  obtain ⟨a1, a2, a3, a4⟩ := shw_kv h
  exact ⟨by simpa only [PyData.showable] using a1, by simpa only [PyData.leavesShort] using a2, by simp only [PyData.weight]; exact Nat.le_trans a4 (Nat.mul_le_mul_right _ hc), by simp only [PyData.depth]; omega⟩
theorem Shw.fits {n m : Nat} {d : PyData} (h : Shw n m d) (hn : n ≤ 60) (hm : m ≤ 390000) : d.showable = true ∧ d.depth ≤ 60 ∧ d.shown.length ≤ sizeLine := by
  refine ⟨h.s, Nat.le_trans h.d hn, ?_⟩
  have h1 := PyData.shown_le 40 (by decide) d h.l
  have h2 := h.w
  exact Nat.le_trans (show d.shown.length ≤ 16380040 by omega) (by decide)
end Ab
set_option Elab.async false
set_option linter.all false
set_option maxRecDepth 1000000
set_option  maxHeartbeats 4000000
namespace Ab
open PySem PyProof.Rows L2
theorem val_vb {v : Val} (h : v.ok) : vb 100 v := by
  cases v with
  | int i => exact Nat.lt_trans (show i.natAbs < 10 ^ 30 from h) (by decide)
  | str z => exact h
theorem row_vb {r : List Val} (h : okR r) : rowB 100 r := ⟨h.1, fun v hv => val_vb (h.2 v hv)⟩
theorem term_vb {t : Term} (h : t.ok) : termB 100 t := by
  cases t with
  | any => trivial
  | value v => exact val_vb h
  | «variable» z => exact h
section
variable {Ws : List (Str × Int)} {rw' lw : List (Str × Rows)}
theorem rowsW_mem {z : Str} {r : List Val} (h : r ∈ rowsW rw' z) : ∃ x ∈ rw', x.1 = z ∧ r ∈ x.2 := by
  unfold rowsW at h
  cases e : valG rw' z with
  | none => rw [e] at h; exact absurd h List.not_mem_nil
  | some rs => rw [e] at h; exact ⟨_, valG_mem e, rfl, h⟩
theorem RwOk.len (h : RwOk Ws rw') (z : Str) : (rowsW rw' z).length ≤ 5 := by
  unfold rowsW
  cases e : valG rw' z with
  | none => exact Nat.zero_le _
  | some rs => exact (h.r _ (valG_mem e)).1
theorem RwOk.b (h : RwOk Ws rw') : rowsB 100 (rowsW rw') := ⟨fun z => Nat.le_trans (h.len z) (by decide), fun z r hr => by
  obtain ⟨x, hx, _, hr2⟩ := rowsW_mem hr
  exact row_vb ((h.r x hx).2 r hr2).1⟩
theorem RwOk.lk (h : RwOk Ws rw') {z : Str} {n : Nat} (hz : valG Ws z = some (n : Int)) : lkR rw' z n := by
  have hin : z ∈ rw'.map (·.1) := by rw [h.k]; exact List.mem_map_of_mem (valG_mem hz)
  obtain ⟨rs, hrs⟩ := valG_of hin
  refine ⟨rs, hrs, fun row hrow => ?_⟩
  have := ((h.r _ (valG_mem hrs)).2 row hrow).2
  rw [hz] at this
  injection this with this
  omega
theorem RwOk.lkL (h : RwOk Ws rw') (h2 : RwOk Ws lw) {l : Lit} (hl : litWd Ws l) : lkL rw' lw l := by
  cases l with
  | fact r ts => exact h.lk hl
  | neg r ts => exact h2.lk hl
  | compare op s t => trivial
  | is x op s t => trivial
  | count x r ts => exact h2.lk hl
theorem litB_of {l : Lit} (hl : l.ok) (hw : litWd Ws l) (hW : ∀ p ∈ Ws, p.2 ≤ 50) : litB 100 l := by
  cases l with
  | fact r ts => exact ⟨hl.1, fun t ht => term_vb (hl.2.2 t ht), by have := hW _ (valG_mem hw); dsimp only at this; omega⟩
  | neg r ts => exact ⟨hl.1, fun t ht => term_vb (hl.2.2 t ht), by have := hW _ (valG_mem hw); dsimp only at this; omega⟩
  | compare op s t => exact ⟨hl.1, term_vb hl.2.1, term_vb hl.2.2⟩
  | is x op s t => exact ⟨hl.1, hl.2.1, term_vb hl.2.2.1, term_vb hl.2.2.2⟩
  | count x r ts => exact ⟨hl.1, hl.2.1, fun t ht => term_vb (hl.2.2.2 t ht), by have := hW _ (valG_mem hw); dsimp only at this; omega⟩
theorem RwOk.shw (h : RwOk Ws rw') (oW : okW Ws) (hW : ∀ p ∈ Ws, p.2 ≤ 3) (hl : Ws.length ≤ 3) : Shw 3 4731 (encD encRs rw') := by
  have hlen : rw'.length ≤ 3 := by
    have := congrArg List.length h.k
    rw [List.length_map, List.length_map] at this
    omega
  refine shw_dict (c := 3) (m := 1535) (n := 2) (fun p hp => ⟨?_, ?_⟩) hlen
  · have : p.1 ∈ Ws.map (·.1) := by rw [← h.k]; exact List.mem_map_of_mem hp
    obtain ⟨q, hq, e⟩ := List.mem_map.mp this
    rw [← e]
    exact (oW.g q hq).1
  · refine shw_list (c := 5) (m := 306) (n := 1) (fun d hd => ?_) (by rw [List.length_map]; exact (h.r p hp).1)
    obtain ⟨row, hrow, rfl⟩ := List.mem_map.mp hd
    obtain ⟨o1, o2⟩ := (h.r p hp).2 row hrow
    have := hW _ (valG_mem o2)
    refine shw_tuple (c := 3) (m := 101) (n := 0) (fun d hd => ?_) (by rw [List.length_map]; dsimp only at this; omega)
    obtain ⟨v, hv, rfl⟩ := List.mem_map.mp hd
    exact shw_val (o1.2 v hv)
end
theorem metT_len {t : Term} {v : Val} {w w' : Way} (h : metT t v w = some w') : w'.length ≤ w.length + 1 := by
  cases t with
  | any => cases h; exact Nat.le_succ _
  | value x =>
    have h' : (if x = v then some w else none) = some w' := h
    split at h'
    · cases h'; exact Nat.le_succ _
    · cases h'
  | «variable» y =>
    have h' : (match valG w y with | some u => if u = v then some (putG w y v) else none | none => some (putG w y v)) = some w' := h
    have hp := putG_len w y v
    cases e : valG w y with
    | none => rw [e] at h'; cases h'; exact hp
    | some u =>
      rw [e] at h'
      dsimp only at h'
      split at h'
      · cases h'; exact hp
      · cases h'
theorem metZ_len : ∀ {ts : List Term} {row : List Val} {w w' : Way}, metZ ts row w = some w' → w'.length ≤ w.length + ts.length
  | [], _, w, w', h => by cases h; exact Nat.le_refl _
  | t :: ts, [], w, w', h => by cases h; omega
  | t :: ts, v :: vs, w, w', h => by
    have h' : (metT t v w).bind (metZ ts vs) = some w' := h
    cases e : metT t v w with
    | none => rw [e] at h'; cases h'
    | some w1 =>
      rw [e] at h'
      have h1 := metT_len e
      have h2 := metZ_len (show metZ ts vs w1 = some w' from h')
      rw [List.length_cons]
      omega
theorem metF_len {ts : List Term} {row : List Val} {w w' : Way} (h : metF ts row w = some w') : w'.length ≤ w.length + ts.length := by
  unfold metF at h
  split at h
  · exact metZ_len h
  · cases h
theorem boundF_len {w w' : Way} {y : Str} {v : Val} (h : boundF w y v = some w') : w'.length ≤ w.length + 1 := by
  have hp := putG_len w y v
  unfold boundF at h
  cases e : valG w y with
  | none => rw [e] at h; cases h; exact hp
  | some u =>
    rw [e] at h
    dsimp only at h
    split at h
    · cases h; exact hp
    · cases h
theorem testF_len {L : Str → Rows} {w w' : Way} {l : Lit} (h : testF L w l = some w') : w'.length ≤ w.length + 1 := by
  cases l with
  | fact r ts => cases h
  | neg r ts =>
    have h' : (if 0 < countF ts (L r) w then none else some w) = some w' := h
    split at h'
    · cases h'
    · cases h'; exact Nat.le_succ _
  | compare op s t =>
    have h' : (if cmpF op (valF w s) (valF w t) = true then some w else none) = some w' := h
    split at h'
    · cases h'; exact Nat.le_succ _
    · cases h'
  | is x op s t =>
    have h' : ((reckF op (valF w s) (valF w t)).bind fun i => boundF w x (.int i)) = some w' := h
    cases e : reckF op (valF w s) (valF w t) with
    | none => rw [e] at h'; cases h'
    | some i => rw [e] at h'; exact boundF_len h'
  | count x r ts => exact boundF_len (show boundF w x (.int (countF ts (L r) w : Int)) = some w' from h)
theorem ways_wlen {Ws : List (Str × Int)} {R L : Str → Rows} (hW : ∀ p ∈ Ws, p.2 ≤ 3) : ∀ {b : List Lit}, (∀ l ∈ b, litWd Ws l) → ∀ q ∈ waysF R L b, q.1.length ≤ 3 * b.length := by
  suffices h : ∀ rb : List Lit, (∀ l ∈ rb, litWd Ws l) → ∀ q ∈ waysF R L rb.reverse, q.1.length ≤ 3 * rb.length from fun {b} hb q hq => by
    have := h b.reverse (fun l hl => hb l (List.mem_reverse.mp hl)) q (by rw [List.reverse_reverse]; exact hq)
    rwa [List.length_reverse] at this
  intro rb
  induction rb with
  | nil => intro _ q hq; rw [List.mem_singleton.mp hq]; exact Nat.le_refl _
  | cons l rb ih =>
    intro hb q hq
    rw [List.reverse_cons, waysF_snoc] at hq
    have ih' := ih fun x hx => hb x (List.mem_cons_of_mem _ hx)
    have hw := hb l List.mem_cons_self
    rw [List.length_cons]
    by_cases hf : ∃ r ts, l = .fact r ts
    · obtain ⟨r, ts, rfl⟩ := hf
      obtain ⟨p, hp, hq2⟩ := List.mem_flatMap.mp (show q ∈ (waysF R L rb.reverse).flatMap fun p => (R r).filterMap fun row => (metF ts row p.1).map fun w => (w, p.2 ++ [row]) from hq)
      obtain ⟨row, hrow, e⟩ := List.mem_filterMap.mp hq2
      obtain ⟨w', e2, e3⟩ := Option.map_eq_some_iff.mp e
      subst e3
      have h1 := metF_len e2
      have h2 := ih' p hp
      have h3 := hW _ (valG_mem (show valG Ws r = some (ts.length : Int) from hw))
      dsimp only at h3 ⊢
      omega
    · rw [waysL_nf fun r ts e => hf ⟨r, ts, e⟩] at hq
      obtain ⟨p, hp, e⟩ := List.mem_filterMap.mp hq
      obtain ⟨w', e2, e3⟩ := Option.map_eq_some_iff.mp e
      subst e3
      have h1 := testF_len e2
      have h2 := ih' p hp
      dsimp only
      omega
/-- all the ways of a body -/
theorem ways_all {b : Nat} {R L : Str → Rows} (b20 : 20 ≤ b) (bR : rowsB b R) (bL : rowsB b L) : ∀ {post pre : List Lit} {k : List Str}, (∀ q ∈ waysF R L pre, WyOk k (b * 2 ^ pre.length) pre.length q) → bodyK k post → (∀ l ∈ post, litB b l) → ∃ k', ∀ q ∈ waysF R L (pre ++ post), WyOk k' (b * 2 ^ (pre ++ post).length) (pre ++ post).length q
  | [], pre, k, h, _, _ => ⟨k, by rw [List.append_nil]; exact h⟩
  | l :: post, pre, k, h, hk, hb => by
    have bge : b ≤ b * 2 ^ pre.length := Nat.le_mul_of_pos_right b (Nat.two_pow_pos _)
    have hstep := ways_step h (litB_mono bge (hb l List.mem_cons_self)) hk.1 (Nat.le_trans b20 bge) (rowsB_mono bge bR) (rowsB_mono bge bL)
    have h2 : ∀ q ∈ waysF R L (pre ++ [l]), WyOk (k ++ bindsF l) (b * 2 ^ (pre ++ [l]).length) (pre ++ [l]).length q := by
      rw [waysF_snoc, List.length_append, List.length_singleton, Nat.pow_succ, ← Nat.mul_assoc, Nat.mul_comm (b * 2 ^ pre.length) 2]
      exact hstep
    have := ways_all b20 bR bL h2 hk.2 fun x hx => hb x (List.mem_cons_of_mem _ hx)
    rwa [show (pre ++ [l]) ++ post = pre ++ l :: post by simp] at this
theorem eqv_tk (a b : Rows) : PyData.eqv (encTk a) (encTk b) = decide (a = b) := by
  show PyData.eqv (.tuple _) (.tuple _) = _
  rw [PyData.eqv, eqvAll_map eqv_row]
theorem tpd_tk (a : Rows) : tpd (encTk a) = true := tpd_of fun x hx => by
  obtain ⟨r, _, rfl⟩ := List.mem_map.mp hx
  exact tpd_row r
theorem okTk {n b : Nat} {tk : Rows} (hl : tk.length ≤ 1000) (h : ∀ r ∈ tk, rowB b r) : okD (n + 2) (encTk tk) = true := okD_mkT (by rw [List.length_map]; omega) (okAll_of fun d hd => by
  obtain ⟨r, hr, rfl⟩ := List.mem_map.mp hd
  exact okRw (h r hr))
theorem slD_keys {β : Type} {f : β → PyData} {w : List (Str × β)} : (slD f w).map (·.1) = (w.map (·.1)).map Sum.inr := by
  show List.map _ (List.map _ _) = _
  rw [List.map_map, List.map_map]
  rfl
/-- the widths of this law -/
abbrev WsL : List (Str × Int) := [("p", 2), ("q", 1), ("r", 3)]
theorem okWsL : okW WsL := ⟨fun p hp => by
  simp only [List.mem_cons, List.not_mem_nil, or_false] at hp
  rcases hp with rfl | rfl | rfl <;> exact ⟨by decide +kernel, by decide, by decide⟩, by decide, by simp⟩
theorem ndWsL : (WsL.map (·.1)).Nodup := by decide +kernel
theorem smWsL : ∀ p ∈ WsL, p.2 ≤ 3 := fun p hp => by
  simp only [List.mem_cons, List.not_mem_nil, or_false] at hp
  rcases hp with rfl | rfl | rfl <;> decide
end Ab
set_option Elab.async false
set_option linter.all false
set_option maxRecDepth 1000000
set_option  maxHeartbeats 4000000
namespace K20
open PySem PyProof.Rows L2 Ab
def topS (i : Nat) : Stmt := PySem.Challenge.pw_rulestead_k20_ways_of_bodies.main.body.getD i (.Pass ⟨0, 0, 0, 0⟩)
abbrev s_value_key : Stmt := topS 1
theorem sc_value_key : FnScope ["value"] ["value"] (defScope s_value_key) := ⟨rfl, rfl, rfl, by decide +kernel, rfl, by decide +kernel, by decide +kernel⟩
abbrev s_is_integer : Stmt := topS 3
theorem sc_is_integer : FnScope ["value"] ["value"] (defScope s_is_integer) := ⟨rfl, rfl, rfl, by decide +kernel, rfl, by decide +kernel, by decide +kernel⟩
abbrev s_met : Stmt := topS 4
theorem sc_met : FnScope ["terms", "row", "values", "found", "term", "value"] ["terms", "row", "values"] (defScope s_met) := ⟨rfl, rfl, rfl, by decide +kernel, rfl, by decide +kernel, by decide +kernel⟩
abbrev s_value_of : Stmt := topS 5
theorem sc_value_of : FnScope ["term", "values"] ["term", "values"] (defScope s_value_of) := ⟨rfl, rfl, rfl, by decide +kernel, rfl, by decide +kernel, by decide +kernel⟩
abbrev s_compares : Stmt := topS 6
theorem sc_compares : FnScope ["operator", "first", "second", "one", "other"] ["operator", "first", "second"] (defScope s_compares) := ⟨rfl, rfl, rfl, by decide +kernel, rfl, by decide +kernel, by decide +kernel⟩
abbrev s_reckoned : Stmt := topS 7
theorem sc_reckoned : FnScope ["operator", "first", "second"] ["operator", "first", "second"] (defScope s_reckoned) := ⟨rfl, rfl, rfl, by decide +kernel, rfl, by decide +kernel, by decide +kernel⟩
abbrev s_bound : Stmt := topS 8
theorem sc_bound : FnScope ["variable", "value", "values", "found"] ["variable", "value", "values"] (defScope s_bound) := ⟨rfl, rfl, rfl, by decide +kernel, rfl, by decide +kernel, by decide +kernel⟩
abbrev s_count_of : Stmt := topS 9
theorem sc_count_of : FnScope ["terms", "rows", "values", "row"] ["terms", "rows", "values"] (defScope s_count_of) := ⟨rfl, rfl, rfl, by decide +kernel, rfl, by decide +kernel, by decide +kernel⟩
abbrev s_tested : Stmt := topS 10
theorem sc_tested : FnScope ["literal", "lookups", "values", "result"] ["literal", "lookups", "values"] (defScope s_tested) := ⟨rfl, rfl, rfl, by decide +kernel, rfl, by decide +kernel, by decide +kernel⟩
abbrev s_ways : Stmt := topS 11
theorem sc_ways : FnScope ["body", "rows", "lookups", "found", "literal", "after", "values", "taken", "row", "more"] ["body", "rows", "lookups"] (defScope s_ways) := ⟨rfl, rfl, rfl, by decide +kernel, rfl, by decide +kernel, by decide +kernel⟩
abbrev s_head_row : Stmt := topS 12
theorem sc_head_row : FnScope ["terms", "values", "term"] ["terms", "values"] (defScope s_head_row) := ⟨rfl, rfl, rfl, by decide +kernel, rfl, by decide +kernel, by decide +kernel⟩
abbrev s_law_next : Stmt := topS 14
theorem sc_law_next : FnScope ["_law_state", "_law_limit", "_law_cell", "_law_value"] ["_law_state", "_law_limit"] (defScope s_law_next) := ⟨rfl, rfl, rfl, by decide +kernel, rfl, by decide +kernel, by decide +kernel⟩
abbrev s_law_same : Stmt := topS 15
theorem sc_law_same : FnScope ["_law_actual", "_law_expected", "_law_k"] ["_law_actual", "_law_expected"] (defScope s_law_same) := ⟨rfl, rfl, rfl, by decide +kernel, rfl, by decide +kernel, by decide +kernel⟩
abbrev s_law_worth : Stmt := topS 16
theorem sc_law_worth : FnScope ["_law_state"] ["_law_state"] (defScope s_law_worth) := ⟨rfl, rfl, rfl, by decide +kernel, rfl, by decide +kernel, by decide +kernel⟩
abbrev s_law_variable : Stmt := topS 17
theorem sc_law_variable : FnScope ["_law_state"] ["_law_state"] (defScope s_law_variable) := ⟨rfl, rfl, rfl, by decide +kernel, rfl, by decide +kernel, by decide +kernel⟩
abbrev s_law_term : Stmt := topS 18
theorem sc_law_term : FnScope ["_law_state", "_law_bound", "_law_pick"] ["_law_state", "_law_bound"] (defScope s_law_term) := ⟨rfl, rfl, rfl, by decide +kernel, rfl, by decide +kernel, by decide +kernel⟩
abbrev s_law_settled : Stmt := topS 19
theorem sc_law_settled : FnScope ["_law_term_here", "_law_bound"] ["_law_term_here", "_law_bound"] (defScope s_law_settled) := ⟨rfl, rfl, rfl, by decide +kernel, rfl, by decide +kernel, by decide +kernel⟩
abbrev s_law_literal : Stmt := topS 20
theorem sc_law_literal : FnScope ["_law_state", "_law_widths", "_law_bound", "_law_careful", "_law_names", "_law_relation", "_law_width", "_law_terms", "_law_k", "_law_form", "_law_term_here", "_law_pair", "_law_variable_here"] ["_law_state", "_law_widths", "_law_bound", "_law_careful"] (defScope s_law_literal) := ⟨rfl, rfl, rfl, by decide +kernel, rfl, by decide +kernel, by decide +kernel⟩
abbrev s_law_binds : Stmt := topS 21
theorem sc_law_binds : FnScope ["_law_literal_here", "_law_term_here"] ["_law_literal_here"] (defScope s_law_binds) := ⟨rfl, rfl, rfl, by decide +kernel, rfl, by decide +kernel, by decide +kernel⟩
abbrev s_law_body : Stmt := topS 22
theorem sc_law_body : FnScope ["_law_state", "_law_widths", "_law_careful", "_law_most", "_law_body_here", "_law_bound", "_law_facts", "_law_k", "_law_literal_here", "_law_name"] ["_law_state", "_law_widths", "_law_careful", "_law_most"] (defScope s_law_body) := ⟨rfl, rfl, rfl, by decide +kernel, rfl, by decide +kernel, by decide +kernel⟩
abbrev s_law_rank : Stmt := topS 23
theorem sc_law_rank : FnScope ["_law_value"] ["_law_value"] (defScope s_law_rank) := ⟨rfl, rfl, rfl, by decide +kernel, rfl, by decide +kernel, by decide +kernel⟩
abbrev s_law_met : Stmt := topS 24
theorem sc_law_met : FnScope ["_law_terms", "_law_row", "_law_way", "_law_more", "_law_k"] ["_law_terms", "_law_row", "_law_way"] (defScope s_law_met) := ⟨rfl, rfl, rfl, by decide +kernel, rfl, by decide +kernel, by decide +kernel⟩
abbrev s_law_of : Stmt := topS 25
theorem sc_law_of : FnScope ["_law_term_here", "_law_way"] ["_law_term_here", "_law_way"] (defScope s_law_of) := ⟨rfl, rfl, rfl, by decide +kernel, rfl, by decide +kernel, by decide +kernel⟩
abbrev s_law_compared : Stmt := topS 26
theorem sc_law_compared : FnScope ["_law_operator", "_law_first", "_law_second", "_law_left", "_law_right", "_law_tests"] ["_law_operator", "_law_first", "_law_second"] (defScope s_law_compared) := ⟨rfl, rfl, rfl, by decide +kernel, rfl, by decide +kernel, by decide +kernel⟩
abbrev s_law_goes_on : Stmt := topS 27
theorem sc_law_goes_on : FnScope ["_law_literal_here", "_law_lookups", "_law_way", "_law_form", "_law_row", "_law_first", "_law_second", "_law_result", "_law_more"] ["_law_literal_here", "_law_lookups", "_law_way"] (defScope s_law_goes_on) := ⟨rfl, rfl, rfl, by decide +kernel, rfl, by decide +kernel, by decide +kernel⟩
abbrev s_law_ways : Stmt := topS 28
theorem sc_law_ways : FnScope ["_law_body_here", "_law_rows_here", "_law_lookups", "_law_gathered", "_law_literal_here", "_law_after", "_law_way", "_law_taken", "_law_row", "_law_more"] ["_law_body_here", "_law_rows_here", "_law_lookups"] (defScope s_law_ways) := ⟨rfl, rfl, rfl, by decide +kernel, rfl, by decide +kernel, by decide +kernel⟩
abbrev s_law_rows : Stmt := topS 29
theorem sc_law_rows : FnScope ["_law_state", "_law_widths", "_law_rows_here", "_law_name", "_law_k", "_law_row", "_law_j"] ["_law_state", "_law_widths"] (defScope s_law_rows) := ⟨rfl, rfl, rfl, by decide +kernel, rfl, by decide +kernel, by decide +kernel⟩
abbrev s_law_is_dict : Stmt := topS 30
theorem sc_law_is_dict : FnScope ["_law_actual", "_law_expected", "_law_key"] ["_law_actual", "_law_expected"] (defScope s_law_is_dict) := ⟨rfl, rfl, rfl, by decide +kernel, rfl, by decide +kernel, by decide +kernel⟩
abbrev s_law : Stmt := topS 31
theorem sc_law : FnScope ["_law_script", "_law_state", "_law_widths", "_law_k", "_law_rows_here", "_law_lookups", "_law_body_here", "_law_due", "_law_before", "_law_told", "_law_j", "_law_way", "_law_taken", "_law_terms", "_law_name", "_law_row"] ["_law_script"] (defScope s_law) := ⟨rfl, rfl, rfl, by decide +kernel, rfl, by decide +kernel, by decide +kernel⟩
structure AD where
  value_key : Addr
  is_integer : Addr
  met : Addr
  value_of : Addr
  compares : Addr
  reckoned : Addr
  bound : Addr
  count_of : Addr
  tested : Addr
  ways : Addr
  head_row : Addr
  law_next : Addr
  law_same : Addr
  law_worth : Addr
  law_variable : Addr
  law_term : Addr
  law_settled : Addr
  law_literal : Addr
  law_binds : Addr
  law_body : Addr
  law_rank : Addr
  law_met : Addr
  law_of : Addr
  law_compared : Addr
  law_goes_on : Addr
  law_ways : Addr
  law_rows : Addr
  law_is_dict : Addr
  law : Addr
structure FD where
  value_key : FuncData
  is_integer : FuncData
  met : FuncData
  value_of : FuncData
  compares : FuncData
  reckoned : FuncData
  bound : FuncData
  count_of : FuncData
  tested : FuncData
  ways : FuncData
  head_row : FuncData
  law_next : FuncData
  law_same : FuncData
  law_worth : FuncData
  law_variable : FuncData
  law_term : FuncData
  law_settled : FuncData
  law_literal : FuncData
  law_binds : FuncData
  law_body : FuncData
  law_rank : FuncData
  law_met : FuncData
  law_of : FuncData
  law_compared : FuncData
  law_goes_on : FuncData
  law_ways : FuncData
  law_rows : FuncData
  law_is_dict : FuncData
  law : FuncData
structure Txt (K : PySem.W.Frag) (mg : Str → Option Value) (a : AD) (d : FD) : Prop where
  F_value_key : Fun K "value_key" "value_key" s_value_key a.value_key d.value_key
  g_value_key : mg "value_key" = some (.ref a.value_key)
  b_value_key : Binds K d.value_key ["value"] []
  F_is_integer : Fun K "is_integer" "is_integer" s_is_integer a.is_integer d.is_integer
  g_is_integer : mg "is_integer" = some (.ref a.is_integer)
  b_is_integer : Binds K d.is_integer ["value"] []
  F_met : Fun K "met" "met" s_met a.met d.met
  g_met : mg "met" = some (.ref a.met)
  b_met : Binds K d.met ["terms", "row", "values"] []
  F_value_of : Fun K "value_of" "value_of" s_value_of a.value_of d.value_of
  g_value_of : mg "value_of" = some (.ref a.value_of)
  b_value_of : Binds K d.value_of ["term", "values"] []
  F_compares : Fun K "compares" "compares" s_compares a.compares d.compares
  g_compares : mg "compares" = some (.ref a.compares)
  b_compares : Binds K d.compares ["operator", "first", "second"] []
  F_reckoned : Fun K "reckoned" "reckoned" s_reckoned a.reckoned d.reckoned
  g_reckoned : mg "reckoned" = some (.ref a.reckoned)
  b_reckoned : Binds K d.reckoned ["operator", "first", "second"] []
  F_bound : Fun K "bound" "bound" s_bound a.bound d.bound
  g_bound : mg "bound" = some (.ref a.bound)
  b_bound : Binds K d.bound ["variable", "value", "values"] []
  F_count_of : Fun K "count_of" "count_of" s_count_of a.count_of d.count_of
  g_count_of : mg "count_of" = some (.ref a.count_of)
  b_count_of : Binds K d.count_of ["terms", "rows", "values"] []
  F_tested : Fun K "tested" "tested" s_tested a.tested d.tested
  g_tested : mg "tested" = some (.ref a.tested)
  b_tested : Binds K d.tested ["literal", "lookups", "values"] []
  F_ways : Fun K "ways" "ways" s_ways a.ways d.ways
  g_ways : mg "ways" = some (.ref a.ways)
  b_ways : Binds K d.ways ["body", "rows", "lookups"] []
  F_head_row : Fun K "head_row" "head_row" s_head_row a.head_row d.head_row
  g_head_row : mg "head_row" = some (.ref a.head_row)
  b_head_row : Binds K d.head_row ["terms", "values"] []
  F_law_next : Fun K "_law_next" "_law_next" s_law_next a.law_next d.law_next
  g_law_next : mg "_law_next" = some (.ref a.law_next)
  b_law_next : Binds K d.law_next ["_law_state", "_law_limit"] []
  F_law_same : Fun K "_law_same" "_law_same" s_law_same a.law_same d.law_same
  g_law_same : mg "_law_same" = some (.ref a.law_same)
  b_law_same : Binds K d.law_same ["_law_actual", "_law_expected"] []
  F_law_worth : Fun K "_law_worth" "_law_worth" s_law_worth a.law_worth d.law_worth
  g_law_worth : mg "_law_worth" = some (.ref a.law_worth)
  b_law_worth : Binds K d.law_worth ["_law_state"] []
  F_law_variable : Fun K "_law_variable" "_law_variable" s_law_variable a.law_variable d.law_variable
  g_law_variable : mg "_law_variable" = some (.ref a.law_variable)
  b_law_variable : Binds K d.law_variable ["_law_state"] []
  F_law_term : Fun K "_law_term" "_law_term" s_law_term a.law_term d.law_term
  g_law_term : mg "_law_term" = some (.ref a.law_term)
  b_law_term : Binds K d.law_term ["_law_state", "_law_bound"] []
  F_law_settled : Fun K "_law_settled" "_law_settled" s_law_settled a.law_settled d.law_settled
  g_law_settled : mg "_law_settled" = some (.ref a.law_settled)
  b_law_settled : Binds K d.law_settled ["_law_term_here", "_law_bound"] []
  F_law_literal : Fun K "_law_literal" "_law_literal" s_law_literal a.law_literal d.law_literal
  g_law_literal : mg "_law_literal" = some (.ref a.law_literal)
  b_law_literal : Binds K d.law_literal ["_law_state", "_law_widths", "_law_bound", "_law_careful"] []
  F_law_binds : Fun K "_law_binds" "_law_binds" s_law_binds a.law_binds d.law_binds
  g_law_binds : mg "_law_binds" = some (.ref a.law_binds)
  b_law_binds : Binds K d.law_binds ["_law_literal_here"] []
  F_law_body : Fun K "_law_body" "_law_body" s_law_body a.law_body d.law_body
  g_law_body : mg "_law_body" = some (.ref a.law_body)
  b_law_body : Binds K d.law_body ["_law_state", "_law_widths", "_law_careful", "_law_most"] []
  F_law_rank : Fun K "_law_rank" "_law_rank" s_law_rank a.law_rank d.law_rank
  g_law_rank : mg "_law_rank" = some (.ref a.law_rank)
  b_law_rank : Binds K d.law_rank ["_law_value"] []
  F_law_met : Fun K "_law_met" "_law_met" s_law_met a.law_met d.law_met
  g_law_met : mg "_law_met" = some (.ref a.law_met)
  b_law_met : Binds K d.law_met ["_law_terms", "_law_row", "_law_way"] []
  F_law_of : Fun K "_law_of" "_law_of" s_law_of a.law_of d.law_of
  g_law_of : mg "_law_of" = some (.ref a.law_of)
  b_law_of : Binds K d.law_of ["_law_term_here", "_law_way"] []
  F_law_compared : Fun K "_law_compared" "_law_compared" s_law_compared a.law_compared d.law_compared
  g_law_compared : mg "_law_compared" = some (.ref a.law_compared)
  b_law_compared : Binds K d.law_compared ["_law_operator", "_law_first", "_law_second"] []
  F_law_goes_on : Fun K "_law_goes_on" "_law_goes_on" s_law_goes_on a.law_goes_on d.law_goes_on
  g_law_goes_on : mg "_law_goes_on" = some (.ref a.law_goes_on)
  b_law_goes_on : Binds K d.law_goes_on ["_law_literal_here", "_law_lookups", "_law_way"] []
  F_law_ways : Fun K "_law_ways" "_law_ways" s_law_ways a.law_ways d.law_ways
  g_law_ways : mg "_law_ways" = some (.ref a.law_ways)
  b_law_ways : Binds K d.law_ways ["_law_body_here", "_law_rows_here", "_law_lookups"] []
  F_law_rows : Fun K "_law_rows" "_law_rows" s_law_rows a.law_rows d.law_rows
  g_law_rows : mg "_law_rows" = some (.ref a.law_rows)
  b_law_rows : Binds K d.law_rows ["_law_state", "_law_widths"] []
  F_law_is_dict : Fun K "_law_is_dict" "_law_is_dict" s_law_is_dict a.law_is_dict d.law_is_dict
  g_law_is_dict : mg "_law_is_dict" = some (.ref a.law_is_dict)
  b_law_is_dict : Binds K d.law_is_dict ["_law_actual", "_law_expected"] []
  F_law : Fun K "law" "law" s_law a.law d.law
  g_law : mg "law" = some (.ref a.law)
  b_law : Binds K d.law ["_law_script"] []
  n_bool : mg "bool" = none
  n_dict : mg "dict" = none
  n_int : mg "int" = none
  n_isinstance : mg "isinstance" = none
  n_len : mg "len" = none
  n_list : mg "list" = none
  n_range : mg "range" = none
  n_repr : mg "repr" = none
  n_sorted : mg "sorted" = none
  n_str : mg "str" = none
  n_tuple : mg "tuple" = none
  n_zip : mg "zip" = none
local macro_rules | `(tactic| walk_at "len") => `(tactic| first | decide | omega | (simp only [List.length_append, List.length_map, List.length_replicate, List.length_cons, List.length_nil, List.length_take, List.length_drop, List.length_reverse, List.length_range]; omega))
local macro_rules | `(tactic| walk_at "str") => `(tactic| first | decide +kernel | exact goodS_ok (by assumption) | assumption)
local macro_rules | `(tactic| walk_at "1") => `(tactic| ((with_reducible show ∃ ds : List PyData, datsOf _ = some ds ∧ _); (refine ⟨_, rfl, ?_⟩)))
local macro_rules | `(tactic| walk_at "1") => `(tactic| ((with_reducible show List.length _ ≤ 1000000 ∧ _); (refine ⟨(by simp), ?_⟩)))
local macro_rules | `(tactic| walk_at "1") => `(tactic| ((with_reducible show ∃ i : Int, _ = Sl.int i ∧ _); (with_reducible refine ⟨_, rfl, ?_⟩)))
local macro_rules | `(tactic| walk_at "1") => `(tactic| ((with_reducible show ∃ b : Bool, _ = Sl.bl b ∧ _); (with_reducible refine ⟨_, rfl, ?_⟩)))
local macro_rules | `(tactic| walk_at "1") => `(tactic| ((with_reducible refine' ite_f ?hb ?_); (case hb => decide +kernel); skip))
local macro_rules | `(tactic| walk_at "1") => `(tactic| ((with_reducible refine' ite_t ?hb ?_); (case hb => decide +kernel); skip))
local macro_rules | `(tactic| walk_at "1") => `(tactic| (with_reducible refine ite_f rfl ?_))
local macro_rules | `(tactic| walk_at "1") => `(tactic| (with_reducible refine ite_t rfl ?_))
local macro_rules | `(tactic| walk_at "1") => `(tactic| ((with_reducible show WS _ Ends.nx _ _ _); (refine ws_next ?_)))
local macro_rules | `(tactic| walk_at "1") => `(tactic| (with_reducible refine ws_next ?_))
local macro_rules | `(tactic| walk_at "1") => `(tactic| ((with_reducible refine' ws_fldI ?hv ?c ?n ?_); (case hv => exact rfl); (case c => assumption); (case n => assumption); skip))
local macro_rules | `(tactic| walk_at "1") => `(tactic| ((with_reducible refine' w_dgetI ?hv ?hM ?hx ?_); (case hv => exact rfl); (case hM => first | assumption | exact um_same); (case hx => walk_at "wg"); skip))
local macro_rules | `(tactic| walk_at "1") => `(tactic| ((with_reducible refine' w_fldI ?hv ?hM ?c ?n ?l ?_); (case hv => exact rfl); (case hM => first | assumption | exact um_same); (case c => assumption); (case n => assumption); (case l => walk_at "fl"); skip))
local macro_rules | `(tactic| walk_at "1") => `(tactic| ((with_reducible show WL _ _ [_] _ _); (refine' wl_lenT ?hl ?_); (case hl => exact tpv_dat); skip))
local macro_rules | `(tactic| walk_at "1") => `(tactic| ((with_reducible show W2 _ (rCatA _) _ _ _ _); (refine' w2_catT ?hl ?_); (try (case hl => walk_at "len")); skip))
local macro_rules | `(tactic| walk_at "1") => `(tactic| ((with_reducible show WL _ (rTupS _) [Sl.dat (PyData.list _)] _ _); (refine wl_tuple lsv_dat ?_)))
local macro_rules | `(tactic| walk_at "1") => `(tactic| ((with_reducible show WSl _ (rSlA _) _ _ _ _ _); (refine wsl_tup ?_)))
local macro_rules | `(tactic| walk_at "1") => `(tactic| ((with_reducible show W _ (tC (V.ref _)) _ _ _); (refine w_raw ?_)))
local macro_rules | `(tactic| walk_at "1") => `(tactic| ((with_reducible show W _ (tC (V.ty _)) _ _ _); (refine w_raw ?_)))
local macro_rules | `(tactic| walk_at "1") => `(tactic| ((with_reducible show WL _ (rIsi _) [_, _] _ _); (refine' wl_isi ?hb ?_); (case hb => first | exact isi_bool _ | exact isi_int _ | exact isi_str _ | exact isi_tuple _ | exact isi_list _); skip))
local macro_rules | `(tactic| walk_at "1") => `(tactic| ((with_reducible show W2 _ (rIxT _) _ _ _ _); (refine' w2_ixT ?hx ?_); (case hx => exact rfl); skip))
local macro_rules | `(tactic| walk_at "1") => `(tactic| ((with_reducible show W2 _ (rIxL _) _ _ _ _); (refine' w2_ixL ?hs ?hx ?_); (case hs => first | exact lsv_dat | exact lsv_ref um_same | exact lsv_ref (by assumption)); (try (case hx => exact rfl)); skip))
local macro_rules | `(tactic| walk_at "1") => `(tactic| ((with_reducible first | show W2 _ (rIxL _) (Sl.dat (PyData.list (List.cons _ _))) (Sl.dat (PyData.int _)) _ _ | show W2 _ (rIxL _) (Sl.dat (PyData.list (List.map PyData.int (List.cons _ _)))) (Sl.dat (PyData.int _)) _ _); (refine' w2_ixAny ?h0 ?h1 ?_); (case h0 => omega); (case h1 => first | omega | (simp only [List.length_cons, List.length_nil, List.length_map]; omega)); skip))
local macro_rules | `(tactic| walk_at "1") => `(tactic| ((with_reducible show WL _ _ [_, _] _ _); (refine wl_min ?_)))
local macro_rules | `(tactic| walk_at "1") => `(tactic| ((with_reducible show WL _ _ [_] _ _); (refine wl_intb ?_)))
local macro_rules | `(tactic| walk_at "1") => `(tactic| ((with_reducible show WL _ _ [_] _ _); (refine wl_int ?_)))
local macro_rules | `(tactic| walk_at "1") => `(tactic| ((with_reducible show WSl _ (rSlL _) _ _ _ _ _); (refine' wsl_lst ?hl ?_); (case hl => first | exact lsv_dat | exact lsv_ref um_same | exact lsv_ref (by assumption)); skip))
local macro_rules | `(tactic| walk_at "1") => `(tactic| ((with_reducible show WL _ _ [_] _ _); (refine' wl_list ?hl ?_); (case hl => first | exact .inl lsv_dat | exact .inl (lsv_ref (by assumption))); skip))
local macro_rules | `(tactic| walk_at "1") => `(tactic| ((with_reducible show WL _ _ [_] _ _); (refine' wl_len ?hl ?_); (case hl => first | exact lsv_dat | exact lsv_ref um_same | exact lsv_ref (by assumption)); skip))
local macro_rules | `(tactic| walk_at "1") => `(tactic| ((with_reducible refine' w2_rep1 ?h1 ?h2 ?_); (try (case h1 => first | decide | omega)); (try (case h2 => first | decide | omega)); skip))
local macro_rules | `(tactic| walk_at "1") => `(tactic| ((with_reducible refine' w2_catE ?hl ?_); (try (case hl => walk_at "len")); skip))
local macro_rules | `(tactic| walk_at "1") => `(tactic| (with_reducible refine wsl_E ?_))
local macro_rules | `(tactic| walk_at "1") => `(tactic| (with_reducible refine wl_listE ?_))
local macro_rules | `(tactic| walk_at "1") => `(tactic| (with_reducible refine wl_lenTD ?_))
local macro_rules | `(tactic| walk_at "1") => `(tactic| (with_reducible refine wl_lenD ?_))
local macro_rules | `(tactic| walk_at "1") => `(tactic| (with_reducible refine wl_lenE ?_))
local macro_rules | `(tactic| walk_at "1") => `(tactic| ((with_reducible show W2 _ _ _ _ _ _); (refine w2_notN ?_)))
local macro_rules | `(tactic| walk_at "1") => `(tactic| ((with_reducible show W2 _ rNotB _ _ _ _); (refine w2_notB ?_)))
local macro_rules | `(tactic| walk_at "1") => `(tactic| ((with_reducible show W2 _ rIsB _ _ _ _); (refine w2_isB ?_)))
local macro_rules | `(tactic| walk_at "1") => `(tactic| ((with_reducible show W2 _ _ _ _ _ _); (refine w2_isN ?_)))
local macro_rules | `(tactic| walk_at "1") => `(tactic| ((with_reducible show W2 _ (rNeD _) _ _ _ _); (refine w2_ne ?ha ?hb ?_); (case ha => first | exact shaped_int _ | exact shaped_bool _ | exact shaped_none); (case hb => first | exact shaped_int _ | exact shaped_bool _ | exact shaped_none); skip))
local macro_rules | `(tactic| walk_at "1") => `(tactic| ((with_reducible show W2 _ (rEqD _) _ _ _ _); (refine w2_eq ?ha ?hb ?_); (case ha => first | exact shaped_int _ | exact shaped_bool _ | exact shaped_none); (case hb => first | exact shaped_int _ | exact shaped_bool _ | exact shaped_none); skip))
local macro_rules | `(tactic| walk_at "1") => `(tactic| ((with_reducible show W2 _ (rNeD _) (Sl.dat (PyData.str _)) (Sl.dat (PyData.str _)) _ _); (refine' w2_neS ?h1 ?h2 ?_); (case h1 => walk_at "str"); (case h2 => walk_at "str"); skip))
local macro_rules | `(tactic| walk_at "1") => `(tactic| ((with_reducible show W2 _ (rEqD _) (Sl.dat (PyData.str _)) (Sl.dat (PyData.str _)) _ _); (refine' w2_eqS ?h1 ?h2 ?_); (case h1 => walk_at "str"); (case h2 => walk_at "str"); skip))
local macro_rules | `(tactic| walk_at "1") => `(tactic| ((with_reducible show W2 _ (rNeD _) (Sl.dat (PyData.int _)) (Sl.dat (PyData.int _)) _ _); (refine w2_neI ?_)))
local macro_rules | `(tactic| walk_at "1") => `(tactic| ((with_reducible show W2 _ (rEqD _) (Sl.dat (PyData.int _)) (Sl.dat (PyData.int _)) _ _); (refine w2_eqI ?_)))
local macro_rules | `(tactic| walk_at "1") => `(tactic| ((with_reducible refine' w_var ?hv ?_); (case hv => exact rfl); skip))
local macro_rules | `(tactic| walk_at "1") => `(tactic| ((with_reducible refine w2_i ?hc ?_); (case hc => first | decide | exact ⟨by decide, by decide⟩ | exact Or.inl ⟨by decide, by decide⟩ | exact Or.inr ⟨by decide, by decide⟩ | exact ⟨by decide, by decide, by decide⟩ | omega); skip))
local macro_rules | `(tactic| walk_at "1") => `(tactic| (with_reducible refine w1_neg ?_))
local macro_rules | `(tactic| walk_at "1") => `(tactic| (with_reducible refine w2_b0 ?_))
local macro_rules | `(tactic| walk_at "1") => `(tactic| (with_reducible refine w2_i0 ?_))
local macro_rules | `(tactic| walk_at "1") => `(tactic| (with_reducible refine wt_yes ?_))
local macro_rules | `(tactic| walk_at "1") => `(tactic| (with_reducible refine wt_not ?_))
local macro_rules | `(tactic| walk_at "1") => `(tactic| (with_reducible refine wt_or ?_))
local macro_rules | `(tactic| walk_at "1") => `(tactic| (with_reducible refine wt_and ?_))
local macro_rules | `(tactic| walk_at "1") => `(tactic| (with_reducible refine wt_B ?_))
local macro_rules | `(tactic| walk_at "1") => `(tactic| (with_reducible refine wt_test ?_))
local macro_rules | `(tactic| walk_at "1") => `(tactic| (with_reducible refine wa_nil ?_))
local macro_rules | `(tactic| walk_at "1") => `(tactic| (with_reducible refine wa_cons ?_))
local macro_rules | `(tactic| walk_at "1") => `(tactic| (with_reducible refine wo_some ?_))
local macro_rules | `(tactic| walk_at "1") => `(tactic| (with_reducible refine wo_none ?_))
local macro_rules | `(tactic| walk_at "1") => `(tactic| (with_reducible refine w_notV ?_))
local macro_rules | `(tactic| walk_at "1") => `(tactic| (with_reducible refine w_orV ?_))
local macro_rules | `(tactic| walk_at "1") => `(tactic| (with_reducible refine w_andV ?_))
local macro_rules | `(tactic| walk_at "1") => `(tactic| (with_reducible refine w_chain ?_))
local macro_rules | `(tactic| walk_at "1") => `(tactic| (with_reducible refine w_tupD ?_))
local macro_rules | `(tactic| walk_at "1") => `(tactic| (with_reducible refine w_sl ?_))
local macro_rules | `(tactic| walk_at "1") => `(tactic| (with_reducible refine w_call ?_))
local macro_rules | `(tactic| walk_at "1") => `(tactic| (with_reducible refine w_cb ?_))
local macro_rules | `(tactic| walk_at "1") => `(tactic| (with_reducible refine w_str ?_))
local macro_rules | `(tactic| walk_at "1") => `(tactic| (with_reducible refine w_non ?_))
local macro_rules | `(tactic| walk_at "1") => `(tactic| (with_reducible refine w_bl ?_))
local macro_rules | `(tactic| walk_at "1") => `(tactic| (with_reducible refine w_int ?_))
local macro_rules | `(tactic| walk_at "1") => `(tactic| (with_reducible refine w_un ?_))
local macro_rules | `(tactic| walk_at "1") => `(tactic| (with_reducible refine w_op ?_))
local macro_rules | `(tactic| walk_at "1") => `(tactic| (with_reducible refine ws_drop ?_))
local macro_rules | `(tactic| walk_at "1") => `(tactic| (with_reducible refine ws_if ?_))
local macro_rules | `(tactic| walk_at "1") => `(tactic| (with_reducible refine ws_ret ?_))
local macro_rules | `(tactic| walk_at "1") => `(tactic| (with_reducible refine ws_set ?_))
local macro_rules | `(tactic| walk_at "1e") => `(tactic| walk_at "1")
local macro_rules | `(tactic| walk_at "1e") => `(tactic| (with_reducible refine ws_seq ?_))
local macro_rules | `(tactic| walk_at "1g") => `(tactic| (with_reducible refine w_lstD ?_))
local macro_rules | `(tactic| walk_at "1g") => `(tactic| ((with_reducible refine w_lstI (wa_cons ?_)); (repeat (walk_at "1")); (with_reducible show ∃ ns : List Int, itemsI _ = some ns ∧ _); (refine ⟨_, rfl, ?_⟩)))
local macro_rules | `(tactic| walk_at "1g") => `(tactic| walk_at "1")
local macro_rules | `(tactic| walk_at "1f") => `(tactic| walk_at "1g")
local macro_rules | `(tactic| walk_at "1f") => `(tactic| (with_reducible refine ws_seq ?_))
local macro_rules | `(tactic| walk_at "e") => `(tactic| repeat (walk_at "1e"))
local macro_rules | `(tactic| walk_at "g") => `(tactic| repeat (walk_at "1g"))
local macro_rules | `(tactic| walk_at "f") => `(tactic| repeat (walk_at "1f"))
local macro_rules | `(tactic| walk_at "k") => `(tactic| first | dsimp only [cxOf, Cx.nox, Cx.wish] | skip)
section
variable {P : Program} {w : World} {K : PySem.W.Frag} {mg : Str → Option Value} {base : Heap} {a : AD} {d : FD}
def A_value_key : ASp := fun ss M Q => ∃ v : Val, ss = [.dat v.enc] ∧ Q (.dat (vkey v)) M
theorem ok_value_key (T : Txt K mg a d) : FnOk P w K mg base CX0 1 a.value_key d.value_key ["value"] (conc K A_value_key) := by
  refine ab_ok T.F_value_key sc_value_key (fun ss M Q ⟨v, e, _⟩ => by subst e; rfl) fun cdv Ar outer s H E hr => ⟨_, (pss_cons (ps_if (pt_val (pe_callB (r := rIsi K) call_isi (by rfl) T.n_isinstance (by decide +kernel) (pa_cons (pv 0) (pa_cons (pe_bltn (v := .ty "str") (u := .type "str") (by rfl) T.n_str (by decide +kernel) rfl) pa_nil)))) (pss_one (ps_ret (pe_tup (pa_cons pe_int (pa_cons (pv 0) pa_nil))))) pss_nil)
  (pss_one (ps_ret (pe_tup (pa_cons pe_int (pa_cons (pv 0) pa_nil)))))), ?_⟩
  rintro ss M Q ⟨v, rfl, q⟩
  walk_at "k"
  show WS K _ [some (.dat v.enc)] M _
  cases v with
  | int n =>
    walk_at "e"
    exact q
  | str z =>
    walk_at "e"
    exact q
end
section
section
variable {P : Program} {w : World} {K : PySem.W.Frag} {mg : Str → Option Value} {base : Heap} {a : AD} {d : FD}
def isI : Val → Bool
  | .int _ => true
  | .str _ => false
def A_isint : ASp := fun ss M Q => ∃ v : Val, ss = [.dat v.enc] ∧ Q (.bl (isI v)) M
theorem ok_is_integer (T : Txt K mg a d) : FnOk P w K mg base CX0 1 a.is_integer d.is_integer ["value"] (conc K A_isint) := by
  refine ab_ok T.F_is_integer sc_is_integer (fun ss M Q ⟨v, e, _⟩ => by subst e; rfl) fun cdv Ar outer s H E hr => ⟨_, (pss_one (ps_ret (pe_and (pe_callB (r := rIsi K) call_isi (by rfl) T.n_isinstance (by decide +kernel) (pa_cons (pv 0) (pa_cons (pe_bltn (v := .ty "int") (u := .type "int") (by rfl) T.n_int (by decide +kernel) rfl) pa_nil))) (pe_one (pe_not (pe_callB (r := rIsi K) call_isi (by rfl) T.n_isinstance (by decide +kernel) (pa_cons (pv 0) (pa_cons (pe_bltn (v := .ty "bool") (u := .type "bool") (by rfl) T.n_bool (by decide +kernel) rfl) pa_nil)))))))), ?_⟩
  rintro ss M Q ⟨v, rfl, q⟩
  walk_at "k"
  show WS K _ [some (.dat v.enc)] M _
  cases v with
  | int n =>
    walk_at "e"
    exact q
  | str z =>
    walk_at "e"
    exact q
def A_value_of : ASp := fun ss M Q => ∃ (t : Term) (w : Way) (b : Nat), ss = [.dat t.enc, .dat (encW w)] ∧ hasT w t ∧ termB b t ∧ Q (.dat (valF w t).enc) M
theorem ok_value_of (T : Txt K mg a d) : FnOk P w K mg base CX0 1 a.value_of d.value_of ["term", "values"] (conc K A_value_of) := by
  refine ab_ok T.F_value_of sc_value_of (fun ss M Q ⟨t, w, b, e, _⟩ => by subst e; rfl) fun cdv Ar outer s H E hr => ?_
  have hu64 := hr.units
  refine ⟨_, (pss_cons (ps_if (pt_cmpR (r := rEqD K) (op_eqD hu64) (pe_ix (r := rIxT K) ix_tup (pv 0) pe_int (fun _ _ => rfl)) pe_str (nomark _)) (pss_one (ps_ret (pe_ix (r := rIxT K) ix_tup (pv 0) pe_int (fun _ _ => rfl)))) pss_nil)
  (pss_one (ps_ret (pe_dget (hu1 hu64) (pv 1) (pe_ix (r := rIxT K) ix_tup (pv 0) pe_int (fun _ _ => rfl)) (fun _ _ => rfl))))), ?_⟩
  rintro ss M Q ⟨t, w, b, rfl, ht, hb, q⟩
  walk_at "k"
  cases t with
  | any => exact ht.elim
  | value v =>
    show WS K _ [some (.dat (.tuple [.str "value", v.enc])), some (.dat (encW w))] M _
    walk_at "f"
    exact q
  | «variable» y =>
    show WS K _ [some (.dat (.tuple [.str "variable", .str y])), some (.dat (encW w))] M _
    obtain ⟨v, hv⟩ := valG_of ht
    walk_at "f"
    refine w_getE (w_var rfl (w_op (w_var rfl (w_int (w2_ixT rfl ⟨_, Val.enc, w, y, v, rfl, rfl, hv, ?_⟩)))))
    have e : valF w (.variable y) = v := by
      show (valG w y).getD (.int 0) = v
      rw [hv]; rfl
    rw [e] at q
    exact q
def A_compares : ASp := fun ss M Q => ∃ (op : Str) (v u : Val) (b : Nat), ss = [.str op, .dat v.enc, .dat u.enc] ∧ op ∈ opsC ∧ vb b v ∧ vb b u ∧ Q (.bl (cmpF op v u)) M
theorem ok_compares (T : Txt K mg a d) : FnOk P w K mg base CX0 2 a.compares d.compares ["operator", "first", "second"] (conc K A_compares) := by
  have G_value_key : FnOk P w K mg base CX0 1 a.value_key d.value_key ["value"] (conc K A_value_key) := ok_value_key T
  refine ab_ok T.F_compares sc_compares (fun ss M Q ⟨op, v, u, b, e, _⟩ => by subst e; rfl) fun cdv Ar outer s H E hr => ?_
  have hu64 := hr.units
  refine ⟨_, (pss_cons (ps_set (i := 3) sc_compares.nd rfl (Or.inl rfl) (pe_call G_value_key (hr.mono (by omega)) (by rfl) T.g_value_key T.F_value_key.kp T.b_value_key .nil pass0 (pa_cons (pv 1) pa_nil)))
  (pss_cons (ps_set (i := 4) sc_compares.nd rfl (Or.inl rfl) (pe_call G_value_key (hr.mono (by omega)) (by rfl) T.g_value_key T.F_value_key.kp T.b_value_key .nil pass0 (pa_cons (pv 2) pa_nil)))
  (pss_cons (ps_if (pt_cmpR (r := rEqD K) (op_eqD hu64) (pv 0) pe_str (nomark _)) (pss_one (ps_ret (pe_cmpR (r := rEqD K) (op_eqD hu64) (pv 3) (pv 4) (nomark _)))) pss_nil)
  (pss_cons (ps_if (pt_cmpR (r := rEqD K) (op_eqD hu64) (pv 0) pe_str (nomark _)) (pss_one (ps_ret (pe_cmpR (r := rNeD K) (op_neD hu64) (pv 3) (pv 4) (nomark _)))) pss_nil)
  (pss_cons (ps_if (pt_cmpR (r := rEqD K) (op_eqD hu64) (pv 0) pe_str (nomark _)) (pss_one (ps_ret (pe_cmpR (r := rCmp .Lt K) (op_ltD hu64) (pv 3) (pv 4) (nomark _)))) pss_nil)
  (pss_cons (ps_if (pt_cmpR (r := rEqD K) (op_eqD hu64) (pv 0) pe_str (nomark _)) (pss_one (ps_ret (pe_cmpR (r := rCmp .LtE K) (op_leD hu64) (pv 3) (pv 4) (nomark _)))) pss_nil)
  (pss_cons (ps_if (pt_cmpR (r := rEqD K) (op_eqD hu64) (pv 0) pe_str (nomark _)) (pss_one (ps_ret (pe_cmpR (r := rCmp .Gt K) (op_gtD hu64) (pv 3) (pv 4) (nomark _)))) pss_nil)
  (pss_one (ps_ret (pe_cmpR (r := rCmp .GtE K) (op_geD hu64) (pv 3) (pv 4) (nomark _))))))))))), ?_⟩
  rintro ss M Q ⟨op, v, u, b, rfl, ho, hv, hu, q⟩
  walk_at "k"
  have sv := shapedK hv
  have su := shapedK hu
  show WS K _ [some (.str op), some (.dat v.enc), some (.dat u.enc), none, none] M _
  refine ws_seq (ws_set (w_call (wa_cons (w_var rfl (wa_nil ⟨v, rfl, ?_⟩)))))
  refine ws_seq (ws_set (w_call (wa_cons (w_var rfl (wa_nil ⟨u, rfl, ?_⟩)))))
  show WS K _ [some (.str op), some (.dat v.enc), some (.dat u.enc), some (.dat (vkey v)), some (.dat (vkey u))] M _
  simp only [opsC, List.mem_cons, List.not_mem_nil, or_false] at ho
  rcases ho with rfl | rfl | rfl | rfl | rfl | rfl
  · walk_at "f"
    refine w2_eq sv su ?_
    rw [eqv_vkey]
    exact q
  · walk_at "f"
    refine w2_ne sv su ?_
    rw [eqv_vkey]
    exact q
  · walk_at "f"
    refine w2_cmp (ok_vkey v u) sv su ?_
    rw [lt_vkey]
    exact q
  · walk_at "f"
    refine w2_cmp (ok_vkey v u) sv su ?_
    rw [le_vkey]
    exact q
  · walk_at "f"
    refine w2_cmp (ok_vkey v u) sv su ?_
    rw [gt_vkey]
    exact q
  · walk_at "f"
    refine w2_cmp (ok_vkey v u) sv su ?_
    rw [ge_vkey]
    exact q
def optI : Option Int → PyData
  | none => .none
  | some i => .int i
def A_reckoned : ASp := fun ss M Q => ∃ (op : Str) (v u : Val) (b : Nat), ss = [.str op, .dat v.enc, .dat u.enc] ∧ op ∈ opsI ∧ vb b v ∧ vb b u ∧ 0 < b ∧ b ≤ 400000 ∧ Q (.dat (optI (reckF op v u))) M
theorem ok_reckoned (T : Txt K mg a d) : FnOk P w K mg base CX0 2 a.reckoned d.reckoned ["operator", "first", "second"] (conc K A_reckoned) := by
  have G_is_integer : FnOk P w K mg base CX0 1 a.is_integer d.is_integer ["value"] (conc K A_isint) := ok_is_integer T
  refine ab_ok T.F_reckoned sc_reckoned (fun ss M Q ⟨op, v, u, b, e, _⟩ => by subst e; rfl) fun cdv Ar outer s H E hr => ?_
  have hu64 := hr.units
  refine ⟨_, (pss_cons (ps_if (PW.pt (pw_or (pt_not (pt_val (pe_call G_is_integer (hr.mono (by omega)) (by rfl) T.g_is_integer T.F_is_integer.kp T.b_is_integer .nil pass0 (pa_cons (pv 1) pa_nil)))) (pw_or1 (pt_not (pt_val (pe_call G_is_integer (hr.mono (by omega)) (by rfl) T.g_is_integer T.F_is_integer.kp T.b_is_integer .nil pass0 (pa_cons (pv 2) pa_nil))))))) (pss_one (ps_ret pe_non)) pss_nil)
  (pss_cons (ps_if (pt_cmpR (r := rEqD K) (op_eqD hu64) (pv 0) pe_str (nomark _)) (pss_one (ps_ret (pe_op op_add (pv 1) (pv 2)))) pss_nil)
  (pss_cons (ps_if (pt_cmpR (r := rEqD K) (op_eqD hu64) (pv 0) pe_str (nomark _)) (pss_one (ps_ret (pe_op op_sub (pv 1) (pv 2)))) pss_nil)
  (pss_one (ps_ret (pe_op op_mulW (pv 1) (pv 2))))))), ?_⟩
  rintro ss M Q ⟨op, v, u, b, rfl, ho, hv, hu, b0, b1, q⟩
  walk_at "k"
  show WS K _ [some (.str op), some (.dat v.enc), some (.dat u.enc)] M _
  cases v with
  | str z =>
    walk_at "f"
    refine ⟨.str z, rfl, ⟨_, rfl, ?_⟩⟩
    walk_at "f"
    exact q
  | int i =>
    cases u with
    | str z =>
      walk_at "f"
      refine ⟨.int i, rfl, ⟨_, rfl, ?_⟩⟩
      walk_at "f"
      refine ⟨.str z, rfl, ⟨_, rfl, ?_⟩⟩
      walk_at "f"
      exact q
    | int j =>
      walk_at "f"
      refine ⟨.int i, rfl, ⟨_, rfl, ?_⟩⟩
      walk_at "f"
      refine ⟨.int j, rfl, ⟨_, rfl, ?_⟩⟩
      simp only [opsI, List.mem_cons, List.not_mem_nil, or_false] at ho
      rcases ho with rfl | rfl | rfl
      · walk_at "f"
        exact w2_i0 (i := i) (j := j) q
      · walk_at "f"
        exact w2_i0 (i := i) (j := j) q
      · walk_at "f"
        exact w2_i (i := i) (j := j) (wide_mul hv hu b0 b0 (by omega)) q
theorem eqv_V (v u : Val) : PyData.eqv v.enc u.enc = decide (v = u) := eqv_val v u
def A_bound : ASp := fun ss M Q => ∃ (y : Str) (v : Val) (w : Way) (b : Nat), ss = [.str y, .dat v.enc, .dat (encW w)] ∧ goodS y = true ∧ vb b v ∧ wayB b w ∧ w.length ≤ 100000 ∧ Q (.dat (optW (boundF w y v))) M
theorem ok_bound (T : Txt K mg a d) : FnOk P w K mg base CX0 1 a.bound d.bound ["variable", "value", "values"] (conc K A_bound) := by
  refine ab_ok T.F_bound sc_bound (fun ss M Q ⟨y, v, w, b, e, _⟩ => by subst e; rfl) fun cdv Ar outer s H E hr => ?_
  have hu64 := hr.units
  refine ⟨_, (pss_cons (ps_if (PW.pt (pw_and (pt_cmp (pc_din (hu1 hu64) (pv 0) (pv 2))) (pw_and1 (pt_cmpR (r := rNeD K) (op_neD hu64) (pe_dget (hu1 hu64) (pv 2) (pv 0) (fun _ _ => rfl)) (pv 1) (nomark _))))) (pss_one (ps_ret pe_non)) pss_nil)
  (pss_cons (ps_set (i := 3) sc_bound.nd rfl (Or.inl rfl) (pe_callTy (r := rDictD) call_dictD (by rfl) T.n_dict (by decide +kernel) (pa_cons (pv 2) pa_nil)))
  (pss_cons (ps_dput (hu1 hu64) (pv 3) (pv 0) (pv 1) rfl)
  (pss_one (ps_ret (pv 3)))))), ?_⟩
  rintro ss M Q ⟨y, v, w, b, rfl, gy, hv, hw, hl, q⟩
  walk_at "k"
  show WS K _ [some (.str y), some (.dat v.enc), some (.dat (encW w)), none] M _
  have fin : Q (.dat (encW (putG w y v))) M → WS K (tSeq (tAsg (tCB rDictD (tCons (tVar 2) tNil)) (gName 3)) (tSeq (sDPut (tVar 3) (tVar 0) (tVar 1)) (tRet (tVar 3)))) [some (.str y), some (.dat v.enc), some (.dat (encW w)), none] M ⟨fun _ M' => Q .non M', Q, NoR, NoR⟩ := fun q2 => by
    refine ws_seq (ws_set (w_cb (wa_cons (w_var rfl (wa_nil (wl_dictE fun p hp => ?_))))))
    refine ws_seq (ws_dput (w_var rfl (w_var rfl (w_var rfl ⟨p, slD Val.enc w, .inr y, rfl, rfl, um_same, by rw [List.length_map]; omega, ?_⟩))))
    rw [um_um, slD_put]
    refine ws_ret (w_frzE (w_var rfl ⟨p, putG w y v, rfl, um_same, ?_⟩))
    rw [del_um hp]
    exact q2
  unfold boundF at q
  cases e : valG w y with
  | none =>
    rw [e] at q
    refine ws_seq (ws_if (wt_and (wt_B (w_inE (w_var rfl (w_var rfl ⟨_, Val.enc, w, y, rfl, rfl, ?_⟩))))))
    rw [e]
    refine ⟨_, rfl, ?_⟩
    rw [if_neg (by decide)]
    exact ws_next (fin q)
  | some u =>
    rw [e] at q
    dsimp only at q
    have hu := (hw.g _ (valG_mem e)).2
    refine ws_seq (ws_if (wt_and (wt_B (w_inE (w_var rfl (w_var rfl ⟨_, Val.enc, w, y, rfl, rfl, ?_⟩))))))
    rw [e]
    refine ⟨_, rfl, ?_⟩
    rw [if_pos (by rfl)]
    refine wt_test (w_op (w_getE (w_var rfl (w_var rfl ⟨_, Val.enc, w, y, u, rfl, rfl, e, w_var rfl (w2_ne (shapedV hu) (shapedV hv) ⟨_, rfl, ?_⟩)⟩))))
    rw [eqv_V]
    by_cases c : u = v
    · rw [if_pos c] at q
      rw [if_neg (by simp [c])]
      exact ws_next (fin q)
    · rw [if_neg c] at q
      rw [if_pos (by simp [c])]
      walk_at "f"
      exact q
end
end
section
section
variable {P : Program} {w : World} {K : PySem.W.Frag} {mg : Str → Option Value} {base : Heap} {a : AD} {d : FD}
theorem metZ_step {ts : List Term} {row : List Val} {i : Nat} (h1 : i < ts.length) (h2 : i < row.length) (w : Way) : metZ (ts.drop i) (row.drop i) w = (metT ts[i] row[i] w).bind (metZ (ts.drop (i + 1)) (row.drop (i + 1))) := by
  rw [List.drop_eq_getElem_cons h1, List.drop_eq_getElem_cons h2]
  rfl
def A_met : ASp := fun ss M Q => ∃ (ts : List Term) (row : List Val) (w : Way) (b : Nat), ss = [.dat (encT ts), .dat (encR row), .dat (encW w)] ∧ (∀ t ∈ ts, termB b t) ∧ ts.length ≤ 1000 ∧ rowB b row ∧ wayB b w ∧ w.length ≤ 100000 ∧ Q (.dat (optW (metF ts row w))) M
theorem ok_met (T : Txt K mg a d) : FnOk P w K mg base CX0 1 a.met d.met ["terms", "row", "values"] (conc K A_met) := by
  refine ab_ok T.F_met sc_met (fun ss M Q ⟨ts, row, w, b, e, _⟩ => by subst e; rfl) fun cdv Ar outer s H E hr => ?_
  have hu64 := hr.units
  refine ⟨_, (pss_cons (ps_if (pt_cmpR (r := rNeD K) (op_neD hu64) (pe_callB (r := rLenS K) call_len_seq (by rfl) T.n_len PySem.boot_len (pa_cons (pv 0) pa_nil)) (pe_callB (r := rLenS K) call_len_seq (by rfl) T.n_len PySem.boot_len (pa_cons (pv 1) pa_nil)) (nomark _)) (pss_one (ps_ret pe_non)) pss_nil)
  (pss_cons (ps_set (i := 3) sc_met.nd rfl (Or.inl rfl) (pe_callTy (r := rDictD) call_dictD (by rfl) T.n_dict (by decide +kernel) (pa_cons (pv 2) pa_nil)))
  (pss_cons (ps_for PassesOwn.never rfl (RZ.pi_zipA rfl T.n_zip (pa_cons (pv 0) (pa_cons (pv 1) pa_nil))) (pg_tupK (K := K) (n := 2) rfl rfl (pgs_cons (pg_name (i := 4) sc_met.nd rfl (Or.inl rfl)) (pgs_cons (pg_name (i := 5) sc_met.nd rfl (Or.inl rfl)) pgs_nil))) (pss_cons (ps_if (PW.pt (pw_and (pt_cmpR (r := rEqD K) (op_eqD hu64) (pe_ix (r := rIxT K) ix_tup (pv 4) pe_int (fun _ _ => rfl)) pe_str (nomark _)) (pw_and1 (pt_cmpR (r := rNeD K) (op_neD hu64) (pe_ix (r := rIxT K) ix_tup (pv 4) pe_int (fun _ _ => rfl)) (pv 5) (nomark _))))) (pss_one (ps_ret pe_non)) pss_nil)
  (pss_one (ps_if (pt_cmpR (r := rEqD K) (op_eqD hu64) (pe_ix (r := rIxT K) ix_tup (pv 4) pe_int (fun _ _ => rfl)) pe_str (nomark _)) (pss_cons (ps_if (PW.pt (pw_and (pt_cmp (pc_din (hu1 hu64) (pe_ix (r := rIxT K) ix_tup (pv 4) pe_int (fun _ _ => rfl)) (pv 3))) (pw_and1 (pt_cmpR (r := rNeD K) (op_neD hu64) (pe_dget (hu1 hu64) (pv 3) (pe_ix (r := rIxT K) ix_tup (pv 4) pe_int (fun _ _ => rfl)) (fun _ _ => rfl)) (pv 5) (nomark _))))) (pss_one (ps_ret pe_non)) pss_nil)
  (pss_one (ps_dput (hu1 hu64) (pv 3) (pe_ix (r := rIxT K) ix_tup (pv 4) pe_int (fun _ _ => rfl)) (pv 5) rfl))) pss_nil))))
  (pss_one (ps_ret (pv 3)))))), ?_⟩
  rintro ss M Q ⟨ts, row, w, b, rfl, ht, hl, hr1, hw, hwl, q⟩
  walk_at "k"
  show WS K _ [some (.dat (encT ts)), some (.dat (encR row)), some (.dat (encW w)), none, none, none] M _
  unfold metF at q
  by_cases hlen : ts.length = row.length
  · rw [if_pos hlen] at q
    walk_at "f"
    rw [List.length_map, List.length_map, if_neg (by simp [hlen])]
    refine ws_next ?_
    refine ws_seq (ws_set (w_cb (wa_cons (w_var rfl (wa_nil (wl_dictE fun p hp => ?_))))))
    refine ws_mid (fun ρ' M' => ∃ w' z4 z5, ρ' = [some (.dat (encT ts)), some (.dat (encR row)), some (.dat (encW w)), some (.raw (.ref p)), z4, z5] ∧ M' = Ab.um M p (.dK (slD Val.enc w')) ∧ metZ ts row w = some w') ?_ ?_
    · refine ws_for (wi_zipT (wa_cons (w_var rfl (wa_cons (w_var rfl (wa_nil ⟨ts.map Term.enc, row.map Val.enc, rfl, fun i ρ' M' => ∃ w' z4 z5, ρ' = [some (.dat (encT ts)), some (.dat (encR row)), some (.dat (encW w)), some (.raw (.ref p)), z4, z5] ∧ M' = Ab.um M p (.dK (slD Val.enc w')) ∧ metZ ts row w = metZ (ts.drop i) (row.drop i) w' ∧ wayB b w' ∧ w'.length ≤ w.length + i, ⟨w, _, _, rfl, rfl, rfl, hw, Nat.le_refl _⟩, fun _ _ _ _ _ => trivial, fun i ρ' M' hi hJ => ?_, fun ρ' M' hJ => ?_⟩))))))
      · obtain ⟨w', z4, z5, rfl, rfl, he, hwb, hw'⟩ := hJ
        rw [List.length_map, List.length_map] at hi
        have h1 : i < ts.length := by omega
        have h2 : i < row.length := by omega
        have tb := ht ts[i] (List.getElem_mem h1)
        have rb := hr1.2 row[i] (List.getElem_mem h2)
        have g1 : (ts.map Term.enc).getD i .none = ts[i].enc := by
          rw [List.getD_eq_getElem?_getD, List.getElem?_map, List.getElem?_eq_getElem h1]; rfl
        have g2 : (row.map Val.enc).getD i .none = row[i].enc := by
          rw [List.getD_eq_getElem?_getD, List.getElem?_map, List.getElem?_eq_getElem h2]; rfl
        rw [metZ_step h1 h2] at he
        dsimp only
        rw [g1, g2]
        have mo := @metT_ok b ts[i] row[i] w'
        generalize ts[i] = t at tb he mo
        generalize row[i] = v at rb he mo
        refine wg_tup (ds := [t.enc, v.enc]) rfl rfl (wgs_cons (wg_name (wgs_cons (wg_name (wgs_nil ?_)))))
        have none_ : metT t v w' = none → Q (.dat .none) M := fun e => by
          rw [he, e] at q
          exact q
        have some_ : ∀ w2, metT t v w' = some w2 → metZ ts row w = metZ (ts.drop (i + 1)) (row.drop (i + 1)) w2 ∧ wayB b w2 ∧ w2.length ≤ w.length + (i + 1) := fun w2 e => by
          obtain ⟨m1, m2⟩ := mo hwb tb rb e
          refine ⟨?_, m1, by omega⟩
          rw [he, e]
          rfl
        have retN : Q (.dat .none) M → ∀ {ρ2 : Rho} {x : MO} {nx bk ct : Rho → MH → Prop}, WS K (tRet (tC .non)) ρ2 (Ab.um M p x) ⟨nx, Q, bk, ct⟩ := fun q0 => fun {ρ2 x nx bk ct} => by
          refine ws_ret (w_dropE (w_non ⟨p, ?_⟩))
          rw [del_um hp]
          exact q0
        cases t with
        | any =>
          show WS K _ [some (.dat (encT ts)), some (.dat (encR row)), some (.dat (encW w)), some (.raw (.ref p)), some (.dat (.tuple [.str "any"])), some (.dat v.enc)] _ _
          walk_at "f"
          obtain ⟨s1, s2, s3⟩ := some_ w' rfl
          exact ⟨w', _, _, rfl, rfl, s1, s2, s3⟩
        | value x =>
          show WS K _ [some (.dat (encT ts)), some (.dat (encR row)), some (.dat (encW w)), some (.raw (.ref p)), some (.dat (.tuple [.str "value", x.enc])), some (.dat v.enc)] _ _
          walk_at "f"
          refine w2_ne (shapedV tb) (shapedV rb) ⟨_, rfl, ?_⟩
          rw [eqv_V]
          by_cases c : x = v
          · rw [if_neg (by simp [c])]
            walk_at "f"
            obtain ⟨s1, s2, s3⟩ := some_ w' (if_pos c)
            exact ⟨w', _, _, rfl, rfl, s1, s2, s3⟩
          · rw [if_pos (by simp [c])]
            exact retN (none_ (if_neg c))
        | «variable» y =>
          show WS K _ [some (.dat (encT ts)), some (.dat (encR row)), some (.dat (encW w)), some (.raw (.ref p)), some (.dat (.tuple [.str "variable", .str y])), some (.dat v.enc)] _ _
          have put : ∀ {bk ct : Rho → MH → Prop}, metT (.variable y) v w' = some (putG w' y v) → WS K (sDPut (tVar 3) (tOp (rIxT K) (tVar 4) (tC (.int 1))) (tVar 5)) [some (.dat (encT ts)), some (.dat (encR row)), some (.dat (encW w)), some (.raw (.ref p)), some (.dat (.tuple [.str "variable", .str y])), some (.dat v.enc)] (Ab.um M p (.dK (slD Val.enc w'))) ⟨fun ρ' M' => ∃ w' z4 z5, ρ' = [some (.dat (encT ts)), some (.dat (encR row)), some (.dat (encW w)), some (.raw (.ref p)), z4, z5] ∧ M' = Ab.um M p (.dK (slD Val.enc w')) ∧ metZ ts row w = metZ (ts.drop (i + 1)) (row.drop (i + 1)) w' ∧ wayB b w' ∧ w'.length ≤ w.length + (i + 1), Q, bk, ct⟩ := fun {bk ct} e => by
            refine ws_dput (w_var rfl (w_var rfl (w_op (w_var rfl (w_int (w2_ixT rfl ⟨p, slD Val.enc w', .inr y, rfl, rfl, um_same, by rw [List.length_map]; omega, ?_⟩))))))
            rw [um_um, slD_put]
            obtain ⟨s1, s2, s3⟩ := some_ _ e
            exact ⟨_, _, _, rfl, rfl, s1, s2, s3⟩
          walk_at "f"
          have hd : DcV (KX.pure K).K (.raw (.ref p)) (Ab.um M p (.dK (slD Val.enc w'))) (slD Val.enc w') := dcv_ref um_same
          refine w_din (w_op (w_var rfl (w_int (w2_ixT rfl (w_var rfl ⟨_, .inr y, hd, rfl, ?_⟩)))))
          cases e : valG w' y with
          | none =>
            rw [slD_val, e]
            refine ⟨false, rfl, ?_⟩
            rw [if_neg (by decide)]
            walk_at "f"
            refine put ?_
            show (match valG w' y with | some u => if u = v then some (putG w' y v) else none | none => some (putG w' y v)) = _
            rw [e]
          | some u =>
            have hu := (hwb.g _ (valG_mem e)).2
            have ev : valG (slD Val.enc w') (.inr y) = some (.dat u.enc) := by rw [slD_val, e]; rfl
            rw [ev]
            refine ⟨true, rfl, ?_⟩
            rw [if_pos rfl]
            refine wt_test (w_op (w_dget (w_var rfl (w_op (w_var rfl (w_int (w2_ixT rfl ⟨_, .inr y, _, hd, rfl, ev, ?_⟩)))))))
            refine w_var rfl (w2_ne (shapedV hu) (shapedV rb) ⟨_, rfl, ?_⟩)
            rw [eqv_V]
            by_cases c : u = v
            · rw [if_neg (by simp [c])]
              refine ws_next (put ?_)
              show (match valG w' y with | some u => if u = v then some (putG w' y v) else none | none => some (putG w' y v)) = _
              rw [e]
              exact if_pos c
            · rw [if_pos (by simp [c])]
              refine retN (none_ ?_)
              show (match valG w' y with | some u => if u = v then some (putG w' y v) else none | none => some (putG w' y v)) = _
              rw [e]
              exact if_neg c
      · obtain ⟨w', z4, z5, rfl, rfl, he, hwb, hw'⟩ := hJ
        rw [List.length_map, List.length_map, show min ts.length row.length = ts.length by omega, List.drop_length, hlen, List.drop_length] at he
        exact ⟨w', _, _, rfl, rfl, he⟩
    · rintro ρ' M' ⟨w', z4, z5, rfl, rfl, he⟩
      rw [he] at q
      refine ws_ret (w_frzE (w_var rfl ⟨p, w', rfl, um_same, ?_⟩))
      rw [del_um hp]
      exact q
  · rw [if_neg hlen] at q
    walk_at "f"
    rw [List.length_map, List.length_map, if_pos (by simp; omega)]
    walk_at "f"
    exact q
end
end
section
section
variable {P : Program} {w : World} {K : PySem.W.Frag} {mg : Str → Option Value} {base : Heap} {a : AD} {d : FD}
def A_head : ASp := fun ss M Q => ∃ (ts : List Term) (w : Way) (b : Nat), ss = [.dat (encT ts), .dat (encW w)] ∧ ts.length ≤ 1000 ∧ (∀ t ∈ ts, hasT w t ∧ termB b t) ∧ Q (.dat (encR (headF ts w))) M
theorem ok_head_row (T : Txt K mg a d) : FnOk P w K mg base CX0 2 a.head_row d.head_row ["terms", "values"] (conc K A_head) := by
  have G_value_of : FnOk P w K mg base CX0 1 a.value_of d.value_of ["term", "values"] (conc K A_value_of) := ok_value_of T
  refine ab_ok T.F_head_row sc_head_row (fun ss M Q ⟨ts, w, b, e, _⟩ => by subst e; rfl) fun cdv Ar outer s H E hr => ?_
  have hu64 := hr.units
  refine ⟨_, (pss_one (ps_ret (pe_callTy (r := rTupS K) call_tuple_of (by rfl) T.n_tuple (by decide +kernel) (pa_cons (pe_lc (own := [("term", 2)]) rfl sc_head_row.nd (pi_tup (pv 0)) (blkOk_by (own := [("term", 2)]) (N := ["terms", "values", "term"]) (sc := (defScope s_head_row)) (by decide +kernel)) (fun _ _ _ _ _ => (pg_name (i := 2) sc_head_row.nd rfl (Or.inl rfl))) (fun _ _ _ _ _ => pts_nil) (fun _ _ _ _ _ => (pe_call G_value_of (hr.mono (by omega)) (by rfl) T.g_value_of T.F_value_of.kp T.b_value_of .nil pass0 (pa_cons (pv 2) (pa_cons (pv 1) pa_nil))))) pa_nil)))), ?_⟩
  rintro ss M Q ⟨ts, w, b, rfl, hl, ht, q⟩
  walk_at "k"
  show WS K _ [some (.dat (encT ts)), some (.dat (encW w)), none] M _
  refine ws_ret (w_cb (wa_cons (w_lcT (xs := ts) (enc := Term.enc) (M1 := M) (by decide) (w_var rfl ⟨rfl, rfl⟩) (by omega) (fun t => (valF w t).enc) (fun t D o hx hD => ?_) (wa_nil (wl_tuple lsv_dat ?_)))))
  · exact w_call (wa_cons (w_var rfl (wa_cons (w_var rfl (wa_nil ⟨t, w, b, rfl, (ht t hx).1, (ht t hx).2, rfl, rfl⟩)))))
  · have e : encR (headF ts w) = .tuple (ts.map fun t => (valF w t).enc) := by
      show PyData.tuple _ = _
      unfold headF
      rw [List.map_map]
      rfl
    rw [e] at q
    exact q
def A_count (K : PySem.W.Frag) : ASp := fun ss M Q => ∃ (ts : List Term) (s : Sl) (rows : Rows) (w : Way) (b : Nat), ss = [.dat (encT ts), s, .dat (encW w)] ∧ LsV K s M (rowS rows) ∧ (∀ t ∈ ts, termB b t) ∧ ts.length ≤ 1000 ∧ rows.length ≤ 1000000 ∧ (∀ r ∈ rows, rowB b r) ∧ wayB b w ∧ w.length ≤ 100000 ∧ Q (.int (countF ts rows w : Int)) M
theorem ok_count_of (T : Txt K mg a d) : FnOk P w K mg base CX0 2 a.count_of d.count_of ["terms", "rows", "values"] (conc K (A_count K)) := by
  have G_met : FnOk P w K mg base CX0 1 a.met d.met ["terms", "row", "values"] (conc K A_met) := ok_met T
  refine ab_ok T.F_count_of sc_count_of (fun ss M Q ⟨ts, s, rows, w, b, e, _⟩ => by subst e; rfl) fun cdv Ar outer s H E hr => ?_
  have hu64 := hr.units
  refine ⟨_, (pss_one (ps_ret (pe_callB (r := rLenS K) call_len_seq (by rfl) T.n_len PySem.boot_len (pa_cons (pe_lc (own := [("row", 3)]) rfl sc_count_of.nd (pi_list (pv 1)) (blkOk_by (own := [("row", 3)]) (N := ["terms", "rows", "values", "row"]) (sc := (defScope s_count_of)) (by decide +kernel)) (fun _ _ _ _ _ => (pg_name (i := 3) sc_count_of.nd rfl (Or.inl rfl))) (fun _ _ _ _ _ => pts_one (pt_cmpR op_notN (pe_call G_met (hr.mono (by omega)) (by rfl) T.g_met T.F_met.kp T.b_met .nil pass0 (pa_cons (pv 0) (pa_cons (pv 3) (pa_cons (pv 2) pa_nil)))) pe_non (nomark _))) (fun _ _ _ _ _ => (pv 3))) pa_nil)))), ?_⟩
  rintro ss M Q ⟨ts, sr, rows, w, b, rfl, hs, ht, tl, rl, hrb, hw, wl, q⟩
  walk_at "k"
  show WS K _ [some (.dat (encT ts)), some sr, some (.dat (encW w)), none] M _
  refine ws_ret (w_cb (wa_cons (w_lcV (xs := rows) (enc := encR) (M1 := M) (by decide) (w_var rfl ⟨hs, rfl⟩) rl (fun r => (metF ts r w).isSome) encR (fun r D o hx hD => ?_) (fun r D o hx hf hD => w_var rfl ⟨rfl, rfl⟩) (wa_nil (wl_lenD ?_)))))
  · refine wt_test (w_op (w_call (wa_cons (w_var rfl (wa_cons (w_var rfl (wa_cons (w_var rfl (wa_nil ⟨ts, r, w, b, rfl, ht, tl, hrb r hx, hw, wl, ?_⟩)))))))))
    cases metF ts r w with
    | none =>
      dsimp only [optW]
      walk_at "f"
      exact ⟨rfl, rfl⟩
    | some w' =>
      refine w_non ?_
      refine w2_notN ?_
      exact ⟨_, rfl, rfl, rfl⟩
  · rw [List.length_map]
    exact q
def A_tested (K : PySem.W.Frag) : ASp := fun ss M Q => ∃ (l : Lit) (s : Sl) (L : Str → Rows) (w : Way) (b : Nat), ss = [.dat l.enc, s, .dat (encW w)] ∧ RowsV K s M L ∧ rowsB b L ∧ litW b w l ∧ (∀ r ts, l ≠ .fact r ts) ∧ wayB b w ∧ w.length ≤ 10000 ∧ 20 ≤ b ∧ b ≤ 200000 ∧ Q (.dat (optW (testF L w l))) M
theorem ok_tested (T : Txt K mg a d) : FnOk P w K mg base CX0 3 a.tested d.tested ["literal", "lookups", "values"] (conc K (A_tested K)) := by
  have G_value_of : FnOk P w K mg base CX0 1 a.value_of d.value_of ["term", "values"] (conc K A_value_of) := ok_value_of T
  have G_compares : FnOk P w K mg base CX0 2 a.compares d.compares ["operator", "first", "second"] (conc K A_compares) := ok_compares T
  have G_reckoned : FnOk P w K mg base CX0 2 a.reckoned d.reckoned ["operator", "first", "second"] (conc K A_reckoned) := ok_reckoned T
  have G_bound : FnOk P w K mg base CX0 1 a.bound d.bound ["variable", "value", "values"] (conc K A_bound) := ok_bound T
  have G_count_of : FnOk P w K mg base CX0 2 a.count_of d.count_of ["terms", "rows", "values"] (conc K (A_count K)) := ok_count_of T
  refine ab_ok T.F_tested sc_tested (fun ss M Q ⟨l, s, L, w, b, e, _⟩ => by subst e; rfl) fun cdv Ar outer s H E hr => ?_
  have hu64 := hr.units
  refine ⟨_, (pss_cons (ps_if (pt_cmpR (r := rEqD K) (op_eqD hu64) (pe_ix (r := rIxT K) ix_tup (pv 0) pe_int (fun _ _ => rfl)) pe_str (nomark _)) (pss_cons (ps_if (pt_cmpR op_gt (pe_call G_count_of (hr.mono (by omega)) (by rfl) T.g_count_of T.F_count_of.kp T.b_count_of .nil pass0 (pa_cons (pe_ix (r := rIxT K) ix_tup (pv 0) pe_int (fun _ _ => rfl)) (pa_cons (pe_dget2 (hu1 hu64) (pv 1) (pe_ix (r := rIxT K) ix_tup (pv 0) pe_int (fun _ _ => rfl)) (pe_lst pa_nil) ⟨rfl, rfl, rfl, rfl⟩) (pa_cons (pv 2) pa_nil)))) pe_int (nomark _)) (pss_one (ps_ret pe_non)) pss_nil)
  (pss_one (ps_ret (pv 2)))) pss_nil)
  (pss_cons (ps_if (pt_cmpR (r := rEqD K) (op_eqD hu64) (pe_ix (r := rIxT K) ix_tup (pv 0) pe_int (fun _ _ => rfl)) pe_str (nomark _)) (pss_cons (ps_if (pt_val (pe_call G_compares (hr.mono (by omega)) (by rfl) T.g_compares T.F_compares.kp T.b_compares .nil pass0 (pa_cons (pe_ix (r := rIxT K) ix_tup (pv 0) pe_int (fun _ _ => rfl)) (pa_cons (pe_call G_value_of (hr.mono (by omega)) (by rfl) T.g_value_of T.F_value_of.kp T.b_value_of .nil pass0 (pa_cons (pe_ix (r := rIxT K) ix_tup (pv 0) pe_int (fun _ _ => rfl)) (pa_cons (pv 2) pa_nil))) (pa_cons (pe_call G_value_of (hr.mono (by omega)) (by rfl) T.g_value_of T.F_value_of.kp T.b_value_of .nil pass0 (pa_cons (pe_ix (r := rIxT K) ix_tup (pv 0) pe_int (fun _ _ => rfl)) (pa_cons (pv 2) pa_nil))) pa_nil))))) (pss_one (ps_ret (pv 2))) pss_nil)
  (pss_one (ps_ret pe_non))) pss_nil)
  (pss_cons (ps_if (pt_cmpR (r := rEqD K) (op_eqD hu64) (pe_ix (r := rIxT K) ix_tup (pv 0) pe_int (fun _ _ => rfl)) pe_str (nomark _)) (pss_cons (ps_set (i := 3) sc_tested.nd rfl (Or.inl rfl) (pe_call G_reckoned (hr.mono (by omega)) (by rfl) T.g_reckoned T.F_reckoned.kp T.b_reckoned .nil pass0 (pa_cons (pe_ix (r := rIxT K) ix_tup (pv 0) pe_int (fun _ _ => rfl)) (pa_cons (pe_call G_value_of (hr.mono (by omega)) (by rfl) T.g_value_of T.F_value_of.kp T.b_value_of .nil pass0 (pa_cons (pe_ix (r := rIxT K) ix_tup (pv 0) pe_int (fun _ _ => rfl)) (pa_cons (pv 2) pa_nil))) (pa_cons (pe_call G_value_of (hr.mono (by omega)) (by rfl) T.g_value_of T.F_value_of.kp T.b_value_of .nil pass0 (pa_cons (pe_ix (r := rIxT K) ix_tup (pv 0) pe_int (fun _ _ => rfl)) (pa_cons (pv 2) pa_nil))) pa_nil)))))
  (pss_cons (ps_if (pt_cmpR op_isN (pv 3) pe_non (nomark _)) (pss_one (ps_ret pe_non)) pss_nil)
  (pss_one (ps_ret (pe_call G_bound (hr.mono (by omega)) (by rfl) T.g_bound T.F_bound.kp T.b_bound .nil pass0 (pa_cons (pe_ix (r := rIxT K) ix_tup (pv 0) pe_int (fun _ _ => rfl)) (pa_cons (pv 3) (pa_cons (pv 2) pa_nil)))))))) pss_nil)
  (pss_one (ps_ret (pe_call G_bound (hr.mono (by omega)) (by rfl) T.g_bound T.F_bound.kp T.b_bound .nil pass0 (pa_cons (pe_ix (r := rIxT K) ix_tup (pv 0) pe_int (fun _ _ => rfl)) (pa_cons (pe_call G_count_of (hr.mono (by omega)) (by rfl) T.g_count_of T.F_count_of.kp T.b_count_of .nil pass0 (pa_cons (pe_ix (r := rIxT K) ix_tup (pv 0) pe_int (fun _ _ => rfl)) (pa_cons (pe_dget2 (hu1 hu64) (pv 1) (pe_ix (r := rIxT K) ix_tup (pv 0) pe_int (fun _ _ => rfl)) (pe_lst pa_nil) ⟨rfl, rfl, rfl, rfl⟩) (pa_cons (pv 2) pa_nil)))) (pa_cons (pv 2) pa_nil))))))))), ?_⟩
  rintro ss M Q ⟨l, sl, L, w, b, rfl, hL, hB, hl, hnf, hw, wl, b0, b1, q⟩
  walk_at "k"
  obtain ⟨kvs, hk, hrows⟩ := hL.ex
  have hk' : DcV (KX.pure K).K sl M kvs := hk
  cases l with
  | fact r ts => exact absurd rfl (hnf r ts)
  | neg r ts =>
    show WS K _ [some (.dat (.tuple [.str "not", .str r, encT ts])), some sl, some (.dat (encW w)), none] M _
    obtain ⟨sz, e1, e2⟩ := hrows r
    walk_at "f"
    refine w_dget2 (w_var rfl ⟨⟨_, hk'⟩, w_op (w_var rfl (w_int (w2_ixT rfl (w_lstD (wa_nil ⟨[], rfl, by simp, kvs, .inr r, hk', rfl, ?_⟩)))))⟩)
    rw [e1]
    walk_at "f"
    refine ⟨ts, sz, L r, w, b, rfl, e2, hl.2.1, hl.2.2, hB.l r, hB.g r, hw, by omega, ?_⟩
    have q' : Q (.dat (optW (if 0 < countF ts (L r) w then none else some w))) M := q
    walk_at "f"
    by_cases c : 0 < countF ts (L r) w
    · rw [if_pos c] at q'
      rw [if_pos (by simp; exact c)]
      walk_at "f"
      exact q'
    · rw [if_neg c] at q'
      rw [if_neg (by simp; omega)]
      walk_at "f"
      exact q'
  | compare op s t =>
    show WS K _ [some (.dat (.tuple [.str "compare", .str op, s.enc, t.enc])), some sl, some (.dat (encW w)), none] M _
    obtain ⟨ho, hs, ht, bs, bt⟩ := hl
    walk_at "f"
    refine ⟨s, w, b, rfl, hs, bs, ?_⟩
    walk_at "f"
    refine ⟨t, w, b, rfl, ht, bt, ?_⟩
    walk_at "f"
    refine ⟨op, _, _, b, rfl, ho, valF_vb hw bs hs, valF_vb hw bt ht, ⟨_, rfl, ?_⟩⟩
    have q' : Q (.dat (optW (if cmpF op (valF w s) (valF w t) = true then some w else none))) M := q
    cases c : cmpF op (valF w s) (valF w t) with
    | true =>
      rw [c, if_pos rfl] at q'
      rw [if_pos rfl]
      walk_at "f"
      exact q'
    | false =>
      rw [c, if_neg Bool.false_ne_true] at q'
      rw [if_neg Bool.false_ne_true]
      walk_at "f"
      exact q'
  | is x op s t =>
    show WS K _ [some (.dat (.tuple [.str "is", .str x, .str op, s.enc, t.enc])), some sl, some (.dat (encW w)), none] M _
    obtain ⟨gx, ho, hs, ht, bs, bt⟩ := hl
    walk_at "f"
    refine ⟨s, w, b, rfl, hs, bs, ?_⟩
    walk_at "f"
    refine ⟨t, w, b, rfl, ht, bt, ?_⟩
    walk_at "f"
    refine ⟨op, _, _, b, rfl, ho, valF_vb hw bs hs, valF_vb hw bt ht, by omega, by omega, ?_⟩
    have q' : Q (.dat (optW ((reckF op (valF w s) (valF w t)).bind fun i => boundF w x (.int i)))) M := q
    cases c : reckF op (valF w s) (valF w t) with
    | none =>
      rw [c] at q'
      dsimp only [optI]
      walk_at "f"
      exact q'
    | some i =>
      rw [c] at q'
      have hv := reck_vb (by omega) (valF_vb hw bs hs) (valF_vb hw bt ht) c
      dsimp only [optI]
      walk_at "f"
      exact ⟨x, .int i, w, 2 * b, rfl, gx, hv, ⟨fun p hp => ⟨(hw.g p hp).1, vb_mono (by omega) (hw.g p hp).2⟩⟩, by omega, q'⟩
  | count x r ts =>
    show WS K _ [some (.dat (.tuple [.str "count", .str x, .str r, encT ts])), some sl, some (.dat (encW w)), none] M _
    obtain ⟨gx, gr, hts, tl⟩ := hl
    obtain ⟨sz, e1, e2⟩ := hrows r
    walk_at "f"
    refine w_dget2 (w_var rfl ⟨⟨_, hk'⟩, w_op (w_var rfl (w_int (w2_ixT rfl (w_lstD (wa_nil ⟨[], rfl, by simp, kvs, .inr r, hk', rfl, ?_⟩)))))⟩)
    rw [e1]
    walk_at "f"
    refine ⟨ts, sz, L r, w, b, rfl, e2, hts, tl, hB.l r, hB.g r, hw, by omega, ?_⟩
    walk_at "f"
    have cl : countF ts (L r) w ≤ 1000000 := Nat.le_trans (List.length_filter_le _ _) (hB.l r)
    exact ⟨x, .int (countF ts (L r) w : Int), w, b, rfl, gx, vb_nat b0 cl, hw, by omega, q⟩
end
end
section
section
variable {P : Program} {w : World} {K : PySem.W.Frag} {mg : Str → Option Value} {base : Heap} {a : AD} {d : FD}
abbrev lsW (f : Wys) : MO := .lst (f.map fun p => .dat (encWy p))
def A_ways (K : PySem.W.Frag) : ASp := fun ss M Q => ∃ (body : List Lit) (sR sL : Sl) (R L : Str → Rows) (b : Nat), ss = [.dat (encB body), sR, sL] ∧ RowsV K sR M R ∧ RowsV K sL M L ∧ rowsB b R ∧ rowsB b L ∧ 20 ≤ b ∧ b * 2 ^ body.length ≤ 200000 ∧ (∀ l ∈ body, litB b l) ∧ bodyK [] body ∧
  (∀ i, i ≤ body.length → (waysF R L (body.take i)).length ≤ 1000000) ∧ ∀ (M' : MH) p, M p = none → M' p = some (lsW (waysF R L body)) → (∀ x u, M x = some u → M' x = some u) → Q (.raw (.ref p)) M'
theorem ok_ways (T : Txt K mg a d) : FnOk P w K mg base CX0 4 a.ways d.ways ["body", "rows", "lookups"] (conc K (A_ways K)) := by
  have G_met : FnOk P w K mg base CX0 1 a.met d.met ["terms", "row", "values"] (conc K A_met) := ok_met T
  have G_tested : FnOk P w K mg base CX0 3 a.tested d.tested ["literal", "lookups", "values"] (conc K (A_tested K)) := ok_tested T
  refine ab_ok T.F_ways sc_ways (fun ss M Q ⟨body, sR, sL, R, L, b, e, _⟩ => by subst e; rfl) fun cdv Ar outer s H E hr => ?_
  have hu64 := hr.units
  refine ⟨_, (pss_cons (ps_set (i := 3) sc_ways.nd rfl (Or.inl rfl) (pe_lst (pa_cons (pe_tup (pa_cons pe_dnewK (pa_cons (pe_tup pa_nil) pa_nil))) pa_nil)))
  (pss_cons (ps_for PassesOwn.never rfl (pi_tup (pv 0)) (pg_name (i := 4) sc_ways.nd rfl (Or.inl rfl)) (pss_cons (ps_set (i := 5) sc_ways.nd rfl (Or.inl rfl) (pe_lst pa_nil))
  (pss_cons (ps_for PassesOwn.never rfl (pi_list (pv 3)) (pg_tupK (K := K) (n := 2) rfl rfl (pgs_cons (pg_name (i := 6) sc_ways.nd rfl (Or.inl rfl)) (pgs_cons (pg_name (i := 7) sc_ways.nd rfl (Or.inl rfl)) pgs_nil))) (pss_one (ps_if (pt_cmpR (r := rEqD K) (op_eqD hu64) (pe_ix (r := rIxT K) ix_tup (pv 4) pe_int (fun _ _ => rfl)) pe_str (nomark _)) (pss_one (ps_for PassesOwn.never rfl (pi_list (pe_dget2 (hu1 hu64) (pv 1) (pe_ix (r := rIxT K) ix_tup (pv 4) pe_int (fun _ _ => rfl)) (pe_lst pa_nil) ⟨rfl, rfl, rfl, rfl⟩)) (pg_name (i := 8) sc_ways.nd rfl (Or.inl rfl)) (pss_cons (ps_set (i := 9) sc_ways.nd rfl (Or.inl rfl) (pe_call G_met (hr.mono (by omega)) (by rfl) T.g_met T.F_met.kp T.b_met .nil pass0 (pa_cons (pe_ix (r := rIxT K) ix_tup (pv 4) pe_int (fun _ _ => rfl)) (pa_cons (pv 8) (pa_cons (pv 6) pa_nil)))))
  (pss_one (ps_if (pt_cmpR op_notN (pv 9) pe_non (nomark _)) (pss_one (ps_expr (pe_bm PySem.F.plainAttrs_list PySem.F.slot_list_append PySem.F.type_list_append mt_append (pv 5) (pa_cons (pe_tup (pa_cons (pv 9) (pa_cons (pe_op (r := rCatA K) op_catA (pv 7) (pe_tup (pa_cons (pv 8) pa_nil))) pa_nil))) pa_nil)))) pss_nil))))) (pss_cons (ps_set (i := 9) sc_ways.nd rfl (Or.inl rfl) (pe_call G_tested (hr.mono (by omega)) (by rfl) T.g_tested T.F_tested.kp T.b_tested .nil pass0 (pa_cons (pv 4) (pa_cons (pv 2) (pa_cons (pv 6) pa_nil)))))
  (pss_one (ps_if (pt_cmpR op_notN (pv 9) pe_non (nomark _)) (pss_one (ps_expr (pe_bm PySem.F.plainAttrs_list PySem.F.slot_list_append PySem.F.type_list_append mt_append (pv 5) (pa_cons (pe_tup (pa_cons (pv 9) (pa_cons (pv 7) pa_nil))) pa_nil)))) pss_nil))))))
  (pss_one (ps_set (i := 3) sc_ways.nd rfl (Or.inl rfl) (pv 5))))))
  (pss_one (ps_ret (pv 3))))), ?_⟩
  rintro ss M Q ⟨body, sR, sL, R, L, b, rfl, hR, hL, bR, bL, b20, bl, hB, hK, hn, q⟩
  walk_at "k"
  show WS K _ [some (.dat (encB body)), some sR, some sL, none, none, none, none, none, none, none] M _
  have hbl : body.length < 20 := by
    have h1 : body.length < 2 ^ body.length := Nat.lt_two_pow_self
    have h2 : 20 * 2 ^ body.length ≤ b * 2 ^ body.length := Nat.mul_le_mul_right _ b20
    apply Nat.lt_of_not_le
    intro h3
    have h4 : (2 : Nat) ^ 20 ≤ 2 ^ body.length := Nat.pow_le_pow_right (by decide) h3
    have h5 : (2 : Nat) ^ 20 = 1048576 := by decide
    omega
  have bb : ∀ i, i ≤ body.length → b * 2 ^ i ≤ 200000 := fun i hi => Nat.le_trans (Nat.mul_le_mul_left b (Nat.pow_le_pow_right (by decide) hi)) bl
  have bge : ∀ i, b ≤ b * 2 ^ i := fun i => Nat.le_mul_of_pos_right b (Nat.two_pow_pos i)
  refine ws_mid (fun ρ' M' => ∃ p, ρ' = [some (.dat (encB body)), some sR, some sL, some (.raw (.ref p)), none, none, none, none, none, none] ∧ M p = none ∧ M' p = some (lsW [([], [])]) ∧ ∀ x u, M x = some u → M' x = some u) ?_ ?_
  · refine ws_set (w_lstM (wa_cons (w_tupD (wa_cons ?_))))
    refine w_frzE (β := Val) (f := Val.enc) (w_dnew fun g hg => ⟨g, [], rfl, um_same, ?_⟩)
    rw [del_um hg]
    refine wa_cons (w_tupD (wa_nil ⟨[], rfl, by simp, wa_nil ⟨_, rfl, by simp, wa_nil ⟨by simp, fun p hp => ?_⟩⟩⟩))
    exact ⟨p, rfl, hp, um_same, ext_fresh hp⟩
  rintro ρ' M0 ⟨p0, rfl, hp0, hM0, x0⟩
  refine ws_seq (ws_forT (xs := body) (enc := Lit.enc) (M1 := M0) (w_var rfl ⟨rfl, rfl⟩) (fun pre ρ' M' => (∃ p z4 z5 z6 z7 z8 z9 k, ρ' = [some (.dat (encB body)), some sR, some sL, some (.raw (.ref p)), z4, z5, z6, z7, z8, z9] ∧ M p = none ∧ M' p = some (lsW (waysF R L pre)) ∧ (∀ q ∈ waysF R L pre, WyOk k (b * 2 ^ pre.length) pre.length q) ∧ ∀ post, body = pre ++ post → bodyK k post) ∧ ∀ x u, M x = some u → M' x = some u) ⟨⟨p0, _, _, _, _, _, _, [], rfl, hp0, hM0, fun q hq => ?_, fun post e => by rw [List.nil_append] at e; rw [← e]; exact hK⟩, x0⟩ ?_ ?_)
  · rw [List.mem_singleton.mp hq]
    exact ⟨⟨fun _ h => nomatch h⟩, Nat.zero_le _, fun _ h => (nomatch h), Nat.le_refl _, fun _ h => nomatch h⟩
  · rintro pre l post ρ' M' hx ⟨⟨p, z4, z5, z6, z7, z8, z9, k, rfl, hp, hM, hF, hbK⟩, x1⟩
    have hlm : l ∈ body := by rw [hx]; simp
    have hpl : pre.length + 1 ≤ body.length := by rw [hx, List.length_append, List.length_cons]; omega
    obtain ⟨hk, hk2⟩ := hbK _ hx
    have hlb := litB_mono (bge pre.length) (hB l hlm)
    have bRi := rowsB_mono (bge pre.length) bR
    have bLi := rowsB_mono (bge pre.length) bL
    have hstep := ways_step hF hlb hk (Nat.le_trans b20 (bge _)) bRi bLi
    have hnl := hn (pre.length + 1) hpl
    have htk : body.take (pre.length + 1) = pre ++ [l] := by rw [hx, show pre ++ l :: post = (pre ++ [l]) ++ post by simp, List.take_left' (by simp)]
    rw [htk, waysF_snoc] at hnl
    have hnf := hn pre.length (by omega)
    rw [show body.take pre.length = pre by rw [hx, List.take_left']; rfl] at hnf
    have hbi := bb pre.length (by omega)
    have hb20 := Nat.le_trans b20 (bge pre.length)
    rw [waysF_snoc]
    generalize waysF R L pre = found at hM hF hstep hnl hnf
    generalize hbe : b * 2 ^ pre.length = bi at hF hlb bRi bLi hstep hbi hb20
    refine wg_name ?_
    refine ws_seq (ws_set (w_lstM (wa_nil ⟨by decide, fun p5 hp5 => ?_⟩)))
    have x2 : ∀ x u, M x = some u → Ab.um M' p5 (.lst []) x = some u := fun x u hx => ext_fresh hp5 _ _ (x1 _ _ hx)
    have hMp5 : M p5 = none := by
      cases e : M p5 with
      | none => rfl
      | some u => rw [x1 _ _ e] at hp5; cases hp5
    have hM2 : Ab.um M' p5 (.lst []) p = some (lsW found) := ext_fresh hp5 _ _ hM
    have h5 : Ab.um M' p5 (.lst []) p5 = some (lsW []) := um_same
    have pp : p ≠ p5 := fun z => by rw [z, hp5] at hM; cases hM
    generalize Ab.um M' p5 (.lst []) = M2 at x2 hM2 h5
    refine ws_mid (fun ρ' M3 => (∃ z6 z7 z8 z9, ρ' = [some (.dat (encB body)), some sR, some sL, some (.raw (.ref p)), some (.dat l.enc), some (.raw (.ref p5)), z6, z7, z8, z9]) ∧ M3 p5 = some (lsW (waysL R L found l)) ∧ ∀ x u, M x = some u → M3 x = some u) ?_ ?_
    · refine ws_for (wi_list (w_var rfl ⟨_, lsv_ref hM2, fun j ρ' M3 => (∃ z6 z7 z8 z9, ρ' = [some (.dat (encB body)), some sR, some sL, some (.raw (.ref p)), some (.dat l.enc), some (.raw (.ref p5)), z6, z7, z8, z9]) ∧ M3 p = some (lsW found) ∧ M3 p5 = some (lsW (waysL R L (found.take j) l)) ∧ ∀ x u, M x = some u → M3 x = some u, ⟨⟨_, _, _, _, rfl⟩, hM2, by rw [h5]; cases l <;> rfl, x2⟩, fun j ρ' M3 _ hJ => lsv_ref hJ.2.1, fun j ρ' M3 hj hJ => ?_, fun ρ' M3 hJ => ?_⟩))
      · clear hM2 h5 x2 M2
        obtain ⟨⟨z6, z7, z8, z9, rfl⟩, hMp, h5, x3⟩ := hJ
        have hj' : j < found.length := by rw [List.length_map] at hj; exact hj
        have gj : (found.map fun q => Sl.dat (encWy q)).getD j .non = .dat (encWy found[j]) := by
          rw [List.getD_eq_getElem?_getD, List.getElem?_map, List.getElem?_eq_getElem hj']
          rfl
        have hmf : found[j] ∈ found := List.getElem_mem hj'
        have el : found.take (j + 1) = found.take j ++ [found[j]] := List.take_succ_eq_append_getElem hj'
        have hle : (waysL R L (found.take j ++ [found[j]]) l).length ≤ 1000000 := by
          rw [← el]
          have := congrArg List.length (waysL_app R L (found.take (j + 1)) (found.drop (j + 1)) l)
          rw [List.take_append_drop, List.length_append] at this
          omega
        dsimp only
        rw [gj, el]
        rw [waysL_app] at hle ⊢
        have hwo := hF _ hmf
        generalize found[j] = pw at hwo hle
        obtain ⟨w, tk⟩ := pw
        generalize waysL R L (found.take j) l = acc at h5 hle
        have wl : w.length ≤ 51 * pre.length := hwo.l
        have tl : tk.length ≤ pre.length := hwo.t
        refine wg_tup (ds := [encW w, encTk tk]) rfl rfl (wgs_cons (wg_name (wgs_cons (wg_name (wgs_nil ?_)))))
        show WS K _ [some (.dat (encB body)), some sR, some sL, some (.raw (.ref p)), some (.dat l.enc), some (.raw (.ref p5)), some (.dat (encW w)), some (.dat (encTk tk)), z8, z9] M3 _
        have hRx := hR.ext x3
        have hLx := hL.ext x3
        have app : ∀ (N : MH) (ac : Wys) (w' : Way) (tk' : Rows), ac.length < 1000000 → N p = some (lsW found) → N p5 = some (lsW ac) → (∀ x u, M x = some u → N x = some u) → (Ab.um N p5 (.lst ((ac.map fun q => Sl.dat (encWy q)) ++ [.dat (.tuple [encW w', encTk tk'])]))) p = some (lsW found) ∧ (Ab.um N p5 (.lst ((ac.map fun q => Sl.dat (encWy q)) ++ [.dat (.tuple [encW w', encTk tk'])]))) p5 = some (lsW (ac ++ [(w', tk')])) ∧ ∀ x u, M x = some u → Ab.um N p5 (.lst ((ac.map fun q => Sl.dat (encWy q)) ++ [.dat (.tuple [encW w', encTk tk'])])) x = some u := fun N ac w' tk' hl h1 h2 h3 => by
          refine ⟨by rw [um_ne pp]; exact h1, by rw [um_same]; unfold lsW; rw [List.map_append]; rfl, fun x u hx => ?_⟩
          rw [um_ne fun z => by rw [z, hMp5] at hx; cases hx]
          exact h3 x u hx
        by_cases hfl : ∃ r ts, l = .fact r ts
        · obtain ⟨r, ts, rfl⟩ := hfl
          show WS K _ [some (.dat (encB body)), some sR, some sL, some (.raw (.ref p)), some (.dat (.tuple [.str "fact", .str r, encT ts])), some (.raw (.ref p5)), some (.dat (encW w)), some (.dat (encTk tk)), z8, z9] M3 _
          obtain ⟨kvs, hkv, hrows⟩ := hR.ex
          have hkv' : DcV (KX.pure K).K sR M3 kvs := dcv_ext hkv x3
          obtain ⟨sz, e1, e2⟩ := hrows r
          have e2' : LsV (KX.pure K).K sz M3 (rowS (R r)) := lsv_ext e2 x3
          refine ws_if (wt_test (w_op (w_op (w_var rfl (w_int (w2_ixT rfl (w_str (w2_eqS (by decide +kernel) (by decide +kernel) ⟨_, rfl, ?_⟩))))))))
          rw [if_pos (by decide +kernel)]
          refine ws_for (wi_list (w_dget2 (w_var rfl ⟨⟨_, hkv'⟩, w_op (w_var rfl (w_int (w2_ixT rfl (w_lstD (wa_nil ⟨[], rfl, by simp, kvs, .inr r, hkv', rfl, ?_⟩)))))⟩)))
          rw [e1]
          have hwl2 : (waysL R L [(w, tk)] (.fact r ts)) = (R r).filterMap fun row => (metF ts row w).map fun w' => (w', tk ++ [row]) := by
            show ([(w, tk)] : Wys).flatMap _ = _
            rw [List.flatMap_cons, List.flatMap_nil, List.append_nil]
          rw [hwl2] at hle ⊢
          refine ⟨_, e2', fun m ρ' N => (∃ z8 z9, ρ' = [some (.dat (encB body)), some sR, some sL, some (.raw (.ref p)), some (.dat (.tuple [.str "fact", .str r, encT ts])), some (.raw (.ref p5)), some (.dat (encW w)), some (.dat (encTk tk)), z8, z9]) ∧ N p = some (lsW found) ∧ N p5 = some (lsW (acc ++ ((R r).take m).filterMap fun row => (metF ts row w).map fun w' => (w', tk ++ [row]))) ∧ (∀ x u, M x = some u → N x = some u), ⟨⟨_, _, rfl⟩, hMp, by rw [List.take_zero, List.filterMap_nil, List.append_nil]; exact h5, x3⟩, fun m ρ' N _ hJ => lsv_ext e2 hJ.2.2.2, fun m ρ' N hm hJ => ?_, fun ρ' N hJ => ?_⟩
          · clear h5 x3 hMp
            obtain ⟨⟨z8, z9, rfl⟩, hMp, h5, x3⟩ := hJ
            have hm' : m < (R r).length := by rw [List.length_map] at hm; exact hm
            have gm : (rowS (R r)).getD m .non = .dat (encR (R r)[m]) := by
              rw [List.getD_eq_getElem?_getD, List.getElem?_map, List.getElem?_eq_getElem hm']
              rfl
            have hmr : (R r)[m] ∈ R r := List.getElem_mem hm'
            have elm : (R r).take (m + 1) = (R r).take m ++ [(R r)[m]] := List.take_succ_eq_append_getElem hm'
            have hle2 : (acc ++ ((R r).take (m + 1)).filterMap fun row => (metF ts row w).map fun w' => (w', tk ++ [row])).length ≤ 1000000 := by
              have := congrArg List.length (List.filterMap_append (l := (R r).take (m + 1)) (l' := (R r).drop (m + 1)) (f := fun row => (metF ts row w).map fun w' => (w', tk ++ [row])))
              rw [List.take_append_drop, List.length_append] at this
              rw [List.length_append] at hle ⊢
              omega
            rw [elm] at hle2
            dsimp only
            rw [gm, elm]
            have rb := bRi.g r _ hmr
            rw [List.filterMap_append, ← List.append_assoc] at hle2 ⊢
            generalize (R r)[m] = row at rb hle2
            generalize acc ++ ((R r).take m).filterMap (fun row => (metF ts row w).map fun w' => (w', tk ++ [row])) = ac at h5 hle2
            refine wg_name ?_
            refine ws_seq (ws_set (w_call (wa_cons (w_op (w_var rfl (w_int (w2_ixT rfl (wa_cons (w_var rfl (wa_cons (w_var rfl (wa_nil ⟨ts, row, w, bi, rfl, hlb.2.1, Nat.le_trans hlb.2.2 (by decide), rb, hwo.wb, by omega, ?_⟩))))))))))))
            cases em : metF ts row w with
            | none =>
              rw [List.filterMap_cons, em, List.filterMap_nil]
              try dsimp only [optW, Option.map]
              refine ws_if (wt_test (w_op (w_var rfl (w_non (w2_notN ⟨_, rfl, ?_⟩)))))
              rw [if_neg (by decide)]
              refine ws_next ⟨⟨_, _, rfl⟩, hMp, ?_, x3⟩
              rw [List.append_nil]
              exact h5
            | some w' =>
              rw [List.filterMap_cons, em, List.filterMap_nil] at hle2
              rw [List.filterMap_cons, em, List.filterMap_nil]
              try dsimp only [Option.map] at hle2 ⊢
              have hac : ac.length < 1000000 := by rw [List.length_append] at hle2; simp at hle2; omega
              refine ws_if (wt_test (w_op (w_var rfl (w_non (w2_notN ⟨_, rfl, ?_⟩)))))
              rw [if_pos (by rfl)]
              refine ws_drop (w_bm (w_var rfl ⟨ty_lst (lsv_ref h5), wa_cons (w_tupD (wa_cons (w_var rfl (wa_cons (w_op (w_var rfl (w_tupD (wa_cons (w_var rfl (wa_nil ⟨[encR row], rfl, by simp, w2_catT (by rw [List.length_map]; simp; omega) ?_⟩))))))))))⟩))
              have etk : PyData.tuple (tk.map encR ++ [encR row]) = encTk (tk ++ [row]) := by
                show _ = PyData.tuple _
                rw [List.map_append]
                rfl
              rw [etk]
              refine wa_nil ⟨_, rfl, by simp, wa_nil (wm_append h5 (by rw [List.length_map]; omega) ?_)⟩
              obtain ⟨a1, a2, a3⟩ := app N ac w' (tk ++ [row]) hac hMp h5 x3
              exact ⟨⟨_, _, rfl⟩, a1, a2, a3⟩
          · obtain ⟨⟨z8, z9, rfl⟩, hMp, h5, x3⟩ := hJ
            rw [List.length_map, List.take_length] at h5
            exact ⟨⟨_, _, _, _, rfl⟩, hMp, h5, x3⟩
        · have hnf2 : ∀ r ts, l ≠ .fact r ts := fun r ts e => hfl ⟨r, ts, e⟩
          have hwl2 : waysL R L [(w, tk)] l = [(w, tk)].filterMap fun p => (testF L p.1 l).map fun w => (w, p.2) := by
            cases l with
            | fact r ts => exact absurd rfl (hnf2 r ts)
            | neg r ts => rfl
            | compare op s t => rfl
            | is x op s t => rfl
            | count x r ts => rfl
          have hnfm : l.form ≠ "fact" := by
            cases l with
            | fact r ts => exact absurd rfl (hnf2 r ts)
            | neg r ts => exact (by decide +kernel : ("not" : Str) ≠ "fact")
            | compare op s t => exact (by decide +kernel : ("compare" : Str) ≠ "fact")
            | is x op s t => exact (by decide +kernel : ("is" : Str) ≠ "fact")
            | count x r ts => exact (by decide +kernel : ("count" : Str) ≠ "fact")
          rw [hwl2] at hle ⊢
          refine ws_if (wt_test (w_op (w_op (w_var rfl (w_int (w2_ixHd (w_str (w2_eqS (goodS_ok l.form_good) (by decide +kernel) ⟨_, rfl, ?_⟩))))))))
          rw [if_neg (by rw [decide_eq_true_iff]; exact hnfm)]
          refine ws_seq (ws_set (w_call (wa_cons (w_var rfl (wa_cons (w_var rfl (wa_cons (w_var rfl (wa_nil ⟨l, sL, L, w, bi, rfl, hLx, bLi, litW_of hwo hlb hk, hnf2, hwo.wb, by omega, hb20, hbi, ?_⟩)))))))))
          cases et : testF L w l with
          | none =>
            rw [List.filterMap_cons, et, List.filterMap_nil]
            try dsimp only [optW, Option.map]
            refine ws_if (wt_test (w_op (w_var rfl (w_non (w2_notN ⟨_, rfl, ?_⟩)))))
            rw [if_neg (by decide)]
            refine ws_next ⟨⟨_, _, _, _, rfl⟩, hMp, ?_, x3⟩
            rw [List.append_nil]
            exact h5
          | some w' =>
            rw [List.filterMap_cons, et, List.filterMap_nil] at hle
            rw [List.filterMap_cons, et, List.filterMap_nil]
            try dsimp only [Option.map] at hle ⊢
            have hac : acc.length < 1000000 := by rw [List.length_append] at hle; simp at hle; omega
            refine ws_if (wt_test (w_op (w_var rfl (w_non (w2_notN ⟨_, rfl, ?_⟩)))))
            rw [if_pos (by rfl)]
            refine ws_drop (w_bm (w_var rfl ⟨ty_lst (lsv_ref h5), wa_cons (w_tupD (wa_cons (w_var rfl (wa_cons (w_var rfl (wa_nil ⟨_, rfl, by simp, wa_nil (wm_append h5 (by rw [List.length_map]; omega) ?_)⟩))))))⟩))
            obtain ⟨a1, a2, a3⟩ := app M3 acc w' tk hac hMp h5 x3
            exact ⟨⟨_, _, _, _, rfl⟩, a1, a2, a3⟩
      · obtain ⟨z, hMp, h5, x3⟩ := hJ
        rw [List.length_map, List.take_length] at h5
        exact ⟨z, h5, x3⟩
    · rintro ρ' M3 ⟨⟨z6, z7, z8, z9, rfl⟩, h5, x3⟩
      refine ws_set (w_var rfl ?_)
      refine ⟨⟨p5, _, _, _, _, _, _, k ++ bindsF l, rfl, hMp5, h5, ?_, fun post' e => ?_⟩, x3⟩
      · rw [List.length_append, List.length_singleton, Nat.pow_succ, ← Nat.mul_assoc, hbe, Nat.mul_comm bi 2]
        exact hstep
      · have e2 : post = post' := by rw [hx] at e; simpa using e
        rw [← e2]
        exact hk2
  · rintro ρ' M' ⟨⟨p, z4, z5, z6, z7, z8, z9, k, rfl, hp, hM, hF, hbK⟩, x1⟩
    refine ws_ret (w_var rfl ?_)
    exact q M' p hp hM x1
end
end
section
section
variable {P : Program} {w : World} {K : PySem.W.Frag} {mg : Str → Option Value} {base : Heap} {a : AD} {d : FD}
def MidN (M : MH) (p : Addr) (n : Int) (ρ' : Rho) (M' : MH) : Prop := ∃ (xs : List Sl) (y z : Option Sl), ρ' = [some (.ref p), some (.int n), y, z] ∧ M' = um M p (.lst xs) ∧ DrawL xs
theorem ok_next (T : Txt K mg a d) : FnOk P w K mg base CX0 1 a.law_next d.law_next ["_law_state", "_law_limit"] (conc K A_next) := by
  refine ab_ok T.F_law_next sc_law_next (fun ss M Q ⟨p, n, xs, e, _⟩ => by subst e; rfl) fun cdv Ar outer s H E hr => ?_
  have hu64 := hr.units
  refine ⟨_, (pss_cons (ps_if (PW.pt (pw_and (pt_cmpR (r := rEqD K) (op_eqD hu64) (pe_ix (r := rIxL K) ix_list (pv 0) pe_int (fun _ _ => rfl)) pe_int (nomark _)) (pw_and1 (pt_cmpR op_lt (pe_ix (r := rIxL K) ix_list (pv 0) pe_int (fun _ _ => rfl)) (pe_callB (r := rLenS K) call_len_seq (by rfl) T.n_len PySem.boot_len (pa_cons (pe_ix (r := rIxL K) ix_list (pv 0) pe_int (fun _ _ => rfl)) pa_nil)) (nomark _))))) (pss_cons (ps_set (i := 2) sc_law_next.nd rfl (Or.inl rfl) (pe_ix (r := rIxL K) ix_list (pe_ix (r := rIxL K) ix_list (pv 0) pe_int (fun _ _ => rfl)) (pe_ix (r := rIxL K) ix_list (pv 0) pe_int (fun _ _ => rfl)) (fun _ _ => rfl)))
  (pss_cons (ps_augS (pv 0) pe_int pget_list pe_int ip_add set_list)
  (pss_one (ps_if (pt_cmpR op_ge (pv 2) (pe_op op_pow pe_int pe_int) (nomark _)) (pss_one (ps_asg (pv 2) (pg_sub (pv 0) pe_int set_list))) (pss_one (ps_asg (pe_op op_mod (pe_callTy (r := rInt1) call_int1 (by rfl) T.n_int (by decide +kernel) (pa_cons (pe_op op_add (pe_op op_add (pe_op op_mul (pe_ix (r := rIxL K) ix_list (pv 0) pe_int (fun _ _ => rfl)) pe_int) (pe_op op_mod (pe_callTy (r := rInt1) call_int1 (by rfl) T.n_int (by decide +kernel) (pa_cons (pv 2) pa_nil)) pe_int)) pe_int) pa_nil)) pe_int) (pg_sub (pv 0) pe_int set_list))))))) pss_nil)
  (pss_cons (ps_if (pt_cmpR op_gt (pe_ix (r := rIxL K) ix_list (pv 0) pe_int (fun _ _ => rfl)) pe_int (nomark _)) (pss_cons (ps_set (i := 3) sc_law_next.nd rfl (Or.inl rfl) (pe_op op_mod (pe_callTy (r := rInt1) call_int1 (by rfl) T.n_int (by decide +kernel) (pa_cons (pe_ix (r := rIxL K) ix_list (pv 0) pe_int (fun _ _ => rfl)) pa_nil)) (pv 1)))
  (pss_cons (ps_asg (pe_op op_fdivW (pe_ix (r := rIxL K) ix_list (pv 0) pe_int (fun _ _ => rfl)) (pv 1)) (pg_sub (pv 0) pe_int set_list))
  (pss_one (ps_ret (pv 3))))) pss_nil)
  (pss_cons (ps_asg (pe_op op_mod (pe_callTy (r := rInt1) call_int1 (by rfl) T.n_int (by decide +kernel) (pa_cons (pe_op op_add (pe_op op_mul (pe_ix (r := rIxL K) ix_list (pv 0) pe_int (fun _ _ => rfl)) pe_int) pe_int) pa_nil)) pe_int) (pg_sub (pv 0) pe_int set_list))
  (pss_one (ps_ret (pe_op op_mod (pe_callTy (r := rInt1) call_int1 (by rfl) T.n_int (by decide +kernel) (pa_cons (pe_op op_fdiv (pe_ix (r := rIxL K) ix_list (pv 0) pe_int (fun _ _ => rfl)) pe_int) pa_nil)) (pv 1))))))), ?_⟩
  rintro ss M Q ⟨p, n, xs, rfl, hp, ⟨sc, pos, cur, seed, rfl, hpos⟩, hn0, hn1, q⟩
  walk_at "k"
  show WS K _ [some (.ref p), some (.int n), none, none] M _
  refine ws_mid (MidN M p n) ?_ ?_
  · have same : MidN M p n [some (.ref p), some (.int n), none, none] M := ⟨_, none, none, rfl, (um_id hp).symm, sc, pos, cur, seed, rfl, hpos⟩
    walk_at "e"
    refine ite_b (fun _ => ?_) (fun _ => ite_f rfl (ws_next same))
    walk_at "e"
    refine ite_b (fun hlt => ?_) (fun _ => ws_next same)
    have hlt' := of_decide_eq_true hlt
    have hk : pos.toNat < sc.length := by omega
    walk_at "e"
    case hx => exact atI_ok hpos (get_two (List.getElem?_eq_getElem hk))
    refine ws_seq (ws_augL (w_var rfl (w_int ⟨p, _, 1, pos, rfl, rfl, hp, rfl, w_int ⟨1, rfl, hp, ?_⟩⟩)))
    have hp3 : um M p (.lst [.dat (.list (sc.map .int)), .int (pos + 1), .int cur, .int seed]) p = some (.lst [.dat (.list (sc.map .int)), .int (pos + 1), .int cur, .int seed]) := um_same
    show WS K _ [some (.ref p), some (.int n), some (.int sc[pos.toNat]), none] (um M p (.lst [.dat (.list (sc.map .int)), .int (pos + 1), .int cur, .int seed])) _
    walk_at "e"
    refine ite_b (fun _ => ?_) (fun _ => ?_)
    · refine ws_setL (w_var rfl (w_var rfl (w_int ⟨p, _, 2, 2, rfl, rfl, um_same, rfl, ?_⟩)))
      rw [um_um]
      exact ⟨_, some (.int sc[pos.toNat]), none, rfl, rfl, sc, pos + 1, _, seed, rfl, by omega⟩
    · refine ws_setL ?_
      walk_at "e"
      refine ⟨p, _, 3, 3, rfl, rfl, um_same, rfl, ?_⟩
      rw [um_um]
      exact ⟨_, some (.int sc[pos.toNat]), none, rfl, rfl, sc, pos + 1, cur, _, rfl, by omega⟩
  · rintro ρ' M' ⟨xs, y, z, rfl, rfl, sc, pos, cur, seed, rfl, hpos⟩
    have hp2 : um M p (.lst [.dat (.list (sc.map .int)), .int pos, .int cur, .int seed]) p = some (.lst [.dat (.list (sc.map .int)), .int pos, .int cur, .int seed]) := um_same
    have hdiv : CDivW cur n := wide_div (b := 140) hn0 (by omega) (by decide) (by decide)
    walk_at "e"
    refine ite_b (fun hc => ?_) (fun _ => ?_)
    · have hc' := of_decide_eq_true hc
      walk_at "e"
      refine ws_setL ?_
      walk_at "e"
      refine ⟨p, _, 2, 2, rfl, rfl, um_same, rfl, ?_⟩
      rw [um_um]
      walk_at "e"
      exact q _ _ (Int.emod_nonneg _ (by omega)) (Int.emod_lt_of_pos _ hn0) ⟨sc, pos, _, seed, rfl, hpos⟩
    · refine ws_next ?_
      refine ws_seq (ws_setL ?_)
      walk_at "e"
      refine ⟨p, _, 3, 3, rfl, rfl, um_same, rfl, ?_⟩
      rw [um_um]
      have hp4 : um M p (.lst [.dat (.list (sc.map .int)), .int pos, .int cur, .int ((seed * 69621 + 12345) % 2147483647)]) p = some (.lst [.dat (.list (sc.map .int)), .int pos, .int cur, .int ((seed * 69621 + 12345) % 2147483647)]) := um_same
      show WS K _ [some (.ref p), some (.int n), y, z] (um M p (.lst [.dat (.list (sc.map .int)), .int pos, .int cur, .int ((seed * 69621 + 12345) % 2147483647)])) _
      walk_at "e"
      exact q _ _ (Int.emod_nonneg _ (by omega)) (Int.emod_lt_of_pos _ hn0) ⟨sc, pos, cur, _, rfl, hpos⟩
theorem ok_sameEN (T : Txt K mg a d) : ∀ n : Nat, FnOk P w K mg base CX0 n a.law_same d.law_same ["_law_actual", "_law_expected"] (conc K (A_sameEN n)) := by
  intro n
  induction n with
  | zero => exact ⟨fun vs H Q E h => by obtain ⟨_, _, _, _, _, _, z, _⟩ := h; exact z.elim, fun A outer s H args us vs Q E _ _ _ _ h => by obtain ⟨_, _, _, _, _, _, z, _⟩ := h; exact z.elim⟩
  | succ n ih =>
    have G_law_same := ih
    refine ab_ok T.F_law_same sc_law_same (fun ss M Q ⟨x, y, e, _⟩ => by subst e; rfl) fun cdv Ar outer s H E hr => ?_
    have hu64 := hr.units
    refine ⟨_, (pss_cons (ps_if (pt_cmpR op_isN (pv 1) pe_non (nomark _)) (pss_one (ps_ret (pe_cmpR op_isN (pv 0) pe_non (nomark _)))) pss_nil)
  (pss_cons (ps_if (pt_val (pe_callB (r := rIsi K) call_isi (by rfl) T.n_isinstance (by decide +kernel) (pa_cons (pv 1) (pa_cons (pe_bltn (v := .ty "bool") (u := .type "bool") (by rfl) T.n_bool (by decide +kernel) rfl) pa_nil)))) (pss_one (ps_ret (pe_and (pe_callB (r := rIsi K) call_isi (by rfl) T.n_isinstance (by decide +kernel) (pa_cons (pv 0) (pa_cons (pe_bltn (v := .ty "bool") (u := .type "bool") (by rfl) T.n_bool (by decide +kernel) rfl) pa_nil))) (pe_one (pe_cmpR (r := rEqD K) (op_eqD hu64) (pv 0) (pv 1) (nomark _)))))) pss_nil)
  (pss_cons (ps_if (pt_val (pe_callB (r := rIsi K) call_isi (by rfl) T.n_isinstance (by decide +kernel) (pa_cons (pv 1) (pa_cons (pe_bltn (v := .ty "int") (u := .type "int") (by rfl) T.n_int (by decide +kernel) rfl) pa_nil)))) (pss_one (ps_ret (pe_and (pe_callB (r := rIsi K) call_isi (by rfl) T.n_isinstance (by decide +kernel) (pa_cons (pv 0) (pa_cons (pe_bltn (v := .ty "int") (u := .type "int") (by rfl) T.n_int (by decide +kernel) rfl) pa_nil))) (pe_and (pe_not (pe_callB (r := rIsi K) call_isi (by rfl) T.n_isinstance (by decide +kernel) (pa_cons (pv 0) (pa_cons (pe_bltn (v := .ty "bool") (u := .type "bool") (by rfl) T.n_bool (by decide +kernel) rfl) pa_nil)))) (pe_one (pe_cmpR (r := rEqD K) (op_eqD hu64) (pv 0) (pv 1) (nomark _))))))) pss_nil)
  (pss_cons (ps_if (pt_val (pe_callB (r := rIsi K) call_isi (by rfl) T.n_isinstance (by decide +kernel) (pa_cons (pv 1) (pa_cons (pe_bltn (v := .ty "str") (u := .type "str") (by rfl) T.n_str (by decide +kernel) rfl) pa_nil)))) (pss_one (ps_ret (pe_and (pe_callB (r := rIsi K) call_isi (by rfl) T.n_isinstance (by decide +kernel) (pa_cons (pv 0) (pa_cons (pe_bltn (v := .ty "str") (u := .type "str") (by rfl) T.n_str (by decide +kernel) rfl) pa_nil))) (pe_one (pe_cmpR (r := rEqD K) (op_eqD hu64) (pv 0) (pv 1) (nomark _)))))) pss_nil)
  (pss_cons (ps_if (PW.pt (pw_and (pt_val (pe_callB (r := rIsi K) call_isi (by rfl) T.n_isinstance (by decide +kernel) (pa_cons (pv 1) (pa_cons (pe_bltn (v := .ty "tuple") (u := .type "tuple") (by rfl) T.n_tuple (by decide +kernel) rfl) pa_nil)))) (pw_and1 (pt_not (pt_val (pe_callB (r := rIsi K) call_isi (by rfl) T.n_isinstance (by decide +kernel) (pa_cons (pv 0) (pa_cons (pe_bltn (v := .ty "tuple") (u := .type "tuple") (by rfl) T.n_tuple (by decide +kernel) rfl) pa_nil)))))))) (pss_one (ps_ret pe_bl)) pss_nil)
  (pss_cons (ps_if (PW.pt (pw_and (pt_val (pe_callB (r := rIsi K) call_isi (by rfl) T.n_isinstance (by decide +kernel) (pa_cons (pv 1) (pa_cons (pe_bltn (v := .ty "list") (u := .type "list") (by rfl) T.n_list (by decide +kernel) rfl) pa_nil)))) (pw_and1 (pt_not (pt_val (pe_callB (r := rIsi K) call_isi (by rfl) T.n_isinstance (by decide +kernel) (pa_cons (pv 0) (pa_cons (pe_bltn (v := .ty "list") (u := .type "list") (by rfl) T.n_list (by decide +kernel) rfl) pa_nil)))))))) (pss_one (ps_ret pe_bl)) pss_nil)
  (pss_cons (ps_if (pt_cmpR (r := rNeD K) (op_neD hu64) (pe_callB (r := rLenS K) call_len_seq (by rfl) T.n_len PySem.boot_len (pa_cons (pv 0) pa_nil)) (pe_callB (r := rLenS K) call_len_seq (by rfl) T.n_len PySem.boot_len (pa_cons (pv 1) pa_nil)) (nomark _)) (pss_one (ps_ret pe_bl)) pss_nil)
  (pss_cons (ps_for PassesOwn.never rfl (pi_range1 rfl T.n_range (pa_cons (pe_callB (r := rLenS K) call_len_seq (by rfl) T.n_len PySem.boot_len (pa_cons (pv 1) pa_nil)) pa_nil)) (pg_name (i := 2) sc_law_same.nd rfl (Or.inl rfl)) (pss_one (ps_if (pt_not (pt_val (pe_call G_law_same (hr.mono (by omega)) (by rfl) T.g_law_same T.F_law_same.kp T.b_law_same .nil pass0 (pa_cons (pe_ix (r := rIx K) ix_seq (pv 0) (pv 2) (fun _ _ => rfl)) (pa_cons (pe_ix (r := rIx K) ix_seq (pv 1) (pv 2) (fun _ _ => rfl)) pa_nil))))) (pss_one (ps_ret pe_bl)) pss_nil)))
  (pss_one (ps_ret pe_bl)))))))))), ?_⟩
    rintro ss M Q ⟨x, y, rfl, hx, hy, tx, ty, q⟩
    walk_at "k"
    show WS K _ [some (.dat x), some (.dat y), none] M _
    cases y with
    | none => cases ty
    | bool b => cases ty
    | list _ => cases ty
    | dict _ => cases ty
    | int j =>
      cases x with
      | none => cases tx
      | bool b => cases tx
      | list _ => cases tx
      | dict _ => cases tx
      | int i =>
        walk_at "e"
        rw [← eqv_int]
        exact q
      | str s =>
        walk_at "e"
        exact q
      | tuple xs =>
        walk_at "e"
        exact q
    | str t =>
      cases x with
      | none => cases tx
      | bool b => cases tx
      | list _ => cases tx
      | dict _ => cases tx
      | int i =>
        walk_at "e"
        exact q
      | str s =>
        have h1 : PyData.strOk s = true := by cases n <;> simpa [okD] using hx
        have h2 : PyData.strOk t = true := by cases n <;> simpa [okD] using hy
        walk_at "e"
        rw [← eqv_str]
        exact q
      | tuple xs =>
        walk_at "e"
        exact q
    | tuple ys =>
      cases x with
      | none => cases tx
      | bool b => cases tx
      | list _ => cases tx
      | dict _ => cases tx
      | int i =>
        walk_at "e"
        exact q
      | str s =>
        walk_at "e"
        exact q
      | tuple xs =>
        cases n with
        | zero => cases hx
        | succ m =>
          obtain ⟨hl, ho⟩ := okD_tuple hx
          obtain ⟨hl2, ho2⟩ := okD_tuple hy
          walk_at "e"
          refine ite_n (fun hne => ?_) (fun hne => ?_)
          · walk_at "e"
            have : PyData.eqv (.tuple xs) (.tuple ys) = false := eqvAll_len fun e => hne (by omega)
            rw [this] at q
            exact q
          have hlen : xs.length = ys.length := by omega
          walk_at "e"
          refine ws_forR1 (n := (ys.length : Int)) (M1 := M) (by walk_at "e"; exact ⟨rfl, rfl⟩) (by omega)
            (fun i ρ' M' => (∃ y, ρ' = [some (.dat (.tuple xs)), some (.dat (.tuple ys)), y] ∧ M' = M) ∧ ∀ j, j < i → PyData.eqv (xs.getD j .none) (ys.getD j .none) = true) ⟨⟨_, rfl, rfl⟩, fun j hj => absurd hj (Nat.not_lt_zero _)⟩ ?_ ?_
          · rintro i ρ' M' hi ⟨⟨y, rfl, rfl⟩, hbef⟩
            have hi' : i < ys.length := by omega
            have hi1 : i < xs.length := by omega
            refine wg_name ?_
            have hat1 : atI xs (i : Int) = some xs[i] := atI_nat (List.getElem?_eq_getElem hi1)
            have hat2 : atI ys (i : Int) = some ys[i] := atI_nat (List.getElem?_eq_getElem hi')
            walk_at "e"
            refine w2_ixDT hat1 ?_
            walk_at "e"
            refine w2_ixDT hat2 ?_
            walk_at "e"
            refine ⟨xs[i], ys[i], rfl, okD_mem ho (List.getElem_mem hi1), okD_mem ho2 (List.getElem_mem hi'), tpd_mem tx (List.getElem_mem hi1), tpd_mem ty (List.getElem_mem hi'), ?_⟩
            have g1 : xs.getD i .none = xs[i] := by rw [List.getD_eq_getElem?_getD, List.getElem?_eq_getElem hi1]; rfl
            have g2 : ys.getD i .none = ys[i] := by rw [List.getD_eq_getElem?_getD, List.getElem?_eq_getElem hi']; rfl
            cases hq : PyData.eqv xs[i] ys[i] with
            | true =>
              walk_at "e"
              refine ⟨⟨_, rfl, rfl⟩, fun j hj => ?_⟩
              rcases Nat.lt_succ_iff_lt_or_eq.mp hj with h | rfl
              · exact hbef j h
              · rw [g1, g2]; exact hq
            | false =>
              walk_at "e"
              have : PyData.eqv (.tuple xs) (.tuple ys) = false := eqvAll_at hlen hi1 (by rw [g1, g2]; exact hq)
              rw [this] at q
              exact q
          · rintro ρ' M' ⟨⟨y, rfl, rfl⟩, hbef⟩
            walk_at "e"
            have : PyData.eqv (.tuple xs) (.tuple ys) = true := eqvAll_all hlen fun j hj => hbef j (by omega)
            rw [this] at q
            exact q
end
end
section
section
variable {P : Program} {w : World} {K : PySem.W.Frag} {mg : Str → Option Value} {base : Heap} {a : AD} {d : FD}
abbrev A_worth : ASp := A_draw fun d => isVal d = true
theorem ok_worth (T : Txt K mg a d) : FnOk P w K mg base CX0 2 a.law_worth d.law_worth ["_law_state"] (conc K A_worth) := by
  have G_law_next : FnOk P w K mg base CX0 1 a.law_next d.law_next ["_law_state", "_law_limit"] (conc K A_next) := ok_next T
  refine ab_ok T.F_law_worth sc_law_worth (fun ss M Q ⟨p, xs, ds, e, e2, _⟩ => by subst e e2; rfl) fun cdv Ar outer s H E hr => ⟨_, (pss_one (ps_ret (pe_ix (r := rIxL K) ix_list (pe_lst (pa_cons pe_int (pa_cons pe_int (pa_cons pe_int (pa_cons (pe_un un_neg pe_int) (pa_cons pe_int (pa_cons pe_str (pa_cons pe_str (pa_cons pe_str (pa_cons (pe_op op_sub (pe_op op_pow pe_int pe_int) pe_int) (pa_cons pe_int (pa_cons pe_str (pa_cons pe_str (pa_cons pe_str (pa_cons pe_str (pa_cons (pe_un un_neg pe_int) (pa_cons pe_int pa_nil))))))))))))))))) (pe_call G_law_next (hr.mono (by omega)) (by rfl) T.g_law_next T.F_law_next.kp T.b_law_next .nil pass0 (pa_cons (pv 0) (pa_cons pe_int pa_nil))) (fun _ _ => rfl)))), ?_⟩
  rintro ss M Q ⟨p, xs, ds, rfl, rfl, hM, hD, q⟩
  obtain ⟨M0, rfl⟩ : ∃ M0, M = um M0 p (.lst xs) := ⟨M, (um_id hM).symm⟩
  simp only [um_um] at q
  walk_at "k"
  show WS K _ [some (.ref p)] (um M0 p (.lst xs)) _
  walk_at "f"
  refine a_next hD (by decide) (by decide) fun v ys h0 h1 hD1 => ?_
  walk_at "f"
  have all : ∀ d ∈ [PyData.int 0, PyData.int 1, PyData.int 2, PyData.int (-1), PyData.int 3, PyData.str "a", PyData.str "", PyData.str "1", PyData.int (10 ^ 30 - 1), PyData.int 2, PyData.str "A", PyData.str "ab", PyData.str "aB", PyData.str "ac", PyData.int (-7), PyData.int 12], isVal d = true := by decide +kernel
  exact fun d hd => q d _ (all d hd) hD1
abbrev A_variable : ASp := A_draw fun d => isName d = true
theorem ok_variable (T : Txt K mg a d) : FnOk P w K mg base CX0 2 a.law_variable d.law_variable ["_law_state"] (conc K A_variable) := by
  have G_law_next : FnOk P w K mg base CX0 1 a.law_next d.law_next ["_law_state", "_law_limit"] (conc K A_next) := ok_next T
  refine ab_ok T.F_law_variable sc_law_variable (fun ss M Q ⟨p, xs, ds, e, e2, _⟩ => by subst e e2; rfl) fun cdv Ar outer s H E hr => ⟨_, (pss_one (ps_ret (pe_ix (r := rIxL K) ix_list (pe_lst (pa_cons pe_str (pa_cons pe_str (pa_cons pe_str (pa_cons pe_str pa_nil))))) (pe_call G_law_next (hr.mono (by omega)) (by rfl) T.g_law_next T.F_law_next.kp T.b_law_next .nil pass0 (pa_cons (pv 0) (pa_cons pe_int pa_nil))) (fun _ _ => rfl)))), ?_⟩
  rintro ss M Q ⟨p, xs, ds, rfl, rfl, hM, hD, q⟩
  obtain ⟨M0, rfl⟩ : ∃ M0, M = um M0 p (.lst xs) := ⟨M, (um_id hM).symm⟩
  simp only [um_um] at q
  walk_at "k"
  show WS K _ [some (.ref p)] (um M0 p (.lst xs)) _
  walk_at "f"
  refine a_next hD (by decide) (by decide) fun v ys h0 h1 hD1 => ?_
  walk_at "f"
  have all : ∀ d ∈ [PyData.str "x", PyData.str "y", PyData.str "z", PyData.str "n_1"], isName d = true := by decide +kernel
  exact fun d hd => q d _ (all d hd) hD1
abbrev A_lterm : ASp := A_gen (fun ds => ∃ ks, ds = [bnd ks] ∧ okK ks) fun ds d => ∃ t : Term, d = t.enc ∧ t.ok
theorem ok_lterm (T : Txt K mg a d) : FnOk P w K mg base CX0 3 a.law_term d.law_term ["_law_state", "_law_bound"] (conc K A_lterm) := by
  have G_law_next : FnOk P w K mg base CX0 1 a.law_next d.law_next ["_law_state", "_law_limit"] (conc K A_next) := ok_next T
  have G_law_variable : FnOk P w K mg base CX0 2 a.law_variable d.law_variable ["_law_state"] (conc K A_variable) := ok_variable T
  have G_law_worth : FnOk P w K mg base CX0 2 a.law_worth d.law_worth ["_law_state"] (conc K A_worth) := ok_worth T
  refine ab_ok T.F_law_term sc_law_term (fun ss M Q ⟨p, xs, ds, e, ⟨ks, e2, _⟩, _⟩ => by subst e e2; rfl) fun cdv Ar outer s H E hr => ?_
  have hu64 := hr.units
  refine ⟨_, (pss_cons (ps_set (i := 2) sc_law_term.nd rfl (Or.inl rfl) (pe_call G_law_next (hr.mono (by omega)) (by rfl) T.g_law_next T.F_law_next.kp T.b_law_next .nil pass0 (pa_cons (pv 0) (pa_cons pe_int pa_nil))))
  (pss_cons (ps_if (PW.pt (pw_and (pt_cmpR op_lt (pv 2) pe_int (nomark _)) (pw_and1 (pt_cmpR op_gt (pe_callB (r := rLenS K) call_len_seq (by rfl) T.n_len PySem.boot_len (pa_cons (pv 1) pa_nil)) pe_int (nomark _))))) (pss_one (ps_ret (pe_tup (pa_cons pe_str (pa_cons (pe_ix (r := rIxL K) ix_list (pv 1) (pe_call G_law_next (hr.mono (by omega)) (by rfl) T.g_law_next T.F_law_next.kp T.b_law_next .nil pass0 (pa_cons (pv 0) (pa_cons (pe_callB (r := rLenS K) call_len_seq (by rfl) T.n_len PySem.boot_len (pa_cons (pv 1) pa_nil)) pa_nil))) (fun _ _ => rfl)) pa_nil))))) pss_nil)
  (pss_cons (ps_if (pt_cmpR op_lt (pv 2) pe_int (nomark _)) (pss_one (ps_ret (pe_tup (pa_cons pe_str (pa_cons (pe_call G_law_variable (hr.mono (by omega)) (by rfl) T.g_law_variable T.F_law_variable.kp T.b_law_variable .nil pass0 (pa_cons (pv 0) pa_nil)) pa_nil))))) pss_nil)
  (pss_one (ps_ret (pe_ix (r := rIxL K) ix_list (pe_lst (pa_cons (pe_tup (pa_cons pe_str pa_nil)) (pa_cons (pe_tup (pa_cons pe_str (pa_cons (pe_call G_law_worth (hr.mono (by omega)) (by rfl) T.g_law_worth T.F_law_worth.kp T.b_law_worth .nil pass0 (pa_cons (pv 0) pa_nil)) pa_nil))) pa_nil))) (pe_callTy (r := rInt1) call_int1 (by rfl) T.n_int (by decide +kernel) (pa_cons (pe_cmpR op_lt (pv 2) pe_int (nomark _)) pa_nil)) (fun _ _ => rfl))))))), ?_⟩
  rintro ss M Q ⟨p, xs, ds, rfl, ⟨ks, rfl, hk⟩, hM, hD, q⟩
  obtain ⟨M0, rfl⟩ : ∃ M0, M = um M0 p (.lst xs) := ⟨M, (um_id hM).symm⟩
  simp only [um_um] at q
  walk_at "k"
  show WS K _ [some (.ref p), some (.dat (bnd ks)), none] (um M0 p (.lst xs)) _
  walk_at "f"
  refine a_next hD (by decide) (by decide) fun v ys h0 h1 hD1 => ?_
  refine ws_mid (fun ρ' M' => ρ' = [some (.ref p), some (.dat (bnd ks)), some (.int v)] ∧ M' = um M0 p (.lst ys)) ?_ ?_
  · walk_at "f"
    refine ite_d (fun h => ?_) (fun h => ?_)
    · walk_at "f"
      refine ite_d (fun h2 => ?_) (fun h2 => ?_)
      · walk_at "f"
        refine a_next hD1 (by exact h2) (by have := hk.l; exact Int.le_trans (b := 100000) (by omega) (by decide)) fun i zs i0 i1 hD2 => ?_
        refine w2_ixT1 i0 i1 fun z hz => ?_
        walk_at "f"
        exact q _ _ ⟨.variable z, rfl, hk.g z hz⟩ hD2
      · exact ws_next ⟨rfl, rfl⟩
    · walk_at "f"
      exact ⟨rfl, rfl⟩
  · rintro ρ' M' ⟨rfl, rfl⟩
    walk_at "f"
    refine ite_d (fun h => ?_) (fun h => ?_)
    · walk_at "f"
      refine a_gen0 hD1 rfl fun d zs hP hD2 => ?_
      obtain ⟨x, rfl, hx⟩ := isName_of hP
      walk_at "f"
      exact q _ _ ⟨.variable x, rfl, hx⟩ hD2
    · walk_at "f"
      refine a_gen0 hD1 rfl fun d zs hP hD2 => ?_
      obtain ⟨x, rfl, hx⟩ := isVal_of hP
      walk_at "f"
      intro d hd
      simp only [List.mem_cons, List.not_mem_nil, or_false] at hd
      rcases hd with rfl | rfl
      · exact q _ _ ⟨.any, rfl, trivial⟩ hD2
      · exact q _ _ ⟨.value x, rfl, hx⟩ hD2
def A_settled : ASp := fun ss M Q => ∃ ks t, ss = [.dat (Term.enc t), .dat (bnd ks)] ∧ t.ok ∧ okK ks ∧ Q (.dat (settled ks t).enc) M
theorem ok_settled (T : Txt K mg a d) : FnOk P w K mg base CX0 1 a.law_settled d.law_settled ["_law_term_here", "_law_bound"] (conc K A_settled) := by
  refine ab_ok T.F_law_settled sc_law_settled (fun ss M Q ⟨ks, t, e, _⟩ => by subst e; rfl) fun cdv Ar outer s H E hr => ?_
  have hu64 := hr.units
  have hu65 := room65 hr
  refine ⟨_, (pss_cons (ps_if (PW.pt (pw_or (pt_cmpR (r := rEqD K) (op_eqD hu64) (pe_ix (r := rIxT K) ix_tup (pv 0) pe_int (fun _ _ => rfl)) pe_str (nomark _)) (pw_or1 (PW.pt (pw_and (pt_cmpR (r := rEqD K) (op_eqD hu64) (pe_ix (r := rIxT K) ix_tup (pv 0) pe_int (fun _ _ => rfl)) pe_str (nomark _)) (pw_and1 (pt_cmpR (r := rNotInD K) (op_notInD hu65) (pe_ix (r := rIxT K) ix_tup (pv 0) pe_int (fun _ _ => rfl)) (pv 1) (by rfl)))))))) (pss_one (ps_ret (pe_tup (pa_cons pe_str (pa_cons pe_int pa_nil))))) pss_nil)
  (pss_one (ps_ret (pv 0)))), ?_⟩
  rintro ss M Q ⟨ks, t, rfl, ht, hk, q⟩
  walk_at "k"
  cases t with
  | any =>
    show WS K _ [some (.dat (.tuple [.str "any"])), some (.dat (bnd ks))] M _
    walk_at "f"
    exact q
  | value v =>
    show WS K _ [some (.dat (.tuple [.str "value", v.enc])), some (.dat (bnd ks))] M _
    walk_at "f"
    exact q
  | «variable» z =>
    show WS K _ [some (.dat (.tuple [.str "variable", .str z])), some (.dat (bnd ks))] M _
    walk_at "f"
    have := hk.l
    refine w2_notInT (ks := ks) lsv_strs ht hk.g (by omega) ?_
    walk_at "f"
    refine ite_n (fun h => ?_) (fun h => ?_)
    · walk_at "f"
      exact cast (congrArg (fun t => Q (.dat (Term.enc t)) M) (if_neg h)) q
    · walk_at "f"
      exact cast (congrArg (fun t => Q (.dat (Term.enc t)) M) (if_pos h)) q
/-- the names that a literal binds -/
def A_binds : ASp := fun ss M Q => ∃ l, ss = [.dat (Lit.enc l)] ∧ l.ok ∧ Q (.dat (bnd (bindsF l))) M
theorem ok_binds (T : Txt K mg a d) : FnOk P w K mg base CX0 1 a.law_binds d.law_binds ["_law_literal_here"] (conc K A_binds) := by
  refine ab_ok T.F_law_binds sc_law_binds (fun ss M Q ⟨l, e, _⟩ => by subst e; rfl) fun cdv Ar outer s H E hr => ?_
  have hu64 := hr.units
  have hu65 := room65 hr
  refine ⟨_, (pss_cons (ps_if (pt_cmpR (r := rEqD K) (op_eqD hu64) (pe_ix (r := rIxT K) ix_tup (pv 0) pe_int (fun _ _ => rfl)) pe_str (nomark _)) (pss_one (ps_ret (pe_lc (own := [("_law_term_here", 1)]) rfl sc_law_binds.nd (pi_tup (pe_ix (r := rIxT K) ix_tup (pv 0) pe_int (fun _ _ => rfl))) (blkOk_by (own := [("_law_term_here", 1)]) (N := ["_law_literal_here", "_law_term_here"]) (sc := (defScope s_law_binds)) (by decide +kernel)) (fun _ _ _ _ _ => (pg_name (i := 1) sc_law_binds.nd rfl (Or.inl rfl))) (fun _ _ _ _ _ => pts_one (pt_cmpR (r := rEqD K) (op_eqD hu64) (pe_ix (r := rIxT K) ix_tup (pv 1) pe_int (fun _ _ => rfl)) pe_str (nomark _))) (fun _ _ _ _ _ => (pe_ix (r := rIxT K) ix_tup (pv 1) pe_int (fun _ _ => rfl)))))) pss_nil)
  (pss_cons (ps_if (pt_cmpR (r := rInD K) (op_inD hu65) (pe_ix (r := rIxT K) ix_tup (pv 0) pe_int (fun _ _ => rfl)) (pe_lst (pa_cons pe_str (pa_cons pe_str pa_nil))) (by rfl)) (pss_one (ps_ret (pe_lst (pa_cons (pe_ix (r := rIxT K) ix_tup (pv 0) pe_int (fun _ _ => rfl)) pa_nil)))) pss_nil)
  (pss_one (ps_ret (pe_lst pa_nil))))), ?_⟩
  rintro ss M Q ⟨l, rfl, hl, q⟩
  walk_at "k"
  have inL : ∀ (z : Str) (Q : Sl → MH → Prop), goodS z = true → Q (.bl (decide (z ∈ [("is" : Str), "count"]))) M → W2 K (rInD K) (.dat (.str z)) (.dat (.list [.str "is", .str "count"])) M Q := fun z Q hz q => w2_inT (ks := [("is" : Str), "count"]) (lsv_strs (ks := [("is" : Str), "count"])) hz (by decide +kernel) (by decide) q
  cases l with
  | fact r ts =>
    show WS K _ [some (.dat (.tuple [.str "fact", .str r, encT ts])), none] M _
    walk_at "f"
    refine w_lcTF (xs := ts) (enc := Term.enc) (M1 := M) (by decide) (w_op (w_var rfl (w_int (w2_ixT rfl ⟨rfl, rfl⟩)))) (by have := hl.2.1; omega) (fun t => (varT t).map PyData.str) ?_ ?_ ?_
    · intro t D o htm hD
      walk_at "e"
      cases t with
      | any =>
        walk_at "e"
        exact ⟨by decide +kernel, rfl⟩
      | value v =>
        unfold Term.enc
        walk_at "e"
        exact ⟨show decide (("value" : Str) = "variable") = false by decide +kernel, rfl⟩
      | «variable» z =>
        unfold Term.enc
        walk_at "e"
        exact ⟨show decide (("variable" : Str) = "variable") = true by decide +kernel, rfl⟩
    · intro t D o d htm hv hD
      cases t with
      | any => cases hv
      | value v => cases hv
      | «variable» z =>
        cases hv
        unfold Term.enc
        walk_at "e"
        exact ⟨rfl, rfl⟩
    · have e : bnd (bindsF (.fact r ts)) = .list (ts.filterMap fun t => (varT t).map PyData.str) := by
        show PyData.list ((varsF ts).map .str) = _
        unfold varsF
        rw [List.map_filterMap]
      rw [← e]
      exact q
  | neg r ts =>
    show WS K _ [some (.dat (.tuple [.str "not", .str r, encT ts])), none] M _
    walk_at "f"
    refine inL _ _ (by decide +kernel) ?_
    refine ⟨_, rfl, ?_⟩
    rw [if_neg (by decide +kernel)]
    walk_at "f"
    exact q
  | compare op s t =>
    show WS K _ [some (.dat (.tuple [.str "compare", .str op, s.enc, t.enc])), none] M _
    walk_at "f"
    refine inL _ _ (by decide +kernel) ?_
    refine ⟨_, rfl, ?_⟩
    rw [if_neg (by decide +kernel)]
    walk_at "f"
    exact q
  | is x op s t =>
    show WS K _ [some (.dat (.tuple [.str "is", .str x, .str op, s.enc, t.enc])), none] M _
    walk_at "f"
    refine inL _ _ (by decide +kernel) ?_
    refine ⟨_, rfl, ?_⟩
    rw [if_pos (by decide +kernel)]
    walk_at "f"
    exact q
  | count x r ts =>
    show WS K _ [some (.dat (.tuple [.str "count", .str x, .str r, encT ts])), none] M _
    walk_at "f"
    refine inL _ _ (by decide +kernel) ?_
    refine ⟨_, rfl, ?_⟩
    rw [if_pos (by decide +kernel)]
    walk_at "f"
    exact q
end
end
section
section
variable {P : Program} {w : World} {K : PySem.W.Frag} {mg : Str → Option Value} {base : Heap} {a : AD} {d : FD}
def A_llitC : ASp := fun ss M Q => ∃ p q xs Ws ks, ss = [.raw (.ref p), .raw (.ref q), .dat (bnd ks), .bl true] ∧ M p = some (.lst xs) ∧ DrawL xs ∧ M q = some (.dK (kvW Ws)) ∧ okW Ws ∧ okK ks ∧ ∀ (l : Lit) ys, l.ok → litC Ws ks l → DrawL ys → Q (.dat l.enc) (Ab.um M p (.lst ys))
theorem ok_llitC (T : Txt K mg a d) : FnOk P w K mg base CX0 4 a.law_literal d.law_literal ["_law_state", "_law_widths", "_law_bound", "_law_careful"] (conc K A_llitC) := by
  have G_law_next : FnOk P w K mg base CX0 1 a.law_next d.law_next ["_law_state", "_law_limit"] (conc K A_next) := ok_next T
  have G_law_variable : FnOk P w K mg base CX0 2 a.law_variable d.law_variable ["_law_state"] (conc K A_variable) := ok_variable T
  have G_law_term : FnOk P w K mg base CX0 3 a.law_term d.law_term ["_law_state", "_law_bound"] (conc K A_lterm) := ok_lterm T
  have G_law_settled : FnOk P w K mg base CX0 1 a.law_settled d.law_settled ["_law_term_here", "_law_bound"] (conc K A_settled) := ok_settled T
  refine ab_ok T.F_law_literal sc_law_literal (fun ss M Q ⟨p, q, xs, Ws, ks, e, _⟩ => by subst e; rfl) fun cdv Ar outer s H E hr => ?_
  have hu64 := hr.units
  have hu65 := room65 hr
  refine ⟨_, (pss_cons (ps_set (i := 4) sc_law_literal.nd rfl (Or.inl rfl) (pe_callB (r := rSortedS K) cr_sortedS (by rfl) T.n_sorted (by decide +kernel) (pa_cons (pe_callTy (r := rListDk) (call_listD rfl) (by rfl) T.n_list (by decide +kernel) (pa_cons (pv 1) pa_nil)) pa_nil)))
  (pss_cons (ps_set (i := 5) sc_law_literal.nd rfl (Or.inl rfl) (pe_ix (r := rIxL K) ix_list (pv 4) (pe_call G_law_next (hr.mono (by omega)) (by rfl) T.g_law_next T.F_law_next.kp T.b_law_next .nil pass0 (pa_cons (pv 0) (pa_cons (pe_callB (r := rLenS K) call_len_seq (by rfl) T.n_len PySem.boot_len (pa_cons (pv 4) pa_nil)) pa_nil))) (fun _ _ => rfl)))
  (pss_cons (ps_set (i := 6) sc_law_literal.nd rfl (Or.inl rfl) (pe_dget (hu1 hu64) (pv 1) (pv 5) (fun _ _ => rfl)))
  (pss_cons (ps_if (PW.pt (pw_and (pt_not (pt_val (pv 3))) (pw_and1 (pt_cmpR (r := rEqD K) (op_eqD hu64) (pe_call G_law_next (hr.mono (by omega)) (by rfl) T.g_law_next T.F_law_next.kp T.b_law_next .nil pass0 (pa_cons (pv 0) (pa_cons pe_int pa_nil))) pe_int (nomark _))))) (pss_one (ps_set (i := 6) sc_law_literal.nd rfl (Or.inl rfl) (pe_op op_sub (pe_op op_add (pv 6) pe_int) (pe_op op_mul pe_int (pe_call G_law_next (hr.mono (by omega)) (by rfl) T.g_law_next T.F_law_next.kp T.b_law_next .nil pass0 (pa_cons (pv 0) (pa_cons pe_int pa_nil))))))) pss_nil)
  (pss_cons (ps_if (PW.pt (pw_and (pt_not (pt_val (pv 3))) (pw_and1 (pt_cmpR (r := rEqD K) (op_eqD hu64) (pe_call G_law_next (hr.mono (by omega)) (by rfl) T.g_law_next T.F_law_next.kp T.b_law_next .nil pass0 (pa_cons (pv 0) (pa_cons pe_int pa_nil))) pe_int (nomark _))))) (pss_one (ps_set (i := 5) sc_law_literal.nd rfl (Or.inl rfl) pe_str)) pss_nil)
  (pss_cons (ps_setLc (i := 7) (own := [("_law_k", 8)]) rfl sc_law_literal.nd rfl rfl (sw_true rfl rfl rfl (by decide +kernel)) (pi_range1 rfl T.n_range (pa_cons (pv 6) pa_nil)) (blkOk_by (own := [("_law_k", 8)]) (N := ["_law_state", "_law_widths", "_law_bound", "_law_careful", "_law_names", "_law_relation", "_law_width", "_law_terms", "_law_k", "_law_form", "_law_term_here", "_law_pair", "_law_variable_here"]) (sc := (defScope s_law_literal)) (by decide +kernel)) (fun _ _ _ _ _ => (pg_name (i := 8) sc_law_literal.nd rfl (Or.inl rfl))) (fun _ _ _ _ _ => pts_nil) (fun _ _ _ _ _ => (pe_call G_law_term (hr.mono (by omega)) (by rfl) T.g_law_term T.F_law_term.kp T.b_law_term .nil pass0 (pa_cons (pv 0) (pa_cons (pv 2) pa_nil)))))
  (pss_cons (ps_set (i := 9) sc_law_literal.nd rfl (Or.inl rfl) (pe_ix (r := rIxL K) ix_list (pe_lst (pa_cons pe_str (pa_cons pe_str (pa_cons pe_str (pa_cons pe_str (pa_cons pe_str (pa_cons pe_str (pa_cons pe_str pa_nil)))))))) (pe_call G_law_next (hr.mono (by omega)) (by rfl) T.g_law_next T.F_law_next.kp T.b_law_next .nil pass0 (pa_cons (pv 0) (pa_cons pe_int pa_nil))) (fun _ _ => rfl)))
  (pss_cons (ps_if (PW.pt (pw_and (pt_cmpR (r := rEqD K) (op_eqD hu64) (pv 9) pe_str (nomark _)) (pw_and1 (PW.pt (pw_or (pt_val (pv 3)) (pw_or1 (pt_cmpR op_gt (pe_call G_law_next (hr.mono (by omega)) (by rfl) T.g_law_next T.F_law_next.kp T.b_law_next .nil pass0 (pa_cons (pv 0) (pa_cons pe_int pa_nil))) pe_int (nomark _)))))))) (pss_one (ps_setLc (i := 7) (own := [("_law_term_here", 10)]) rfl sc_law_literal.nd rfl rfl (sw_true rfl rfl rfl (by decide +kernel)) (pi_list (pv 7)) (blkOk_by (own := [("_law_term_here", 10)]) (N := ["_law_state", "_law_widths", "_law_bound", "_law_careful", "_law_names", "_law_relation", "_law_width", "_law_terms", "_law_k", "_law_form", "_law_term_here", "_law_pair", "_law_variable_here"]) (sc := (defScope s_law_literal)) (by decide +kernel)) (fun _ _ _ _ _ => (pg_name (i := 10) sc_law_literal.nd rfl (Or.inl rfl))) (fun _ _ _ _ _ => pts_nil) (fun _ _ _ _ _ => (pe_ix (r := rIxL K) ix_list (pe_lst (pa_cons (pv 10) (pa_cons (pe_tup (pa_cons pe_str pa_nil)) pa_nil))) (pe_callTy (r := rInt1) call_int1 (by rfl) T.n_int (by decide +kernel) (pa_cons (pe_and (pe_cmpR (r := rEqD K) (op_eqD hu64) (pe_ix (r := rIxT K) ix_tup (pv 10) pe_int (fun _ _ => rfl)) pe_str (nomark _)) (pe_one (pe_cmpR (r := rNotInD K) (op_notInD hu65) (pe_ix (r := rIxT K) ix_tup (pv 10) pe_int (fun _ _ => rfl)) (pv 2) (by rfl)))) pa_nil)) (fun _ _ => rfl))))) pss_nil)
  (pss_cons (ps_if (pt_cmpR (r := rInD K) (op_inD hu65) (pv 9) (pe_lst (pa_cons pe_str (pa_cons pe_str pa_nil))) (by rfl)) (pss_one (ps_ret (pe_tup (pa_cons (pv 9) (pa_cons (pv 5) (pa_cons (pe_callTy (r := rTupS K) call_tuple_of (by rfl) T.n_tuple (by decide +kernel) (pa_cons (pv 7) pa_nil)) pa_nil)))))) pss_nil)
  (pss_cons (ps_set (i := 11) sc_law_literal.nd rfl (Or.inl rfl) (pe_lst (pa_cons (pe_call G_law_term (hr.mono (by omega)) (by rfl) T.g_law_term T.F_law_term.kp T.b_law_term .nil pass0 (pa_cons (pv 0) (pa_cons (pv 2) pa_nil))) (pa_cons (pe_call G_law_term (hr.mono (by omega)) (by rfl) T.g_law_term T.F_law_term.kp T.b_law_term .nil pass0 (pa_cons (pv 0) (pa_cons (pv 2) pa_nil))) pa_nil))))
  (pss_cons (ps_if (PW.pt (pw_or (pt_val (pv 3)) (pw_or1 (pt_cmpR op_gt (pe_call G_law_next (hr.mono (by omega)) (by rfl) T.g_law_next T.F_law_next.kp T.b_law_next .nil pass0 (pa_cons (pv 0) (pa_cons pe_int pa_nil))) pe_int (nomark _))))) (pss_one (ps_setLc (i := 11) (own := [("_law_term_here", 10)]) rfl sc_law_literal.nd rfl rfl (sw_true rfl rfl rfl (by decide +kernel)) (pi_list (pv 11)) (blkOk_by (own := [("_law_term_here", 10)]) (N := ["_law_state", "_law_widths", "_law_bound", "_law_careful", "_law_names", "_law_relation", "_law_width", "_law_terms", "_law_k", "_law_form", "_law_term_here", "_law_pair", "_law_variable_here"]) (sc := (defScope s_law_literal)) (by decide +kernel)) (fun _ _ _ _ _ => (pg_name (i := 10) sc_law_literal.nd rfl (Or.inl rfl))) (fun _ _ _ _ _ => pts_nil) (fun _ _ _ _ _ => (pe_call G_law_settled (hr.mono (by omega)) (by rfl) T.g_law_settled T.F_law_settled.kp T.b_law_settled .nil pass0 (pa_cons (pv 10) (pa_cons (pv 2) pa_nil)))))) pss_nil)
  (pss_cons (ps_set (i := 12) sc_law_literal.nd rfl (Or.inr rfl) (pe_call G_law_variable (hr.mono (by omega)) (by rfl) T.g_law_variable T.F_law_variable.kp T.b_law_variable .nil pass0 (pa_cons (pv 0) pa_nil)))
  (pss_cons (ps_if (pt_cmpR (r := rEqD K) (op_eqD hu64) (pv 9) pe_str (nomark _)) (pss_one (ps_ret (pe_tup (pa_cons (pv 9) (pa_cons (pe_ix (r := rIxL K) ix_list (pe_lst (pa_cons pe_str (pa_cons pe_str (pa_cons pe_str (pa_cons pe_str (pa_cons pe_str (pa_cons pe_str pa_nil))))))) (pe_call G_law_next (hr.mono (by omega)) (by rfl) T.g_law_next T.F_law_next.kp T.b_law_next .nil pass0 (pa_cons (pv 0) (pa_cons pe_int pa_nil))) (fun _ _ => rfl)) (pa_cons (pe_ix (r := rIxL K) ix_list (pv 11) pe_int (fun _ _ => rfl)) (pa_cons (pe_ix (r := rIxL K) ix_list (pv 11) pe_int (fun _ _ => rfl)) pa_nil))))))) pss_nil)
  (pss_cons (ps_if (pt_cmpR (r := rEqD K) (op_eqD hu64) (pv 9) pe_str (nomark _)) (pss_one (ps_ret (pe_tup (pa_cons (pv 9) (pa_cons (pv 12) (pa_cons (pe_ix (r := rIxL K) ix_list (pe_lst (pa_cons pe_str (pa_cons pe_str (pa_cons pe_str pa_nil)))) (pe_call G_law_next (hr.mono (by omega)) (by rfl) T.g_law_next T.F_law_next.kp T.b_law_next .nil pass0 (pa_cons (pv 0) (pa_cons pe_int pa_nil))) (fun _ _ => rfl)) (pa_cons (pe_ix (r := rIxL K) ix_list (pv 11) pe_int (fun _ _ => rfl)) (pa_cons (pe_ix (r := rIxL K) ix_list (pv 11) pe_int (fun _ _ => rfl)) pa_nil)))))))) pss_nil)
  (pss_cons (ps_if (pt_val (pv 3)) (pss_one (ps_setLc (i := 7) (own := [("_law_term_here", 10)]) rfl sc_law_literal.nd rfl rfl (sw_true rfl rfl rfl (by decide +kernel)) (pi_list (pv 7)) (blkOk_by (own := [("_law_term_here", 10)]) (N := ["_law_state", "_law_widths", "_law_bound", "_law_careful", "_law_names", "_law_relation", "_law_width", "_law_terms", "_law_k", "_law_form", "_law_term_here", "_law_pair", "_law_variable_here"]) (sc := (defScope s_law_literal)) (by decide +kernel)) (fun _ _ _ _ _ => (pg_name (i := 10) sc_law_literal.nd rfl (Or.inl rfl))) (fun _ _ _ _ _ => pts_nil) (fun _ _ _ _ _ => (pe_ix (r := rIxL K) ix_list (pe_lst (pa_cons (pv 10) (pa_cons (pe_tup (pa_cons pe_str pa_nil)) pa_nil))) (pe_callTy (r := rInt1) call_int1 (by rfl) T.n_int (by decide +kernel) (pa_cons (pe_cmpR (r := rEqD K) (op_eqD hu64) (pv 10) (pe_tup (pa_cons pe_str (pa_cons (pv 12) pa_nil))) (nomark _)) pa_nil)) (fun _ _ => rfl))))) pss_nil)
  (pss_one (ps_ret (pe_tup (pa_cons (pv 9) (pa_cons (pv 12) (pa_cons (pv 5) (pa_cons (pe_callTy (r := rTupS K) call_tuple_of (by rfl) T.n_tuple (by decide +kernel) (pa_cons (pv 7) pa_nil)) pa_nil)))))))))))))))))))))), ?_⟩
  rintro ss M Q ⟨p, q, xs, Ws, ks, rfl, hM, hD, hW, oW, hk, qq⟩
  obtain ⟨M0, rfl⟩ : ∃ M0, M = um M0 p (.lst xs) := ⟨M, (um_id hM).symm⟩
  simp only [um_um] at qq
  walk_at "k"
  have hpq : q ≠ p := fun z => by rw [z, hM] at hW; cases hW
  have hW0 : ∀ vs, Ab.um M0 p (.lst vs) q = some (.dK (kvW Ws)) := fun vs => by rw [um_ne hpq]; rw [um_ne hpq] at hW; exact hW
  have lW := oW.l
  have kl := hk.l
  show WS K _ [some (.raw (.ref p)), some (.raw (.ref q)), some (.dat (bnd ks)), some (.bl true), none, none, none, none, none, none, none, none, none] (um M0 p (.lst xs)) _
  refine ws_mid (fun ρ' M' => ∃ ns, ρ' = [some (.raw (.ref p)), some (.raw (.ref q)), some (.dat (bnd ks)), some (.bl true), some (.dat (bnd ns)), none, none, none, none, none, none, none, none] ∧ ns ≠ [] ∧ ns.length < 64 ∧ (∀ z ∈ ns, z ∈ Ws.map (·.1)) ∧ M' = um M0 p (.lst xs)) ?_ ?_
  · refine ws_set (w_sortedLN (w_var rfl ⟨dcv_ref hW, kvW_keys Ws, by rw [List.length_map]; omega, ?_⟩))
    exact ⟨sortT (Ws.map (·.1)), rfl, fun e => oW.n (by have := sortT_len (Ws.map (·.1)); rw [e, List.length_map] at this; exact List.length_eq_zero_iff.mp this.symm), by rw [sortT_len, List.length_map]; omega, fun z hz => sortT_mem.mp hz, rfl⟩
  rintro ρ' M' ⟨ns, rfl, nn, nl, nm, rfl⟩
  have n0 : 0 < ns.length := List.length_pos_iff.mpr nn
  refine ws_mid (fun ρ' M' => ∃ rel ys, ρ' = [some (.raw (.ref p)), some (.raw (.ref q)), some (.dat (bnd ks)), some (.bl true), some (.dat (bnd ns)), some (.str rel), none, none, none, none, none, none, none] ∧ rel ∈ Ws.map (·.1) ∧ DrawL ys ∧ M' = um M0 p (.lst ys)) ?_ ?_
  · walk_at "g"
    refine a_next hD (by omega) (Int.le_trans (b := 64) (by omega) (by decide)) fun v ys h0 h1 hD1 => ?_
    exact w2_ixT1 h0 h1 fun rel hrel => ⟨rel, ys, rfl, nm rel hrel, hD1, rfl⟩
  rintro ρ' M' ⟨rel, ys, rfl, hrel, hD1, rfl⟩
  clear hD
  refine ws_mid (fun ρ' M' => ∃ wd, ρ' = [some (.raw (.ref p)), some (.raw (.ref q)), some (.dat (bnd ks)), some (.bl true), some (.dat (bnd ns)), some (.str rel), some (.int wd), none, none, none, none, none, none] ∧ goodS rel = true ∧ 0 ≤ wd ∧ wd ≤ 100 ∧ valG Ws rel = some wd ∧ M' = um M0 p (.lst ys)) ?_ ?_
  · obtain ⟨wd, hwd⟩ := valG_of hrel
    have g := oW.g _ (valG_mem hwd)
    exact ws_set (w_dget (w_var rfl (w_var rfl ⟨kvW Ws, .inr rel, .int wd, dcv_ref (hW0 _), rfl, kvW_at hwd, wd, rfl, g.1, g.2.1, g.2.2, hwd, rfl⟩)))
  rintro ρ' M' ⟨wd, rfl, hgr, w0, w1, hwd, rfl⟩
  refine ws_mid (fun ρ' M' => ∃ ys, ρ' = [some (.raw (.ref p)), some (.raw (.ref q)), some (.dat (bnd ks)), some (.bl true), some (.dat (bnd ns)), some (.str rel), some (.int wd), none, none, none, none, none, none] ∧ DrawL ys ∧ M' = um M0 p (.lst ys)) ?_ ?_
  · walk_at "g"
    exact ⟨ys, rfl, hD1, rfl⟩
  clear hD1
  rintro ρ' M' ⟨ys, rfl, hD1, rfl⟩
  refine ws_mid (fun ρ' M' => ∃ ys, ρ' = [some (.raw (.ref p)), some (.raw (.ref q)), some (.dat (bnd ks)), some (.bl true), some (.dat (bnd ns)), some (.str rel), some (.int wd), none, none, none, none, none, none] ∧ DrawL ys ∧ M' = um M0 p (.lst ys)) ?_ ?_
  · walk_at "g"
    exact ⟨ys, rfl, hD1, rfl⟩
  clear hD1
  rintro ρ' M' ⟨ys, rfl, hD1, rfl⟩
  refine ws_mid (fun ρ' M' => ∃ ts ys, ρ' = [some (.raw (.ref p)), some (.raw (.ref q)), some (.dat (bnd ks)), some (.bl true), some (.dat (bnd ns)), some (.str rel), some (.int wd), some (.dat (.list (ts.map Term.enc))), none, none, none, none, none] ∧ okTs ts ∧ wd = (ts.length : Int) ∧ DrawL ys ∧ M' = um M0 p (.lst ys)) ?_ ?_
  · refine ws_set (w_lcGen (p := p) (by decide) (fun d => ∃ t : Term, d = t.enc ∧ t.ok) ?_)
    walk_at "g"
    refine ⟨wd, M0, ys, rfl, rfl, hD1, by omega, by omega, fun i M2 us hi hu => ?_, fun ds us hu hl hP => ?_⟩
    · walk_at "g"
      exact a_gen1 hu ⟨ks, rfl, hk⟩ fun d zs hP hD => ⟨d, zs, rfl, rfl, hD, hP⟩
    · obtain ⟨ts, rfl, hts⟩ := list_enc hP
      rw [List.length_map] at hl
      exact ⟨ts, us, rfl, ⟨by omega, hts⟩, by omega, hu, rfl⟩
  clear hD1
  rintro ρ' M' ⟨ts, ys, rfl, hts, hwt, hD1, rfl⟩
  refine ws_mid (fun ρ' M' => ∃ form ys, ρ' = [some (.raw (.ref p)), some (.raw (.ref q)), some (.dat (bnd ks)), some (.bl true), some (.dat (bnd ns)), some (.str rel), some (.int wd), some (.dat (.list (ts.map Term.enc))), none, some (.str form), none, none, none] ∧ (form = ("fact" : Str) ∨ form = ("not" : Str) ∨ form = ("compare" : Str) ∨ form = ("is" : Str) ∨ form = ("count" : Str)) ∧ DrawL ys ∧ M' = um M0 p (.lst ys)) ?_ ?_
  · walk_at "g"
    refine a_next hD1 (by decide) (by decide) fun v ys h0 h1 hD2 => ?_
    walk_at "g"
    intro f hf
    simp only [List.mem_cons, List.not_mem_nil, or_false] at hf
    rcases hf with rfl | rfl | rfl | rfl | rfl | rfl | rfl
    · exact ⟨_, ys, rfl, .inl rfl, hD2, rfl⟩
    · exact ⟨_, ys, rfl, .inl rfl, hD2, rfl⟩
    · exact ⟨_, ys, rfl, .inl rfl, hD2, rfl⟩
    · exact ⟨_, ys, rfl, .inr (.inl rfl), hD2, rfl⟩
    · exact ⟨_, ys, rfl, .inr (.inr (.inl rfl)), hD2, rfl⟩
    · exact ⟨_, ys, rfl, .inr (.inr (.inr (.inl rfl))), hD2, rfl⟩
    · exact ⟨_, ys, rfl, .inr (.inr (.inr (.inr rfl))), hD2, rfl⟩
  clear hD1
  rintro ρ' M' ⟨form, ys, rfl, hf, hD1, rfl⟩
  have gf : goodS form = true := by rcases hf with rfl | rfl | rfl | rfl | rfl <;> decide +kernel
  have any2 : ∀ x : Term, x.ok → ∀ d ∈ [x.enc, Term.any.enc], ∃ t : Term, t.ok ∧ d = t.enc := fun x hx d hd => by
    simp only [List.mem_cons, List.not_mem_nil, or_false] at hd
    rcases hd with rfl | rfl
    · exact ⟨x, hx, rfl⟩
    · exact ⟨.any, trivial, rfl⟩
  refine ws_mid (fun ρ' M' => ∃ ts ys, ρ' = [some (.raw (.ref p)), some (.raw (.ref q)), some (.dat (bnd ks)), some (.bl true), some (.dat (bnd ns)), some (.str rel), some (.int wd), some (.dat (.list (ts.map Term.enc))), none, some (.str form), none, none, none] ∧ okTs ts ∧ wd = (ts.length : Int) ∧ DrawL ys ∧ M' = um M0 p (.lst ys)) ?_ ?_
  · refine ws_if (WT.imp (Q := fun b M' => ∃ ys, DrawL ys ∧ M' = um M0 p (.lst ys)) ?_ fun b M' ⟨ys, hD2, e⟩ => ?_)
    · walk_at "g"
      refine ite_d (fun h => ?_) (fun h => ⟨ys, hD1, rfl⟩)
      walk_at "g"
      exact ⟨ys, hD1, rfl⟩
    · subst e
      cases b with
      | false => exact ws_next ⟨ts, ys, rfl, hts, hwt, hD2, rfl⟩
      | true =>
        refine ws_set (w_termL (ts := ts) (M1 := um M0 p (.lst ys)) (by decide) hts (w_var rfl ⟨rfl, rfl⟩) (fun x D o hx hD => ?_) fun us hus hl => ⟨us, ys, rfl, hus, by rw [hl]; exact hwt, hD2, rfl⟩)
        have hxo := hts.2 x hx
        have a2 := any2 x hxo
        cases x with
        | any =>
          walk_at "g"
          exact fun d hd => (let ⟨t, h1, h2⟩ := a2 d hd; ⟨t, h1, congrArg Sl.dat h2, rfl⟩)
        | value v =>
          have e : (Term.value v).enc = .tuple [.str "value", v.enc] := rfl
          rw [e]
          walk_at "g"
          exact fun d hd => (let ⟨t, h1, h2⟩ := a2 d hd; ⟨t, h1, congrArg Sl.dat h2, rfl⟩)
        | «variable» z =>
          have e : (Term.variable z).enc = .tuple [.str "variable", .str z] := rfl
          rw [e]
          walk_at "g"
          refine w2_notInT (ks := ks) lsv_strs hxo hk.g (by omega) ?_
          walk_at "g"
          exact fun d hd => (let ⟨t, h1, h2⟩ := a2 d hd; ⟨t, h1, congrArg Sl.dat h2, rfl⟩)
  clear hD1 hts hwt
  rintro ρ' M' ⟨ts, ys, rfl, hts, hwt, hD1, rfl⟩
  rw [hwt] at hwd
  have htl := hts.1
  refine ws_mid (fun ρ' M' => ρ' = [some (.raw (.ref p)), some (.raw (.ref q)), some (.dat (bnd ks)), some (.bl true), some (.dat (bnd ns)), some (.str rel), some (.int wd), some (.dat (.list (ts.map Term.enc))), none, some (.str form), none, none, none] ∧ (form = ("compare" : Str) ∨ form = ("is" : Str) ∨ form = ("count" : Str)) ∧ M' = um M0 p (.lst ys)) ?_ ?_
  · have inL : ∀ (M : MH) (Q : Sl → MH → Prop), Q (.bl (decide (form ∈ [("fact" : Str), "not"]))) M → W2 K (rInD K) (.dat (.str form)) (.dat (.list [.str "fact", .str "not"])) M Q := fun M Q q => w2_inT (ks := [("fact" : Str), "not"]) (lsv_strs (ks := [("fact" : Str), "not"])) gf (by decide +kernel) (by decide) q
    walk_at "g"
    refine inL _ _ ⟨_, rfl, ?_⟩
    rcases hf with rfl | rfl | hf
    · rw [if_pos (by decide +kernel)]
      walk_at "g"
      exact qq (.fact rel ts) ys ⟨hgr, hts⟩ hwd hD1
    · rw [if_pos (by decide +kernel)]
      walk_at "g"
      exact qq (.neg rel ts) ys ⟨hgr, hts⟩ hwd hD1
    · rw [if_neg (by rcases hf with rfl | rfl | rfl <;> decide +kernel)]
      exact ws_next ⟨rfl, hf, rfl⟩
  rintro ρ' M' ⟨rfl, hf, rfl⟩
  refine ws_mid (fun ρ' M' => ∃ (t1 t2 : Term) (ys : List Sl), ρ' = [some (.raw (.ref p)), some (.raw (.ref q)), some (.dat (bnd ks)), some (.bl true), some (.dat (bnd ns)), some (.str rel), some (.int wd), some (.dat (.list (ts.map Term.enc))), none, some (.str form), none, some (.dat (.list [t1.enc, t2.enc])), none] ∧ t1.ok ∧ t2.ok ∧ DrawL ys ∧ M' = um M0 p (.lst ys)) ?_ ?_
  · walk_at "g"
    refine a_gen1 hD1 ⟨ks, rfl, hk⟩ fun d zs hP hD2 => ?_
    obtain ⟨t1, rfl, h1⟩ := hP
    walk_at "g"
    refine a_gen1 hD2 ⟨ks, rfl, hk⟩ fun d zs hP hD3 => ?_
    obtain ⟨t2, rfl, h2⟩ := hP
    walk_at "g"
    exact ⟨t1, t2, _, rfl, h1, h2, hD3, rfl⟩
  clear hD1
  rintro ρ' M' ⟨t1, t2, ys, rfl, ht1, ht2, hD1, rfl⟩
  refine ws_mid (fun ρ' M' => ∃ (t1 t2 : Term) (ys : List Sl), ρ' = [some (.raw (.ref p)), some (.raw (.ref q)), some (.dat (bnd ks)), some (.bl true), some (.dat (bnd ns)), some (.str rel), some (.int wd), some (.dat (.list (ts.map Term.enc))), none, some (.str form), none, some (.dat (.list [t1.enc, t2.enc])), none] ∧ (t1.ok ∧ hasK ks t1) ∧ (t2.ok ∧ hasK ks t2) ∧ DrawL ys ∧ M' = um M0 p (.lst ys)) ?_ ?_
  · refine ws_if (WT.imp (Q := fun b M' => b = true ∧ ∃ ys, DrawL ys ∧ M' = um M0 p (.lst ys)) ?_ fun b M' ⟨eb, ys, hD2, e⟩ => ?_)
    · walk_at "g"
      exact ⟨rfl, ys, hD1, rfl⟩
    · subst e eb
      refine ws_set (w_termLP (ts := [t1, t2]) (hasK ks) (M1 := um M0 p (.lst ys)) (by decide) ⟨by simp, fun z hz => ?_⟩ (w_var rfl ⟨rfl, rfl⟩) (fun x D o hx hD => ?_) fun us hus hk2 hl => ?_)
      · simp only [List.mem_cons, List.not_mem_nil, or_false] at hz
        rcases hz with rfl | rfl
        · exact ht1
        · exact ht2
      · walk_at "g"
        refine ⟨ks, x, rfl, ?_, hk, ⟨_, ⟨settled_ok ?_, settled_has⟩, rfl, rfl⟩⟩ <;>
        · simp only [List.mem_cons, List.not_mem_nil, or_false] at hx
          rcases hx with rfl | rfl
          · exact ht1
          · exact ht2
      · match us, hl with
        | [u1, u2], _ => exact ⟨u1, u2, ys, rfl, ⟨hus.2 u1 (by simp), hk2 u1 (by simp)⟩, ⟨hus.2 u2 (by simp), hk2 u2 (by simp)⟩, hD2, rfl⟩
  clear hD1 ht1 ht2
  rintro ρ' M' ⟨t1, t2, ys, rfl, ht1, ht2, hD1, rfl⟩
  refine ws_mid (fun ρ' M' => ∃ x ys, ρ' = [some (.raw (.ref p)), some (.raw (.ref q)), some (.dat (bnd ks)), some (.bl true), some (.dat (bnd ns)), some (.str rel), some (.int wd), some (.dat (.list (ts.map Term.enc))), none, some (.str form), none, some (.dat (.list [t1.enc, t2.enc])), some (.str x)] ∧ goodS x = true ∧ DrawL ys ∧ M' = um M0 p (.lst ys)) ?_ ?_
  · walk_at "g"
    refine a_gen0 hD1 rfl fun d zs hP hD2 => ?_
    obtain ⟨x, rfl, hx⟩ := isName_of hP
    exact ⟨x, _, rfl, hx, hD2, rfl⟩
  clear hD1
  rintro ρ' M' ⟨x, ys, rfl, hx, hD1, rfl⟩
  have two : ∀ d ∈ [t1.enc, t2.enc], ∃ t : Term, (t.ok ∧ hasK ks t) ∧ d = t.enc := fun d hd => by
    simp only [List.mem_cons, List.not_mem_nil, or_false] at hd
    rcases hd with rfl | rfl
    · exact ⟨t1, ht1, rfl⟩
    · exact ⟨t2, ht2, rfl⟩
  rcases hf with rfl | rfl | rfl
  · walk_at "f"
    refine a_next hD1 (by decide) (by decide) fun v ys h0 h1 hD2 => ?_
    walk_at "f"
    intro o ho
    obtain ⟨op, rfl, hop⟩ : ∃ op : Str, o = .str op ∧ op ∈ opsC := by
      simp only [List.mem_cons, List.not_mem_nil, or_false] at ho
      rcases ho with h | h | h | h | h | h <;> exact ⟨_, h, by simp [opsC]⟩
    walk_at "f"
    intro d hd
    obtain ⟨u1, hu1, rfl⟩ := two d hd
    walk_at "f"
    intro d hd
    obtain ⟨u2, hu2, rfl⟩ := two d hd
    walk_at "f"
    exact qq (.compare op u1 u2) ys ⟨hop, hu1.1, hu2.1⟩ ⟨hu1.2, hu2.2⟩ hD2
  · walk_at "f"
    refine a_next hD1 (by decide) (by decide) fun v ys h0 h1 hD2 => ?_
    walk_at "f"
    intro o ho
    obtain ⟨op, rfl, hop⟩ : ∃ op : Str, o = .str op ∧ op ∈ opsI := by
      simp only [List.mem_cons, List.not_mem_nil, or_false] at ho
      rcases ho with h | h | h <;> exact ⟨_, h, by simp [opsI]⟩
    walk_at "f"
    intro d hd
    obtain ⟨u1, hu1, rfl⟩ := two d hd
    walk_at "f"
    intro d hd
    obtain ⟨u2, hu2, rfl⟩ := two d hd
    walk_at "f"
    exact qq (.is x op u1 u2) ys ⟨hx, hop, hu1.1, hu2.1⟩ ⟨hu1.2, hu2.2⟩ hD2
  · refine ws_mid (fun ρ' M' => ρ' = [some (.raw (.ref p)), some (.raw (.ref q)), some (.dat (bnd ks)), some (.bl true), some (.dat (bnd ns)), some (.str rel), some (.int wd), some (.dat (.list (ts.map Term.enc))), none, some (.str "count"), none, some (.dat (.list [t1.enc, t2.enc])), some (.str x)] ∧ M' = um M0 p (.lst ys)) ?_ ?_
    · walk_at "g"
      exact ⟨rfl, rfl⟩
    rintro ρ' M' ⟨rfl, rfl⟩
    refine ws_mid (fun ρ' M' => ρ' = [some (.raw (.ref p)), some (.raw (.ref q)), some (.dat (bnd ks)), some (.bl true), some (.dat (bnd ns)), some (.str rel), some (.int wd), some (.dat (.list (ts.map Term.enc))), none, some (.str "count"), none, some (.dat (.list [t1.enc, t2.enc])), some (.str x)] ∧ M' = um M0 p (.lst ys)) ?_ ?_
    · walk_at "g"
      exact ⟨rfl, rfl⟩
    rintro ρ' M' ⟨rfl, rfl⟩
    refine ws_mid (fun ρ' M' => ∃ ts, ρ' = [some (.raw (.ref p)), some (.raw (.ref q)), some (.dat (bnd ks)), some (.bl true), some (.dat (bnd ns)), some (.str rel), some (.int wd), some (.dat (.list (ts.map Term.enc))), none, some (.str "count"), none, some (.dat (.list [t1.enc, t2.enc])), some (.str x)] ∧ okTs ts ∧ valG Ws rel = some (ts.length : Int) ∧ M' = um M0 p (.lst ys)) ?_ ?_
    · walk_at "g"
      refine w_termL (ts := ts) (M1 := um M0 p (.lst ys)) (by decide) hts (w_var rfl ⟨rfl, rfl⟩) (fun z D o hz hD => ?_) fun us hus hl => ⟨us, rfl, hus, by rw [hl]; exact hwd, rfl⟩
      have a2 := any2 z (hts.2 z hz)
      walk_at "g"
      refine w2_eq (Term.shaped (hts.2 z hz)) (Term.shaped (t := .variable x) hx) ?_
      walk_at "g"
      exact fun d hd => (let ⟨t, h1, h2⟩ := a2 d hd; ⟨t, h1, congrArg Sl.dat h2, rfl⟩)
    clear hts htl hwd hwt
    rintro ρ' M' ⟨ts, rfl, hts, hwd, rfl⟩
    have htl := hts.1
    walk_at "f"
    exact qq (.count x rel ts) ys ⟨hx, hgr, hts⟩ hwd hD1
end
end
section
section
variable {P : Program} {w : World} {K : PySem.W.Frag} {mg : Str → Option Value} {base : Heap} {a : AD} {d : FD}
def A_lbodyC : ASp := fun ss M Q => ∃ p q xs Ws n, ss = [.raw (.ref p), .raw (.ref q), .bl true, .int n] ∧ M p = some (.lst xs) ∧ DrawL xs ∧ M q = some (.dK (kvW Ws)) ∧ okW Ws ∧ 0 ≤ n ∧ n ≤ 60 ∧ ∀ (b : List Lit) ys, okB b → (b.length : Int) ≤ n → bodyK [] b → (∀ l ∈ b, litWd Ws l) → factsN b ≤ 3 → DrawL ys → Q (.dat (encB b)) (Ab.um M p (.lst ys))
theorem ok_lbodyC (T : Txt K mg a d) : FnOk P w K mg base CX0 5 a.law_body d.law_body ["_law_state", "_law_widths", "_law_careful", "_law_most"] (conc K A_lbodyC) := by
  have G_law_next : FnOk P w K mg base CX0 1 a.law_next d.law_next ["_law_state", "_law_limit"] (conc K A_next) := ok_next T
  have G_law_literal : FnOk P w K mg base CX0 4 a.law_literal d.law_literal ["_law_state", "_law_widths", "_law_bound", "_law_careful"] (conc K A_llitC) := ok_llitC T
  have G_law_binds : FnOk P w K mg base CX0 1 a.law_binds d.law_binds ["_law_literal_here"] (conc K A_binds) := ok_binds T
  refine ab_ok T.F_law_body sc_law_body (fun ss M Q ⟨p, q, xs, Ws, n, e, _⟩ => by subst e; rfl) fun cdv Ar outer s H E hr => ?_
  have hu64 := hr.units
  have hu65 := room65 hr
  refine ⟨_, (pss_cons (ps_set (i := 4) sc_law_body.nd rfl (Or.inl rfl) (pe_lst pa_nil))
  (pss_cons (ps_set (i := 5) sc_law_body.nd rfl (Or.inr rfl) (pe_lst pa_nil))
  (pss_cons (ps_set (i := 6) sc_law_body.nd rfl (Or.inl rfl) pe_int)
  (pss_cons (ps_for PassesOwn.never rfl (pi_range1 rfl T.n_range (pa_cons (pe_call G_law_next (hr.mono (by omega)) (by rfl) T.g_law_next T.F_law_next.kp T.b_law_next .nil pass0 (pa_cons (pv 0) (pa_cons (pe_op op_add (pv 3) pe_int) pa_nil))) pa_nil)) (pg_name (i := 7) sc_law_body.nd rfl (Or.inl rfl)) (pss_cons (ps_set (i := 8) sc_law_body.nd rfl (Or.inl rfl) (pe_call G_law_literal (hr.mono (by omega)) (by rfl) T.g_law_literal T.F_law_literal.kp T.b_law_literal .nil pass0 (pa_cons (pv 0) (pa_cons (pv 1) (pa_cons (pv 5) (pa_cons (pv 2) pa_nil))))))
  (pss_one (ps_if (PW.pt (pw_or (pt_cmpR (r := rNeD K) (op_neD hu64) (pe_ix (r := rIxT K) ix_tup (pv 8) pe_int (fun _ _ => rfl)) pe_str (nomark _)) (pw_or1 (pt_cmpR op_lt (pv 6) pe_int (nomark _))))) (pss_cons (ps_expr (pe_bm PySem.F.plainAttrs_list PySem.F.slot_list_append PySem.F.type_list_append mt_append (pv 4) (pa_cons (pv 8) pa_nil)))
  (pss_cons (ps_set (i := 6) sc_law_body.nd rfl (Or.inl rfl) (pe_op op_add (pv 6) (pe_callTy (r := rInt1) call_int1 (by rfl) T.n_int (by decide +kernel) (pa_cons (pe_cmpR (r := rEqD K) (op_eqD hu64) (pe_ix (r := rIxT K) ix_tup (pv 8) pe_int (fun _ _ => rfl)) pe_str (nomark _)) pa_nil))))
  (pss_one (ps_set (i := 5) sc_law_body.nd rfl (Or.inr rfl) (pe_op (r := rCatL K) op_catL (pv 5) (pe_lc (own := [("_law_name", 9)]) rfl sc_law_body.nd (pi_list (pe_call G_law_binds (hr.mono (by omega)) (by rfl) T.g_law_binds T.F_law_binds.kp T.b_law_binds .nil pass0 (pa_cons (pv 8) pa_nil))) (blkOk_by (own := [("_law_name", 9)]) (N := ["_law_state", "_law_widths", "_law_careful", "_law_most", "_law_body_here", "_law_bound", "_law_facts", "_law_k", "_law_literal_here", "_law_name"]) (sc := (defScope s_law_body)) (by decide +kernel)) (fun _ _ _ _ _ => (pg_name (i := 9) sc_law_body.nd rfl (Or.inl rfl))) (fun _ _ _ _ _ => pts_one (pt_cmpR (r := rNotInD K) (op_notInD hu65) (pv 9) (pv 5) (by rfl))) (fun _ _ _ _ _ => (pv 9)))))))) pss_nil))))
  (pss_one (ps_ret (pe_callTy (r := rTupS K) call_tuple_of (by rfl) T.n_tuple (by decide +kernel) (pa_cons (pv 4) pa_nil)))))))), ?_⟩
  rintro ss M Q ⟨p, q, xs, Ws, n, rfl, hM, hD, hW, oW, n0, n1, qq⟩
  obtain ⟨M0, rfl⟩ : ∃ M0, M = um M0 p (.lst xs) := ⟨M, (um_id hM).symm⟩
  simp only [um_um] at qq
  walk_at "k"
  have hpq : q ≠ p := fun z => by rw [z, hM] at hW; cases hW
  show WS K _ [some (.raw (.ref p)), some (.raw (.ref q)), some (.bl true), some (.int n), none, none, none, none, none, none] (um M0 p (.lst xs)) _
  refine ws_seq (ws_set (w_lstM (wa_nil ⟨by decide, fun D hD0 => ?_⟩)))
  have hDp : D ≠ p := fun z => by rw [z, um_same] at hD0; cases hD0
  have hD1 : M0 D = none := by rw [um_ne hDp] at hD0; exact hD0
  have hDq : D ≠ q := fun z => by rw [z, hW] at hD0; cases hD0
  rw [um_comm hDp.symm]
  have hW0 : ∀ u vs, Ab.um (Ab.um M0 D u) p (.lst vs) q = some (.dK (kvW Ws)) := fun u vs => by rw [um_ne hpq, um_ne hDq.symm]; rw [um_ne hpq] at hW; exact hW
  refine ws_seq (ws_set (w_lstD (wa_nil ⟨[], rfl, by simp, ?_⟩)))
  refine ws_seq (ws_set (w_int ?_))
  refine ws_mid (fun ρ' M' => ∃ (b : List Lit) (ys : List Sl) (z5 z6 z7 z8 z9 : Option Sl), ρ' = [some (.raw (.ref p)), some (.raw (.ref q)), some (.bl true), some (.int n), some (.raw (.ref D)), z5, z6, z7, z8, z9] ∧ okB b ∧ (b.length : Int) ≤ n ∧ (bodyK [] b ∧ (∀ l ∈ b, litWd Ws l) ∧ factsN b ≤ 3) ∧ DrawL ys ∧ M' = um (um M0 D (.lst (b.map fun l => .dat (Lit.enc l)))) p (.lst ys)) ?_ ?_
  · refine ws_forRn ?_
    walk_at "f"
    refine ⟨p, n + 1, xs, rfl, um_same, hD, by omega, Int.le_trans (b := 100) (by omega) (by decide), fun v zs v0 v1 hD2 => ?_⟩
    rw [um_um]
    refine wa_nil ⟨v, rfl, Int.le_trans (b := 0) (by decide) v0, Int.lt_trans (b := 100) (by omega) (by decide), fun i ρ' M' => ∃ (b : List Lit) (bs : List Str) (ys : List Sl) (z7 z8 z9 : Option Sl), ρ' = [some (.raw (.ref p)), some (.raw (.ref q)), some (.bl true), some (.int n), some (.raw (.ref D)), some (.dat (bnd bs)), some (.int (factsN b : Int)), z7, z8, z9] ∧ (∀ l ∈ b, l.ok) ∧ b.length ≤ i ∧ (∀ z ∈ bs, goodS z = true) ∧ bs.length ≤ 1000 * i ∧ (bodyK [] b ∧ (∀ z ∈ bs, z ∈ b.flatMap bindsF) ∧ (∀ l ∈ b, litWd Ws l) ∧ factsN b ≤ 3) ∧ DrawL ys ∧ M' = um (um M0 D (.lst (b.map fun l => .dat (Lit.enc l)))) p (.lst ys), ⟨[], [], zs, none, none, none, rfl, fun _ h => (nomatch h), by simp, fun _ h => (nomatch h), by simp, ⟨trivial, fun _ h => (nomatch h), fun _ h => (nomatch h), Nat.zero_le _⟩, hD2, rfl⟩, fun i ρ' M' hi hJ => ?_, fun ρ' M' hJ => ?_⟩
    · obtain ⟨b, bs, ys, z7, z8, z9, rfl, hb, hbl, hg, hbs, ⟨hbK, hbm, hbw, hb3⟩, hD3, rfl⟩ := hJ
      refine wg_name ?_
      refine ws_seq (ws_set ?_)
      walk_at "g"
      refine ⟨p, q, ys, Ws, bs, rfl, um_same, hD3, hW0 _ _, oW, ⟨hg, by omega⟩, fun l us hl hlC hD4 => ?_⟩
      rw [um_um]
      refine ws_if (WT.imp (Q := fun bb M' => (bb = true → factsN (b ++ [l]) ≤ 3) ∧ M' = um (um M0 D (.lst (b.map fun l => .dat (Lit.enc l)))) p (.lst us)) ?_ fun bb M' ⟨hbb, e⟩ => ?_)
      · walk_at "g"
        refine w2_ixHd ?_
        walk_at "g"
        refine w2_neS (goodS_ok l.form_good) (by decide +kernel) ⟨_, rfl, ?_⟩
        have ff := form_fact l
        have fs := factsN_snoc b l
        refine ite_n (fun h => ⟨fun _ => ?_, rfl⟩) (fun h => ?_)
        · rw [decide_eq_false h] at ff
          rw [fs, ← ff]
          simpa using hb3
        · walk_at "g"
          refine ⟨fun h2 => ?_, rfl⟩
          have h3 := of_decide_eq_true h2
          rw [fs]
          split <;> omega
      · subst e
        cases bb with
        | false => exact ws_next ⟨b, bs, us, _, _, _, rfl, hb, by omega, hg, by omega, ⟨hbK, hbm, hbw, hb3⟩, hD4, rfl⟩
        | true =>
          walk_at "f"
          refine w_bm ?_
          walk_at "f"
          have hDl : um (um M0 D (.lst (b.map fun l => .dat (Lit.enc l)))) p (.lst us) D = some (.lst (b.map fun l => .dat (Lit.enc l))) := by rw [um_ne hDp, um_same]
          refine ⟨ty_lst (lsv_ref hDl), ?_⟩
          walk_at "f"
          refine wm_append hDl (by rw [List.length_map]; omega) ?_
          rw [um_comm hDp.symm, um_um]
          walk_at "f"
          refine w2_ixHd ?_
          walk_at "f"
          refine w2_eqS (goodS_ok l.form_good) (by decide +kernel) ?_
          walk_at "f"
          have hbg := bindsF_good hl
          have hb1 := bindsF_len hl
          refine w_lcF (enc := PyData.str) (xs := bindsF l) (M1 := um (um M0 D (.lst ((b ++ [l]).map fun l => .dat (Lit.enc l)))) p (.lst us)) (by decide) ?_ (by omega) (fun z => !decide (z ∈ bs)) PyData.str (fun z D2 o hz hD5 => ?_) (fun z D2 o hz hf hD5 => ?_) ?_
          · walk_at "f"
            exact ⟨l, rfl, hl, rfl, by rw [List.map_append]; rfl⟩
          · walk_at "f"
            refine w2_notInT (ks := bs) lsv_strs (hbg z hz) hg (by omega) ?_
            exact ⟨_, rfl, rfl, rfl⟩
          · walk_at "f"
            exact ⟨rfl, rfl⟩
          · have fl := List.length_filter_le (fun z => !decide (z ∈ bs)) (bindsF l)
            refine w2_cat lsv_dat lsv_dat (by rw [List.length_map, List.length_map]; omega) ?_
            have hl2 : litK (b.flatMap bindsF) l := litK_of hbm hlC
            have ef : (factsN b : Int) + (if isF l then 1 else 0) = (factsN (b ++ [l]) : Int) := by rw [factsN_snoc]; split <;> simp
            refine ⟨b ++ [l], bs ++ (bindsF l).filter fun z => !decide (z ∈ bs), us, _, _, _, by rw [← List.map_append, ← ef, ← form_fact l]; rfl, fun y hy => ?_, by rw [List.length_append]; simp; omega, fun y hy => ?_, by rw [List.length_append]; omega, ⟨bodyK_snoc hbK (by rw [List.nil_append]; exact hl2), fun z hz => ?_, fun y hy => ?_, hbb rfl⟩, hD4, rfl⟩
            · rcases List.mem_append.mp hy with h | h
              · exact hb y h
              · rw [List.mem_singleton.mp h]; exact hl
            · rcases List.mem_append.mp hy with h | h
              · exact hg y h
              · exact hbg y (List.mem_filter.mp h).1
            · rw [List.flatMap_append, List.flatMap_cons, List.flatMap_nil, List.append_nil]
              rcases List.mem_append.mp hz with h | h
              · exact List.mem_append_left _ (hbm z h)
              · exact List.mem_append_right _ (List.mem_filter.mp h).1
            · rcases List.mem_append.mp hy with h | h
              · exact hbw y h
              · rw [List.mem_singleton.mp h]; exact hlC.wd
    · obtain ⟨b, bs, ys, z7, z8, z9, rfl, hb, hbl, hg, hbs, ⟨hbK, hbm, hbw, hb3⟩, hD3, rfl⟩ := hJ
      exact ⟨b, ys, _, _, _, _, _, rfl, ⟨by omega, hb⟩, by omega, ⟨hbK, hbw, hb3⟩, hD3, rfl⟩
  · rintro ρ' M' ⟨b, ys, z5, z6, z7, z8, z9, rfl, hb, hbn, ⟨hbK, hbw, hb3⟩, hD2, rfl⟩
    refine ws_ret (w_dropA D ?_)
    walk_at "f"
    refine wl_tuple (ds := b.map Lit.enc) (lsv_ref (by rw [um_ne hDp, um_same, List.map_map]; rfl)) ?_
    walk_at "f"
    rw [del_umum hD1 hDp.symm]
    exact qq b ys hb hbn hbK hbw hb3 hD2
end
end
section
section
variable {P : Program} {w : World} {K : PySem.W.Frag} {mg : Str → Option Value} {base : Heap} {a : AD} {d : FD}
theorem ok_law_rank (T : Txt K mg a d) : FnOk P w K mg base CX0 1 a.law_rank d.law_rank ["_law_value"] (conc K A_value_key) := by
  refine ab_ok T.F_law_rank sc_law_rank (fun ss M Q ⟨v, e, _⟩ => by subst e; rfl) fun cdv Ar outer s H E hr => ⟨_, (pss_cons (ps_if (pt_val (pe_callB (r := rIsi K) call_isi (by rfl) T.n_isinstance (by decide +kernel) (pa_cons (pv 0) (pa_cons (pe_bltn (v := .ty "str") (u := .type "str") (by rfl) T.n_str (by decide +kernel) rfl) pa_nil)))) (pss_one (ps_ret (pe_tup (pa_cons pe_int (pa_cons (pv 0) pa_nil))))) pss_nil)
  (pss_one (ps_ret (pe_tup (pa_cons pe_int (pa_cons (pv 0) pa_nil)))))), ?_⟩
  rintro ss M Q ⟨v, rfl, q⟩
  walk_at "k"
  show WS K _ [some (.dat v.enc)] M _
  cases v with
  | int n =>
    walk_at "e"
    exact q
  | str z =>
    walk_at "e"
    exact q
theorem ok_law_of (T : Txt K mg a d) : FnOk P w K mg base CX0 1 a.law_of d.law_of ["_law_term_here", "_law_way"] (conc K A_value_of) := by
  refine ab_ok T.F_law_of sc_law_of (fun ss M Q ⟨t, w, b, e, _⟩ => by subst e; rfl) fun cdv Ar outer s H E hr => ?_
  have hu64 := hr.units
  refine ⟨_, (pss_cons (ps_if (pt_cmpR (r := rEqD K) (op_eqD hu64) (pe_ix (r := rIxT K) ix_tup (pv 0) pe_int (fun _ _ => rfl)) pe_str (nomark _)) (pss_one (ps_ret (pe_ix (r := rIxT K) ix_tup (pv 0) pe_int (fun _ _ => rfl)))) pss_nil)
  (pss_one (ps_ret (pe_dget (hu1 hu64) (pv 1) (pe_ix (r := rIxT K) ix_tup (pv 0) pe_int (fun _ _ => rfl)) (fun _ _ => rfl))))), ?_⟩
  rintro ss M Q ⟨t, w, b, rfl, ht, hb, q⟩
  walk_at "k"
  cases t with
  | any => exact ht.elim
  | value v =>
    show WS K _ [some (.dat (.tuple [.str "value", v.enc])), some (.dat (encW w))] M _
    walk_at "f"
    exact q
  | «variable» y =>
    show WS K _ [some (.dat (.tuple [.str "variable", .str y])), some (.dat (encW w))] M _
    obtain ⟨v, hv⟩ := valG_of ht
    walk_at "f"
    refine w_getE (w_var rfl (w_op (w_var rfl (w_int (w2_ixT rfl ⟨_, Val.enc, w, y, v, rfl, rfl, hv, ?_⟩)))))
    have e : valF w (.variable y) = v := by
      show (valG w y).getD (.int 0) = v
      rw [hv]; rfl
    rw [e] at q
    exact q
def A_law_met : ASp := fun ss M Q => ∃ (ts : List Term) (row : List Val) (w : Way) (b : Nat), ss = [.dat (encT ts), .dat (encR row), .dat (encW w)] ∧ (∀ t ∈ ts, termB b t) ∧ ts.length ≤ 1000 ∧ ts.length = row.length ∧ rowB b row ∧ wayB b w ∧ w.length ≤ 100000 ∧ Q (.dat (optW (metF ts row w))) M
theorem ok_law_met (T : Txt K mg a d) : FnOk P w K mg base CX0 2 a.law_met d.law_met ["_law_terms", "_law_row", "_law_way"] (conc K A_law_met) := by
  have G_law_same : FnOk P w K mg base CX0 1 a.law_same d.law_same ["_law_actual", "_law_expected"] (conc K (A_sameEN 1)) := ok_sameEN T 1
  refine ab_ok T.F_law_met sc_law_met (fun ss M Q ⟨ts, row, w, b, e, _⟩ => by subst e; rfl) fun cdv Ar outer s H E hr => ?_
  have hu64 := hr.units
  refine ⟨_, (pss_cons (ps_set (i := 3) sc_law_met.nd rfl (Or.inl rfl) (pe_callTy (r := rDictD) call_dictD (by rfl) T.n_dict (by decide +kernel) (pa_cons (pv 2) pa_nil)))
  (pss_cons (ps_for PassesOwn.never rfl (pi_range1 rfl T.n_range (pa_cons (pe_callB (r := rLenS K) call_len_seq (by rfl) T.n_len PySem.boot_len (pa_cons (pv 0) pa_nil)) pa_nil)) (pg_name (i := 4) sc_law_met.nd rfl (Or.inl rfl)) (pss_cons (ps_if (PW.pt (pw_and (pt_cmpR (r := rEqD K) (op_eqD hu64) (pe_ix (r := rIxT K) ix_tup (pe_ix (r := rIxT K) ix_tup (pv 0) (pv 4) (fun _ _ => rfl)) pe_int (fun _ _ => rfl)) pe_str (nomark _)) (pw_and1 (pt_not (pt_val (pe_call G_law_same (hr.mono (by omega)) (by rfl) T.g_law_same T.F_law_same.kp T.b_law_same .nil pass0 (pa_cons (pe_ix (r := rIxT K) ix_tup (pe_ix (r := rIxT K) ix_tup (pv 0) (pv 4) (fun _ _ => rfl)) pe_int (fun _ _ => rfl)) (pa_cons (pe_ix (r := rIxT K) ix_tup (pv 1) (pv 4) (fun _ _ => rfl)) pa_nil)))))))) (pss_one (ps_ret pe_non)) pss_nil)
  (pss_one (ps_if (pt_cmpR (r := rEqD K) (op_eqD hu64) (pe_ix (r := rIxT K) ix_tup (pe_ix (r := rIxT K) ix_tup (pv 0) (pv 4) (fun _ _ => rfl)) pe_int (fun _ _ => rfl)) pe_str (nomark _)) (pss_cons (ps_if (PW.pt (pw_and (pt_cmp (pc_din (hu1 hu64) (pe_ix (r := rIxT K) ix_tup (pe_ix (r := rIxT K) ix_tup (pv 0) (pv 4) (fun _ _ => rfl)) pe_int (fun _ _ => rfl)) (pv 3))) (pw_and1 (pt_not (pt_val (pe_call G_law_same (hr.mono (by omega)) (by rfl) T.g_law_same T.F_law_same.kp T.b_law_same .nil pass0 (pa_cons (pe_dget (hu1 hu64) (pv 3) (pe_ix (r := rIxT K) ix_tup (pe_ix (r := rIxT K) ix_tup (pv 0) (pv 4) (fun _ _ => rfl)) pe_int (fun _ _ => rfl)) (fun _ _ => rfl)) (pa_cons (pe_ix (r := rIxT K) ix_tup (pv 1) (pv 4) (fun _ _ => rfl)) pa_nil)))))))) (pss_one (ps_ret pe_non)) pss_nil)
  (pss_one (ps_dput (hu1 hu64) (pv 3) (pe_ix (r := rIxT K) ix_tup (pe_ix (r := rIxT K) ix_tup (pv 0) (pv 4) (fun _ _ => rfl)) pe_int (fun _ _ => rfl)) (pe_ix (r := rIxT K) ix_tup (pv 1) (pv 4) (fun _ _ => rfl)) rfl))) pss_nil))))
  (pss_one (ps_ret (pv 3))))), ?_⟩
  rintro ss M Q ⟨ts, row, w, b, rfl, ht, hl, hlen, hr1, hw, hwl, q⟩
  walk_at "k"
  show WS K _ [some (.dat (encT ts)), some (.dat (encR row)), some (.dat (encW w)), none, none] M _
  rw [show metF ts row w = metZ ts row w from if_pos hlen] at q
  refine ws_seq (ws_set (w_cb (wa_cons (w_var rfl (wa_nil (wl_dictE fun p hp => ?_))))))
  refine ws_mid (fun ρ' M' => ∃ w' z4, ρ' = [some (.dat (encT ts)), some (.dat (encR row)), some (.dat (encW w)), some (.raw (.ref p)), z4] ∧ M' = Ab.um M p (.dK (slD Val.enc w')) ∧ metZ ts row w = some w') ?_ ?_
  · refine ws_forRn ?_
    walk_at "f"
    refine ⟨(ts.length : Int), by rw [List.length_map], by omega, by omega, fun i ρ' M' => ∃ w' z4, ρ' = [some (.dat (encT ts)), some (.dat (encR row)), some (.dat (encW w)), some (.raw (.ref p)), z4] ∧ M' = Ab.um M p (.dK (slD Val.enc w')) ∧ metZ ts row w = metZ (ts.drop i) (row.drop i) w' ∧ wayB b w' ∧ w'.length ≤ w.length + i, ⟨w, _, rfl, rfl, rfl, hw, Nat.le_refl _⟩, fun i ρ' M' hi hJ => ?_, fun ρ' M' hJ => ?_⟩
    · obtain ⟨w', z4, rfl, rfl, he, hwb, hw'⟩ := hJ
      have h1 : i < ts.length := by omega
      have h2 : i < row.length := by omega
      have tb := ht ts[i] (List.getElem_mem h1)
      have rb := hr1.2 row[i] (List.getElem_mem h2)
      have a1 : atI (ts.map Term.enc) (i : Int) = some ts[i].enc := atI_nat (by rw [List.getElem?_map, List.getElem?_eq_getElem h1]; rfl)
      have a2 : atI (row.map Val.enc) (i : Int) = some row[i].enc := atI_nat (by rw [List.getElem?_map, List.getElem?_eq_getElem h2]; rfl)
      rw [metZ_step h1 h2] at he
      have mo := @metT_ok b ts[i] row[i] w'
      generalize ts[i] = t at tb he mo a1
      generalize row[i] = v at rb he mo a2
      refine wg_name ?_
      have none_ : metT t v w' = none → Q (.dat .none) M := fun e => by
        rw [he, e] at q
        exact q
      have some_ : ∀ w2, metT t v w' = some w2 → metZ ts row w = metZ (ts.drop (i + 1)) (row.drop (i + 1)) w2 ∧ wayB b w2 ∧ w2.length ≤ w.length + (i + 1) := fun w2 e => by
        obtain ⟨m1, m2⟩ := mo hwb tb rb e
        refine ⟨?_, m1, by omega⟩
        rw [he, e]
        rfl
      have retN : Q (.dat .none) M → ∀ {ρ2 : Rho} {x : MO} {nx bk ct : Rho → MH → Prop}, WS K (tRet (tC .non)) ρ2 (Ab.um M p x) ⟨nx, Q, bk, ct⟩ := fun q0 => fun {ρ2 x nx bk ct} => by
        refine ws_ret (w_dropE (w_non ⟨p, ?_⟩))
        rw [del_um hp]
        exact q0
      cases t with
      | any =>
        have a1 : atI (ts.map Term.enc) (i : Int) = some (.tuple [.str "any"]) := a1
        show WS K _ [some (.dat (encT ts)), some (.dat (encR row)), some (.dat (encW w)), some (.raw (.ref p)), some (.int (i : Int))] _ _
        walk_at "f"
        refine w2_ixT a1 ?_
        walk_at "f"
        refine w2_ixT a1 ?_
        walk_at "f"
        obtain ⟨s1, s2, s3⟩ := some_ w' rfl
        exact ⟨w', _, rfl, rfl, s1, s2, s3⟩
      | value x =>
        have a1 : atI (ts.map Term.enc) (i : Int) = some (.tuple [.str "value", x.enc]) := a1
        show WS K _ [some (.dat (encT ts)), some (.dat (encR row)), some (.dat (encW w)), some (.raw (.ref p)), some (.int (i : Int))] _ _
        walk_at "f"
        refine w2_ixT a1 ?_
        walk_at "f"
        refine w2_ixT a1 ?_
        walk_at "f"
        refine w2_ixT a2 ?_
        walk_at "f"
        refine ⟨x.enc, v.enc, rfl, okV tb, okV rb, tpd_val _, tpd_val _, ?_⟩
        refine ⟨_, rfl, ?_⟩
        rw [eqv_V]
        by_cases c : x = v
        · rw [if_neg (by simp [c])]
          walk_at "f"
          refine w2_ixT a1 ?_
          walk_at "f"
          obtain ⟨s1, s2, s3⟩ := some_ w' (if_pos c)
          exact ⟨w', _, rfl, rfl, s1, s2, s3⟩
        · rw [if_pos (by simp [c])]
          exact retN (none_ (if_neg c))
      | «variable» y =>
        have a1 : atI (ts.map Term.enc) (i : Int) = some (.tuple [.str "variable", .str y]) := a1
        show WS K _ [some (.dat (encT ts)), some (.dat (encR row)), some (.dat (encW w)), some (.raw (.ref p)), some (.int (i : Int))] _ _
        have put : ∀ {bk ct : Rho → MH → Prop}, metT (.variable y) v w' = some (putG w' y v) → WS K (sDPut (tVar 3) (tOp (rIxT K) (tOp (rIxT K) (tVar 0) (tVar 4)) (tC (.int 1))) (tOp (rIxT K) (tVar 1) (tVar 4))) [some (.dat (encT ts)), some (.dat (encR row)), some (.dat (encW w)), some (.raw (.ref p)), some (.int (i : Int))] (Ab.um M p (.dK (slD Val.enc w'))) ⟨fun ρ' M' => ∃ w' z4, ρ' = [some (.dat (encT ts)), some (.dat (encR row)), some (.dat (encW w)), some (.raw (.ref p)), z4] ∧ M' = Ab.um M p (.dK (slD Val.enc w')) ∧ metZ ts row w = metZ (ts.drop (i + 1)) (row.drop (i + 1)) w' ∧ wayB b w' ∧ w'.length ≤ w.length + (i + 1), Q, bk, ct⟩ := fun {bk ct} e => by
          refine ws_dput ?_
          walk_at "f"
          refine w2_ixT a2 ?_
          walk_at "f"
          refine w2_ixT a1 ?_
          walk_at "f"
          refine ⟨p, slD Val.enc w', .inr y, rfl, rfl, um_same, by rw [List.length_map]; omega, ?_⟩
          rw [um_um, slD_put]
          obtain ⟨s1, s2, s3⟩ := some_ _ e
          exact ⟨_, _, rfl, rfl, s1, s2, s3⟩
        walk_at "f"
        refine w2_ixT a1 ?_
        walk_at "f"
        refine w2_ixT a1 ?_
        walk_at "f"
        have hd : DcV (KX.pure K).K (.raw (.ref p)) (Ab.um M p (.dK (slD Val.enc w'))) (slD Val.enc w') := dcv_ref um_same
        refine w_din ?_
        walk_at "f"
        refine w2_ixT a1 ?_
        walk_at "f"
        refine ⟨_, .inr y, hd, rfl, ?_⟩
        cases e : valG w' y with
        | none =>
          rw [slD_val, e]
          refine ⟨false, rfl, ?_⟩
          rw [if_neg (by decide)]
          walk_at "f"
          refine put ?_
          show (match valG w' y with | some u => if u = v then some (putG w' y v) else none | none => some (putG w' y v)) = _
          rw [e]
        | some u =>
          have hu := (hwb.g _ (valG_mem e)).2
          have ev : valG (slD Val.enc w') (.inr y) = some (.dat u.enc) := by rw [slD_val, e]; rfl
          rw [ev]
          refine ⟨true, rfl, ?_⟩
          rw [if_pos rfl]
          walk_at "f"
          refine w_dget ?_
          walk_at "f"
          refine w2_ixT a1 ?_
          walk_at "f"
          refine ⟨_, .inr y, _, hd, rfl, ev, ?_⟩
          walk_at "f"
          refine w2_ixT a2 ?_
          walk_at "f"
          refine ⟨u.enc, v.enc, rfl, okV hu, okV rb, tpd_val _, tpd_val _, ?_⟩
          refine ⟨_, rfl, ?_⟩
          rw [eqv_V]
          by_cases c : u = v
          · rw [if_neg (by simp [c])]
            refine ws_next (put ?_)
            show (match valG w' y with | some u => if u = v then some (putG w' y v) else none | none => some (putG w' y v)) = _
            rw [e]
            exact if_pos c
          · rw [if_pos (by simp [c])]
            refine retN (none_ ?_)
            show (match valG w' y with | some u => if u = v then some (putG w' y v) else none | none => some (putG w' y v)) = _
            rw [e]
            exact if_neg c
    · obtain ⟨w', z4, rfl, rfl, he, hwb, hw'⟩ := hJ
      rw [show ((ts.length : Int)).toNat = ts.length by omega, List.drop_length, hlen, List.drop_length] at he
      exact ⟨w', _, rfl, rfl, he⟩
  · rintro ρ' M' ⟨w', z4, rfl, rfl, he⟩
    rw [he] at q
    refine ws_ret (w_frzE (w_var rfl ⟨p, w', rfl, um_same, ?_⟩))
    rw [del_um hp]
    exact q
end
end
section
section
variable {P : Program} {w : World} {K : PySem.W.Frag} {mg : Str → Option Value} {base : Heap} {a : AD} {d : FD}
theorem ok_law_compared (T : Txt K mg a d) : FnOk P w K mg base CX0 2 a.law_compared d.law_compared ["_law_operator", "_law_first", "_law_second"] (conc K A_compares) := by
  have G_law_rank : FnOk P w K mg base CX0 1 a.law_rank d.law_rank ["_law_value"] (conc K A_value_key) := ok_law_rank T
  refine ab_ok T.F_law_compared sc_law_compared (fun ss M Q ⟨op, v, u, b, e, _⟩ => by subst e; rfl) fun cdv Ar outer s H E hr => ?_
  have hu64 := hr.units
  refine ⟨_, (pss_cons (ps_par (i := 3) (j := 4) (by rfl) sc_law_compared.nd rfl rfl (by decide) rfl rfl (pa_cons (pe_call G_law_rank (hr.mono (by omega)) (by rfl) T.g_law_rank T.F_law_rank.kp T.b_law_rank .nil pass0 (pa_cons (pv 1) pa_nil)) (pa_cons (pe_call G_law_rank (hr.mono (by omega)) (by rfl) T.g_law_rank T.F_law_rank.kp T.b_law_rank .nil pass0 (pa_cons (pv 2) pa_nil)) pa_nil)) (by rfl))
  (pss_cons (ps_set (i := 5) sc_law_compared.nd rfl (Or.inl rfl) (pe_disp (pps_cons pe_str (pe_cmpR (r := rEqD K) (op_eqD hu64) (pv 3) (pv 4) (nomark _)) (pps_cons pe_str (pe_cmpR (r := rNeD K) (op_neD hu64) (pv 3) (pv 4) (nomark _)) (pps_cons pe_str (pe_cmpR (r := rCmp .Lt K) (op_ltD hu64) (pv 3) (pv 4) (nomark _)) (pps_cons pe_str (pe_cmpR (r := rCmp .LtE K) (op_leD hu64) (pv 3) (pv 4) (nomark _)) pps_nil)))) (by rfl) (by rfl) (fun z => by cases z) (by decide)))
  (pss_cons (ps_expr (pe_bm PySem.F.plainAttrs_dict PySem.F.slot_dict_update PySem.F.type_dict_update (r := rUpdate) mt_update (pv 5) (pa_cons (pe_disp (pps_cons pe_str (pe_cmpR (r := rCmp .Lt K) (op_ltD hu64) (pv 4) (pv 3) (nomark _)) (pps_cons pe_str (pe_cmpR (r := rCmp .LtE K) (op_leD hu64) (pv 4) (pv 3) (nomark _)) pps_nil)) (by rfl) (by rfl) (fun z => by cases z) (by decide)) pa_nil)))
  (pss_one (ps_ret (pe_dget (hu1 hu64) (pv 5) (pv 0) (fun _ _ => rfl))))))), ?_⟩
  rintro ss M Q ⟨op, v, u, b, rfl, ho, hv, hu, q⟩
  walk_at "k"
  have sv := shapedK hv
  have su := shapedK hu
  show WS K _ [some (.str op), some (.dat v.enc), some (.dat u.enc), none, none, none] M _
  refine ws_seq (ws_par (wa_cons (w_call (wa_cons (w_var rfl (wa_nil ⟨v, rfl, ?_⟩))))))
  refine wa_cons (w_call (wa_cons (w_var rfl (wa_nil ⟨u, rfl, wa_nil ⟨_, _, rfl, ?_⟩⟩))))
  show WS K _ [some (.str op), some (.dat v.enc), some (.dat u.enc), some (.dat (vkey v)), some (.dat (vkey u)), none] M _
  refine ws_seq (ws_set (w_disp fun g hg => wps_cons (w_str (w_op (w_var rfl (w_var rfl (w2_eq sv su ?_)))))))
  refine wps_cons (w_str (w_op (w_var rfl (w_var rfl (w2_ne sv su ?_)))))
  refine wps_cons (w_str (w_op (w_var rfl (w_var rfl (w2_cmp (ok_vkey v u) sv su ?_)))))
  refine wps_cons (w_str (w_op (w_var rfl (w_var rfl (w2_cmp (ok_vkey v u) sv su ?_)))))
  rw [eqv_vkey, lt_vkey, le_vkey]
  refine wps_nil ⟨um_same, [(.inr "=", .bl (decide (v = u))), (.inr "<>", .bl (!decide (v = u))), (.inr "<", .bl (vLt v u)), (.inr "<=", .bl (!vLt u v))], rfl, by simp, ?_⟩
  rw [um_um]
  show WS K _ [some (.str op), some (.dat v.enc), some (.dat u.enc), some (.dat (vkey v)), some (.dat (vkey u)), some (.raw (.ref g))] _ _
  refine ws_seq (ws_drop (w_bm (w_var rfl ⟨ty_dct um_same, wa_cons (w_disp fun g2 hg2 => ?_)⟩)))
  have gg : g2 ≠ g := fun e => by rw [e, um_same] at hg2; cases hg2
  rw [um_ne gg] at hg2
  refine wps_cons (w_str (w_op (w_var rfl (w_var rfl (w2_cmp (ok_vkey u v) su sv ?_)))))
  refine wps_cons (w_str (w_op (w_var rfl (w_var rfl (w2_cmp (ok_vkey u v) su sv ?_)))))
  rw [lt_vkey, le_vkey]
  refine wps_nil ⟨um_same, [(.inr ">", .bl (vLt u v)), (.inr ">=", .bl (!vLt v u))], rfl, by simp, ?_⟩
  rw [um_um]
  have em : mergeG [] [((.inr "=" : Key), Sl.bl (decide (v = u))), (.inr "<>", .bl (!decide (v = u))), (.inr "<", .bl (vLt v u)), (.inr "<=", .bl (!vLt u v))] = [((.inr "=" : Key), Sl.bl (decide (v = u))), (.inr "<>", .bl (!decide (v = u))), (.inr "<", .bl (vLt v u)), (.inr "<=", .bl (!vLt u v))] := by kernel_rfl
  have em2 : mergeG [] [((.inr ">" : Key), Sl.bl (vLt u v)), (.inr ">=", .bl (!vLt v u))] = [((.inr ">" : Key), Sl.bl (vLt u v)), (.inr ">=", .bl (!vLt v u))] := by kernel_rfl
  rw [em, em2]
  refine wa_nil (wm_updateM (by rw [um_ne gg.symm]; exact um_same) um_same gg (by simp) ?_)
  rw [um_comm gg.symm, um_um]
  have em3 : mergeG [((.inr "=" : Key), Sl.bl (decide (v = u))), (.inr "<>", .bl (!decide (v = u))), (.inr "<", .bl (vLt v u)), (.inr "<=", .bl (!vLt u v))] [((.inr ">" : Key), Sl.bl (vLt u v)), (.inr ">=", .bl (!vLt v u))] = [((.inr "=" : Key), Sl.bl (decide (v = u))), (.inr "<>", .bl (!decide (v = u))), (.inr "<", .bl (vLt v u)), (.inr "<=", .bl (!vLt u v)), (.inr ">", .bl (vLt u v)), (.inr ">=", .bl (!vLt v u))] := by kernel_rfl
  rw [em3]
  have fin : ∀ x, valG [((.inr "=" : Key), Sl.bl (decide (v = u))), (.inr "<>", .bl (!decide (v = u))), (.inr "<", .bl (vLt v u)), (.inr "<=", .bl (!vLt u v)), (.inr ">", .bl (vLt u v)), (.inr ">=", .bl (!vLt v u))] (.inr op) = some (.bl x) → Q (.bl x) M → WS K (tRet (tDGet (tVar 5) (tVar 0))) [some (.str op), some (.dat v.enc), some (.dat u.enc), some (.dat (vkey v)), some (.dat (vkey u)), some (.raw (.ref g))] (Ab.um (Ab.um M g2 (.dK [((.inr ">" : Key), Sl.bl (vLt u v)), (.inr ">=", .bl (!vLt v u))])) g (.dK [((.inr "=" : Key), Sl.bl (decide (v = u))), (.inr "<>", .bl (!decide (v = u))), (.inr "<", .bl (vLt v u)), (.inr "<=", .bl (!vLt u v)), (.inr ">", .bl (vLt u v)), (.inr ">=", .bl (!vLt v u))])) ⟨fun _ M' => Q .non M', Q, NoR, NoR⟩ := fun x hx q => by
    refine ws_ret (w_dropE (w_dropE (w_dget (w_var rfl (w_var rfl ⟨_, .inr op, .bl x, dcv_ref um_same, rfl, hx, ⟨g, g2, ?_⟩⟩)))))
    rw [del_um (by rw [um_ne gg.symm]; exact hg), del_um hg2]
    exact q
  simp only [opsC, List.mem_cons, List.not_mem_nil, or_false] at ho
  rcases ho with rfl | rfl | rfl | rfl | rfl | rfl
  · exact fin _ (by kernel_rfl) q
  · exact fin _ (by kernel_rfl) q
  · exact fin _ (by kernel_rfl) q
  · exact fin _ (by kernel_rfl) q
  · exact fin _ (by kernel_rfl) q
  · exact fin _ (by kernel_rfl) q
end
end
section
section
variable {P : Program} {w : World} {K : PySem.W.Frag} {mg : Str → Option Value} {base : Heap} {a : AD} {d : FD}
def A_goes : ASp := fun ss M Q => ∃ (l : Lit) (lw : List (Str × Rows)) (w : Way) (b : Nat), ss = [.dat l.enc, .dat (encD encRs lw), .dat (encW w)] ∧ rowsB b (rowsW lw) ∧ litW b w l ∧ lkL [] lw l ∧ (∀ r ts, l ≠ .fact r ts) ∧ wayB b w ∧ w.length ≤ 10000 ∧ 20 ≤ b ∧ b ≤ 200000 ∧ Q (.dat (.list ((testF (rowsW lw) w l).toList.map encW))) M
theorem ok_law_goes_on (T : Txt K mg a d) : FnOk P w K mg base CX0 3 a.law_goes_on d.law_goes_on ["_law_literal_here", "_law_lookups", "_law_way"] (conc K A_goes) := by
  have G_law_same : FnOk P w K mg base CX0 1 a.law_same d.law_same ["_law_actual", "_law_expected"] (conc K (A_sameEN 1)) := ok_sameEN T 1
  have G_law_of : FnOk P w K mg base CX0 1 a.law_of d.law_of ["_law_term_here", "_law_way"] (conc K A_value_of) := ok_law_of T
  have G_law_compared : FnOk P w K mg base CX0 2 a.law_compared d.law_compared ["_law_operator", "_law_first", "_law_second"] (conc K A_compares) := ok_law_compared T
  have G_law_met : FnOk P w K mg base CX0 2 a.law_met d.law_met ["_law_terms", "_law_row", "_law_way"] (conc K A_law_met) := ok_law_met T
  refine ab_ok T.F_law_goes_on sc_law_goes_on (fun ss M Q ⟨l, lw, w, b, e, _⟩ => by subst e; rfl) fun cdv Ar outer s H E hr => ?_
  have hu64 := hr.units
  refine ⟨_, (pss_cons (ps_set (i := 3) sc_law_goes_on.nd rfl (Or.inl rfl) (pe_ix (r := rIxT K) ix_tup (pv 0) pe_int (fun _ _ => rfl)))
  (pss_cons (ps_if (pt_cmpR (r := rEqD K) (op_eqD hu64) (pv 3) pe_str (nomark _)) (pss_one (ps_ret (pe_op op_repL (pe_lst (pa_cons (pv 2) pa_nil)) (pe_callTy (r := rInt1) call_int1 (by rfl) T.n_int (by decide +kernel) (pa_cons (pe_call G_law_compared (hr.mono (by omega)) (by rfl) T.g_law_compared T.F_law_compared.kp T.b_law_compared .nil pass0 (pa_cons (pe_ix (r := rIxT K) ix_tup (pv 0) pe_int (fun _ _ => rfl)) (pa_cons (pe_call G_law_of (hr.mono (by omega)) (by rfl) T.g_law_of T.F_law_of.kp T.b_law_of .nil pass0 (pa_cons (pe_ix (r := rIxT K) ix_tup (pv 0) pe_int (fun _ _ => rfl)) (pa_cons (pv 2) pa_nil))) (pa_cons (pe_call G_law_of (hr.mono (by omega)) (by rfl) T.g_law_of T.F_law_of.kp T.b_law_of .nil pass0 (pa_cons (pe_ix (r := rIxT K) ix_tup (pv 0) pe_int (fun _ _ => rfl)) (pa_cons (pv 2) pa_nil))) pa_nil)))) pa_nil))))) pss_nil)
  (pss_cons (ps_if (pt_cmpR (r := rEqD K) (op_eqD hu64) (pv 3) pe_str (nomark _)) (pss_one (ps_ret (pe_op op_repL (pe_lst (pa_cons (pv 2) pa_nil)) (pe_callTy (r := rInt1) call_int1 (by rfl) T.n_int (by decide +kernel) (pa_cons (pe_cmpR (r := rEqD K) (op_eqD hu64) (pe_lc (own := [("_law_row", 4)]) rfl sc_law_goes_on.nd (pi_list (pe_dget (hu1 hu64) (pv 1) (pe_ix (r := rIxT K) ix_tup (pv 0) pe_int (fun _ _ => rfl)) (fun _ _ => rfl))) (blkOk_by (own := [("_law_row", 4)]) (N := ["_law_literal_here", "_law_lookups", "_law_way", "_law_form", "_law_row", "_law_first", "_law_second", "_law_result", "_law_more"]) (sc := (defScope s_law_goes_on)) (by decide +kernel)) (fun _ _ _ _ _ => (pg_name (i := 4) sc_law_goes_on.nd rfl (Or.inl rfl))) (fun _ _ _ _ _ => pts_one (pt_cmpR op_notN (pe_call G_law_met (hr.mono (by omega)) (by rfl) T.g_law_met T.F_law_met.kp T.b_law_met .nil pass0 (pa_cons (pe_ix (r := rIxT K) ix_tup (pv 0) pe_int (fun _ _ => rfl)) (pa_cons (pv 4) (pa_cons (pv 2) pa_nil)))) pe_non (nomark _))) (fun _ _ _ _ _ => (pv 4))) (pe_lst pa_nil) (nomark _)) pa_nil))))) pss_nil)
  (pss_cons (ps_if (pt_cmpR (r := rEqD K) (op_eqD hu64) (pv 3) pe_str (nomark _)) (pss_cons (ps_par (i := 5) (j := 6) (by rfl) sc_law_goes_on.nd rfl rfl (by decide) rfl rfl (pa_cons (pe_call G_law_of (hr.mono (by omega)) (by rfl) T.g_law_of T.F_law_of.kp T.b_law_of .nil pass0 (pa_cons (pe_ix (r := rIxT K) ix_tup (pv 0) pe_int (fun _ _ => rfl)) (pa_cons (pv 2) pa_nil))) (pa_cons (pe_call G_law_of (hr.mono (by omega)) (by rfl) T.g_law_of T.F_law_of.kp T.b_law_of .nil pass0 (pa_cons (pe_ix (r := rIxT K) ix_tup (pv 0) pe_int (fun _ _ => rfl)) (pa_cons (pv 2) pa_nil))) pa_nil)) (by rfl))
  (pss_cons (ps_if (PW.pt (pw_or (pt_val (pe_callB (r := rIsi K) call_isi (by rfl) T.n_isinstance (by decide +kernel) (pa_cons (pv 5) (pa_cons (pe_bltn (v := .ty "str") (u := .type "str") (by rfl) T.n_str (by decide +kernel) rfl) pa_nil)))) (pw_or1 (pt_val (pe_callB (r := rIsi K) call_isi (by rfl) T.n_isinstance (by decide +kernel) (pa_cons (pv 6) (pa_cons (pe_bltn (v := .ty "str") (u := .type "str") (by rfl) T.n_str (by decide +kernel) rfl) pa_nil))))))) (pss_one (ps_ret (pe_lst pa_nil))) pss_nil)
  (pss_one (ps_set (i := 7) sc_law_goes_on.nd rfl (Or.inl rfl) (pe_dget (hu1 hu64) (pe_disp (pps_cons pe_str (pe_op op_add (pv 5) (pv 6)) (pps_cons pe_str (pe_op op_sub (pv 5) (pv 6)) (pps_cons pe_str (pe_op op_mulW (pv 5) (pv 6)) pps_nil))) (by rfl) (by rfl) (fun z => by cases z) (by decide)) (pe_ix (r := rIxT K) ix_tup (pv 0) pe_int (fun _ _ => rfl)) (fun _ _ => rfl)))))) (pss_one (ps_set (i := 7) sc_law_goes_on.nd rfl (Or.inl rfl) (pe_callB (r := rLenS K) call_len_seq (by rfl) T.n_len PySem.boot_len (pa_cons (pe_lc (own := [("_law_row", 4)]) rfl sc_law_goes_on.nd (pi_list (pe_dget (hu1 hu64) (pv 1) (pe_ix (r := rIxT K) ix_tup (pv 0) pe_int (fun _ _ => rfl)) (fun _ _ => rfl))) (blkOk_by (own := [("_law_row", 4)]) (N := ["_law_literal_here", "_law_lookups", "_law_way", "_law_form", "_law_row", "_law_first", "_law_second", "_law_result", "_law_more"]) (sc := (defScope s_law_goes_on)) (by decide +kernel)) (fun _ _ _ _ _ => (pg_name (i := 4) sc_law_goes_on.nd rfl (Or.inl rfl))) (fun _ _ _ _ _ => pts_one (pt_cmpR op_notN (pe_call G_law_met (hr.mono (by omega)) (by rfl) T.g_law_met T.F_law_met.kp T.b_law_met .nil pass0 (pa_cons (pe_ix (r := rIxT K) ix_tup (pv 0) pe_int (fun _ _ => rfl)) (pa_cons (pv 4) (pa_cons (pv 2) pa_nil)))) pe_non (nomark _))) (fun _ _ _ _ _ => (pv 4))) pa_nil)))))
  (pss_cons (ps_if (PW.pt (pw_and (pt_cmp (pc_din (hu1 hu64) (pe_ix (r := rIxT K) ix_tup (pv 0) pe_int (fun _ _ => rfl)) (pv 2))) (pw_and1 (pt_not (pt_val (pe_call G_law_same (hr.mono (by omega)) (by rfl) T.g_law_same T.F_law_same.kp T.b_law_same .nil pass0 (pa_cons (pe_dget (hu1 hu64) (pv 2) (pe_ix (r := rIxT K) ix_tup (pv 0) pe_int (fun _ _ => rfl)) (fun _ _ => rfl)) (pa_cons (pv 7) pa_nil)))))))) (pss_one (ps_ret (pe_lst pa_nil))) pss_nil)
  (pss_cons (ps_set (i := 8) sc_law_goes_on.nd rfl (Or.inl rfl) (pe_callTy (r := rDictD) call_dictD (by rfl) T.n_dict (by decide +kernel) (pa_cons (pv 2) pa_nil)))
  (pss_cons (ps_dput (hu1 hu64) (pv 8) (pe_ix (r := rIxT K) ix_tup (pv 0) pe_int (fun _ _ => rfl)) (pv 7) rfl)
  (pss_one (ps_ret (pe_lst (pa_cons (pv 8) pa_nil))))))))))), ?_⟩
  rintro ss M Q ⟨l, lw, w, b, rfl, hB, hl, hk, hnf, hw, wl, b0, b1, q⟩
  walk_at "k"
  have wl2 : w.length ≤ 100000 := by omega
  have rep1 : ∀ {Q : Sl → MH → Prop} (c : Bool), Q (.dat (.list ((if c = true then some w else none).toList.map encW))) M → W2 K rRepL (.dat (.list [encW w])) (.int (if c then 1 else 0)) M Q := fun {Q} c h => by
    refine w2_rep (ds := [encW w]) lsr_dat (by split <;> decide) (by split <;> decide) (by cases c <;> simp) ?_
    cases c with
    | true => exact h
    | false => exact h
  have shp : ∀ {rs : Rows} {z : Str}, valG lw z = some rs → rs.length ≤ 1000000 ∧ ∀ r ∈ rs, rowB b r := fun {rs z} h => by
    have h1 := hB.l z
    have h2 := hB.g z
    rw [rowsW_at h] at h1 h2
    exact ⟨h1, h2⟩
  rcases (show (∃ r ts, l = .neg r ts) ∨ (∃ op s t, l = .compare op s t) ∨ ∃ ds f x, l.enc = .tuple ds ∧ atI ds 0 = some (.str f) ∧ atI ds 1 = some (.str x) ∧ f ≠ "compare" ∧ f ≠ "not" ∧ PyData.strOk f = true ∧ goodS x = true ∧ (∀ r ts, l ≠ .neg r ts) ∧ ∀ op s t, l ≠ .compare op s t from by
    cases l with
    | fact r ts => exact absurd rfl (hnf r ts)
    | neg r ts => exact .inl ⟨r, ts, rfl⟩
    | compare op s t => exact .inr (.inl ⟨op, s, t, rfl⟩)
    | is x op s t => exact .inr (.inr ⟨_, "is", x, rfl, rfl, rfl, by decide +kernel, by decide +kernel, by decide +kernel, hl.1, fun _ _ z => (nomatch z), fun _ _ _ z => (nomatch z)⟩)
    | count x r ts => exact .inr (.inr ⟨_, "count", x, rfl, rfl, rfl, by decide +kernel, by decide +kernel, by decide +kernel, hl.1, fun _ _ z => (nomatch z), fun _ _ _ z => (nomatch z)⟩)) with ⟨r, ts, rfl⟩ | ⟨op, s, t, rfl⟩ | ⟨ds, f, x, hds, a0, a1, f1, f2, fo, gx, n1, n2⟩
  · show WS K _ [some (.dat (.tuple [.str "not", .str r, encT ts])), some (.dat (encD encRs lw)), some (.dat (encW w)), none, none, none, none, none, none] M _
    obtain ⟨rs, hrs, hrl⟩ := hk
    obtain ⟨rl, rb⟩ := shp hrs
    walk_at "f"
    refine w_lcF (xs := rs) (enc := encR) (M1 := M) (by decide) (w_getE (w_var rfl (w_op (w_var rfl (w_int (w2_ixT rfl ⟨_, encRs, lw, r, rs, rfl, rfl, hrs, ⟨rfl, rfl⟩⟩)))))) rl (fun row => (metF ts row w).isSome) encR (fun row D o hx hD => ?_) (fun row D o hx hf hD => w_var rfl ⟨rfl, rfl⟩) ?_
    · walk_at "f"
      refine ⟨ts, row, w, b, rfl, hl.2.1, hl.2.2, (hrl row hx).symm, rb row hx, hw, wl2, ?_⟩
      cases metF ts row w with
      | none => walk_at "f"; exact ⟨rfl, rfl⟩
      | some w' => refine w_non ?_; refine w2_notN ?_; exact ⟨_, rfl, rfl, rfl⟩
    · walk_at "f"
      have kl := List.length_filter_le (fun row => (metF ts row w).isSome) rs
      refine w2_eq (okD_shaped (n := 2) (okD_mkL (by rw [List.length_map]; omega) (okAll_of fun d hd => ?_)) (by decide)) (okD_shaped (n := 1) rfl (by decide)) ?_
      · obtain ⟨row, hr2, rfl⟩ := List.mem_map.mp hd
        exact okRw (rb row (List.mem_filter.mp hr2).1)
      rw [eqv_nil]
      walk_at "f"
      refine rep1 _ ?_
      have q' : Q (.dat (.list ((if 0 < countF ts (rowsW lw r) w then none else some w).toList.map encW))) M := q
      rw [rowsW_at hrs] at q'
      unfold countF at q'
      cases hf : rs.filter (fun row => (metF ts row w).isSome) with
      | nil => rw [hf] at q'; exact q'
      | cons y ys => rw [hf] at q'; exact q'
  · show WS K _ [some (.dat (.tuple [.str "compare", .str op, s.enc, t.enc])), some (.dat (encD encRs lw)), some (.dat (encW w)), none, none, none, none, none, none] M _
    obtain ⟨ho, hs, ht, bs, bt⟩ := hl
    walk_at "f"
    refine ⟨s, w, b, rfl, hs, bs, ?_⟩
    walk_at "f"
    refine ⟨t, w, b, rfl, ht, bt, ?_⟩
    walk_at "f"
    refine ⟨op, _, _, b, rfl, ho, valF_vb hw bs hs, valF_vb hw bt ht, ?_⟩
    walk_at "f"
    exact rep1 _ q
  · rw [hds]
    show WS K _ [some (.dat (.tuple ds)), some (.dat (encD encRs lw)), some (.dat (encW w)), none, none, none, none, none, none] M _
    refine ws_seq (ws_set (w_op (w_var rfl (w_int (w2_ixT a0 ?_)))))
    show WS K _ [some (.dat (.tuple ds)), some (.dat (encD encRs lw)), some (.dat (encW w)), some (.str f), none, none, none, none, none] M _
    refine ws_seq (ws_if (wt_test (w_op (w_var rfl (w_str (w2_eqS fo (by decide +kernel) ⟨_, rfl, ?_⟩))))))
    rw [if_neg (by simp [f1])]
    refine ws_next (ws_seq (ws_if (wt_test (w_op (w_var rfl (w_str (w2_eqS fo (by decide +kernel) ⟨_, rfl, ?_⟩)))))))
    rw [if_neg (by simp [f2])]
    refine ws_next ?_
    refine ws_mid (fun ρ' M' => ∃ z4 z5 z6 i, ρ' = [some (.dat (.tuple ds)), some (.dat (encD encRs lw)), some (.dat (encW w)), some (.str f), z4, z5, z6, some (.int i), none] ∧ M' = M ∧ testF (rowsW lw) w l = boundF w x (.int i)) ?_ ?_
    · cases l with
      | fact r ts => exact absurd rfl (hnf r ts)
      | neg r ts => exact absurd rfl (n1 r ts)
      | compare op s t => exact absurd rfl (n2 op s t)
      | is x' op s t =>
        cases hds
        cases a0
        cases a1
        obtain ⟨_, ho, hs, ht, bs, bt⟩ := hl
        walk_at "f"
        refine ws_par ?_
        walk_at "f"
        refine ⟨s, w, b, rfl, hs, bs, ?_⟩
        walk_at "f"
        refine ⟨t, w, b, rfl, ht, bt, ?_⟩
        refine wa_nil ⟨_, _, rfl, ?_⟩
        have hv := valF_vb hw bs hs
        have hu := valF_vb hw bt ht
        have q' : Q (.dat (.list (((reckF op (valF w s) (valF w t)).bind fun i => boundF w x (.int i)).toList.map encW))) M := q
        have e' : testF (rowsW lw) w (.is x op s t) = (reckF op (valF w s) (valF w t)).bind fun i => boundF w x (.int i) := rfl
        rw [e']
        clear q e'
        generalize valF w s = v at hv q' ⊢
        generalize valF w t = u at hu q' ⊢
        cases v with
        | str z =>
          show WS K _ [some (.dat (.tuple [.str "is", .str x, .str op, s.enc, t.enc])), some (.dat (encD encRs lw)), some (.dat (encW w)), some (.str "is"), none, some (.str z), some (.dat u.enc), none, none] M _
          walk_at "f"
          exact q'
        | int i =>
          cases u with
          | str z =>
            show WS K _ [some (.dat (.tuple [.str "is", .str x, .str op, s.enc, t.enc])), some (.dat (encD encRs lw)), some (.dat (encW w)), some (.str "is"), none, some (.int i), some (.str z), none, none] M _
            walk_at "f"
            exact q'
          | int j =>
            show WS K _ [some (.dat (.tuple [.str "is", .str x, .str op, s.enc, t.enc])), some (.dat (encD encRs lw)), some (.dat (encW w)), some (.str "is"), none, some (.int i), some (.int j), none, none] M _
            walk_at "f"
            refine w_dropE (w_dget (w_disp fun g hg => wps_cons (w_str (w_op (w_var rfl (w_var rfl (w2_i0 (i := i) (j := j) ?_)))))))
            refine wps_cons (w_str (w_op (w_var rfl (w_var rfl (w2_i0 (i := i) (j := j) ?_)))))
            refine wps_cons (w_str (w_op (w_var rfl (w_var rfl (w2_i (i := i) (j := j) (wide_mul hv hu (by omega) (by omega) (by omega)) ?_)))))
            refine wps_nil ⟨um_same, [(.inr "+", .int (i + j)), (.inr "-", .int (i - j)), (.inr "*", .int (i * j))], rfl, by simp, ?_⟩
            rw [um_um]
            have em : mergeG [] [((.inr "+" : Key), Sl.int (i + j)), (.inr "-", .int (i - j)), (.inr "*", .int (i * j))] = [((.inr "+" : Key), Sl.int (i + j)), (.inr "-", .int (i - j)), (.inr "*", .int (i * j))] := by kernel_rfl
            rw [em]
            refine w_op (w_var rfl (w_int (w2_ixT rfl ⟨_, .inr op, .int (if op = "+" then i + j else if op = "-" then i - j else i * j), dcv_ref um_same, rfl, ?_, ⟨g, ?_⟩⟩)))
            · simp only [opsI, List.mem_cons, List.not_mem_nil, or_false] at ho
              rcases ho with rfl | rfl | rfl
              · rw [if_pos rfl]; kernel_rfl
              · rw [if_neg (by decide +kernel), if_pos rfl]; kernel_rfl
              · rw [if_neg (by decide +kernel), if_neg (by decide +kernel)]; kernel_rfl
            · rw [del_um hg]
              exact ⟨_, _, _, _, rfl, rfl, rfl⟩
      | count x' r ts =>
        cases hds
        cases a0
        cases a1
        obtain ⟨_, gr, hts, tl⟩ := hl
        obtain ⟨rs, hrs, hrl⟩ := hk
        obtain ⟨rl, rb⟩ := shp hrs
        walk_at "f"
        refine w_lcF (xs := rs) (enc := encR) (M1 := M) (by decide) (w_getE (w_var rfl (w_op (w_var rfl (w_int (w2_ixT rfl ⟨_, encRs, lw, r, rs, rfl, rfl, hrs, ⟨rfl, rfl⟩⟩)))))) rl (fun row => (metF ts row w).isSome) encR (fun row D o hx hD => ?_) (fun row D o hx hf hD => w_var rfl ⟨rfl, rfl⟩) ?_
        · walk_at "f"
          refine ⟨ts, row, w, b, rfl, hts, tl, (hrl row hx).symm, rb row hx, hw, wl2, ?_⟩
          cases metF ts row w with
          | none => walk_at "f"; exact ⟨rfl, rfl⟩
          | some w' => refine w_non ?_; refine w2_notN ?_; exact ⟨_, rfl, rfl, rfl⟩
        · walk_at "f"
          refine ⟨_, _, _, _, rfl, rfl, ?_⟩
          show boundF w x (.int (countF ts (rowsW lw r) w : Int)) = _
          rw [rowsW_at hrs]
          rfl
    · rintro ρ' M' ⟨z4, z5, z6, i, rfl, rfl, ht⟩
      rw [ht] at q
      clear ht
      unfold boundF at q
      have fin : Q (.dat (.list [encW (putG w x (.int i))])) M' → WS K (tSeq (tAsg (tCB rDictD (tCons (tVar 2) tNil)) (gName 8)) (tSeq (sDPut (tVar 8) (tOp (rIxT K) (tVar 0) (tC (.int 1))) (tVar 7)) (tRet (tLst (tCons (tVar 8) tNil))))) [some (.dat (.tuple ds)), some (.dat (encD encRs lw)), some (.dat (encW w)), some (.str f), z4, z5, z6, some (.int i), none] M' ⟨fun _ M' => Q .non M', Q, NoR, NoR⟩ := fun q2 => by
        refine ws_seq (ws_set (w_cb (wa_cons (w_var rfl (wa_nil (wl_dictE fun p hp => ?_))))))
        refine ws_seq (ws_dput (w_var rfl (w_var rfl (w_op (w_var rfl (w_int (w2_ixT a1 ⟨p, slD Val.enc w, .inr x, rfl, rfl, um_same, by rw [List.length_map]; omega, ?_⟩)))))))
        rw [um_um, show (Sl.int i) = .dat (Val.enc (.int i)) from rfl, slD_put]
        refine ws_ret (w_lstD (wa_cons (w_frzE (w_var rfl ⟨p, putG w x (.int i), rfl, um_same, ?_⟩))))
        rw [del_um hp]
        exact wa_nil ⟨_, rfl, by simp, q2⟩
      cases e : valG w x with
      | none =>
        rw [e] at q
        refine ws_seq (ws_if (wt_and (wt_B (w_inE (w_op (w_var rfl (w_int (w2_ixT a1 (w_var rfl ⟨_, Val.enc, w, x, rfl, rfl, ?_⟩)))))))))
        rw [e]
        refine ⟨_, rfl, ?_⟩
        rw [if_neg (by decide)]
        exact ws_next (fin q)
      | some u =>
        rw [e] at q
        dsimp only at q
        have hu := (hw.g _ (valG_mem e)).2
        refine ws_seq (ws_if (wt_and (wt_B (w_inE (w_op (w_var rfl (w_int (w2_ixT a1 (w_var rfl ⟨_, Val.enc, w, x, rfl, rfl, ?_⟩)))))))))
        rw [e]
        refine ⟨_, rfl, ?_⟩
        rw [if_pos (by rfl)]
        walk_at "f"
        refine w_getE (w_var rfl (w_op (w_var rfl (w_int (w2_ixT a1 ⟨_, Val.enc, w, x, u, rfl, rfl, e, ?_⟩)))))
        walk_at "f"
        refine ⟨u.enc, .int i, rfl, okV hu, okD_int, tpd_val _, rfl, ?_⟩
        refine ⟨_, rfl, ?_⟩
        rw [show PyData.eqv u.enc (.int i) = decide (u = .int i) from eqv_V u (.int i)]
        by_cases c : u = .int i
        · rw [if_pos c] at q
          rw [if_neg (by simp [c])]
          exact ws_next (fin q)
        · rw [if_neg c] at q
          rw [if_pos (by simp [c])]
          walk_at "f"
          exact q
end
end
section
section
variable {P : Program} {w : World} {K : PySem.W.Frag} {mg : Str → Option Value} {base : Heap} {a : AD} {d : FD}
def A_law_ways : ASp := fun ss M Q => ∃ (body : List Lit) (rw' lw : List (Str × Rows)) (b : Nat), ss = [.dat (encB body), .dat (encD encRs rw'), .dat (encD encRs lw)] ∧ rowsB b (rowsW rw') ∧ rowsB b (rowsW lw) ∧ 20 ≤ b ∧ b * 2 ^ body.length ≤ 200000 ∧ (∀ l ∈ body, litB b l) ∧ (∀ l ∈ body, lkL rw' lw l) ∧ bodyK [] body ∧
  (∀ i, i ≤ body.length → (waysF (rowsW rw') (rowsW lw) (body.take i)).length ≤ 1000000) ∧ Q (.dat (.list ((waysF (rowsW rw') (rowsW lw) body).map encWy))) M
theorem ok_law_ways (T : Txt K mg a d) : FnOk P w K mg base CX0 4 a.law_ways d.law_ways ["_law_body_here", "_law_rows_here", "_law_lookups"] (conc K A_law_ways) := by
  have G_law_met : FnOk P w K mg base CX0 2 a.law_met d.law_met ["_law_terms", "_law_row", "_law_way"] (conc K A_law_met) := ok_law_met T
  have G_law_goes_on : FnOk P w K mg base CX0 3 a.law_goes_on d.law_goes_on ["_law_literal_here", "_law_lookups", "_law_way"] (conc K A_goes) := ok_law_goes_on T
  refine ab_ok T.F_law_ways sc_law_ways (fun ss M Q ⟨body, sR, sL, b, e, _⟩ => by subst e; rfl) fun cdv Ar outer s H E hr => ?_
  have hu64 := hr.units
  refine ⟨_, (pss_cons (ps_set (i := 3) sc_law_ways.nd rfl (Or.inl rfl) (pe_lst (pa_cons (pe_tup (pa_cons pe_dnewK (pa_cons (pe_tup pa_nil) pa_nil))) pa_nil)))
  (pss_cons (ps_for PassesOwn.never rfl (pi_tup (pv 0)) (pg_name (i := 4) sc_law_ways.nd rfl (Or.inl rfl)) (pss_cons (ps_set (i := 5) sc_law_ways.nd rfl (Or.inl rfl) (pe_lst pa_nil))
  (pss_cons (ps_for PassesOwn.never rfl (pi_list (pv 3)) (pg_tupK (K := K) (n := 2) rfl rfl (pgs_cons (pg_name (i := 6) sc_law_ways.nd rfl (Or.inl rfl)) (pgs_cons (pg_name (i := 7) sc_law_ways.nd rfl (Or.inr rfl)) pgs_nil))) (pss_one (ps_if (pt_cmpR (r := rEqD K) (op_eqD hu64) (pe_ix (r := rIxT K) ix_tup (pv 4) pe_int (fun _ _ => rfl)) pe_str (nomark _)) (pss_one (ps_for PassesOwn.never rfl (pi_list (pe_dget (hu1 hu64) (pv 1) (pe_ix (r := rIxT K) ix_tup (pv 4) pe_int (fun _ _ => rfl)) (fun _ _ => rfl))) (pg_name (i := 8) sc_law_ways.nd rfl (Or.inl rfl)) (pss_cons (ps_set (i := 9) sc_law_ways.nd rfl (Or.inl rfl) (pe_call G_law_met (hr.mono (by omega)) (by rfl) T.g_law_met T.F_law_met.kp T.b_law_met .nil pass0 (pa_cons (pe_ix (r := rIxT K) ix_tup (pv 4) pe_int (fun _ _ => rfl)) (pa_cons (pv 8) (pa_cons (pv 6) pa_nil)))))
  (pss_one (ps_if (pt_cmpR op_notN (pv 9) pe_non (nomark _)) (pss_one (ps_expr (pe_bm PySem.F.plainAttrs_list PySem.F.slot_list_append PySem.F.type_list_append mt_append (pv 5) (pa_cons (pe_tup (pa_cons (pv 9) (pa_cons (pe_op (r := rCatA K) op_catA (pv 7) (pe_tup (pa_cons (pv 8) pa_nil))) pa_nil))) pa_nil)))) pss_nil))))) (pss_one (ps_set (i := 5) sc_law_ways.nd rfl (Or.inl rfl) (pe_op (r := rCatL K) op_catL (pv 5) (pe_lc (own := [("_law_more", 9)]) rfl sc_law_ways.nd (pi_list (pe_call G_law_goes_on (hr.mono (by omega)) (by rfl) T.g_law_goes_on T.F_law_goes_on.kp T.b_law_goes_on .nil pass0 (pa_cons (pv 4) (pa_cons (pv 2) (pa_cons (pv 6) pa_nil))))) (blkOk_by (own := [("_law_more", 9)]) (N := ["_law_body_here", "_law_rows_here", "_law_lookups", "_law_gathered", "_law_literal_here", "_law_after", "_law_way", "_law_taken", "_law_row", "_law_more"]) (sc := (defScope s_law_ways)) (by decide +kernel)) (fun _ _ _ _ _ => (pg_name (i := 9) sc_law_ways.nd rfl (Or.inl rfl))) (fun _ _ _ _ _ => pts_nil) (fun _ _ _ _ _ => (pe_tup (pa_cons (pv 9) (pa_cons (pv 7) pa_nil)))))))))))
  (pss_one (ps_set (i := 3) sc_law_ways.nd rfl (Or.inl rfl) (pv 5))))))
  (pss_one (ps_ret (pv 3))))), ?_⟩
  rintro ss M Q ⟨body, rw', lw, b, rfl, bR, bL, b20, bl, hB, hLk, hK, hn, q⟩
  walk_at "k"
  show WS K _ [some (.dat (encB body)), some (.dat (encD encRs rw')), some (.dat (encD encRs lw)), none, none, none, none, none, none, none] M _
  have hbl : body.length < 20 := by
    have h1 : body.length < 2 ^ body.length := Nat.lt_two_pow_self
    have h2 : 20 * 2 ^ body.length ≤ b * 2 ^ body.length := Nat.mul_le_mul_right _ b20
    apply Nat.lt_of_not_le
    intro h3
    have h4 : (2 : Nat) ^ 20 ≤ 2 ^ body.length := Nat.pow_le_pow_right (by decide) h3
    have h5 : (2 : Nat) ^ 20 = 1048576 := by decide
    omega
  have bb : ∀ i, i ≤ body.length → b * 2 ^ i ≤ 200000 := fun i hi => Nat.le_trans (Nat.mul_le_mul_left b (Nat.pow_le_pow_right (by decide) hi)) bl
  have bge : ∀ i, b ≤ b * 2 ^ i := fun i => Nat.le_mul_of_pos_right b (Nat.two_pow_pos i)
  refine ws_seq (ws_set (w_lstD (wa_cons (w_tupD (wa_cons ?_)))))
  refine w_frzE (β := Val) (f := Val.enc) (w_dnew fun g hg => ⟨g, [], rfl, um_same, ?_⟩)
  rw [del_um hg]
  refine wa_cons (w_tupD (wa_nil ⟨[], rfl, by simp, wa_nil ⟨_, rfl, by simp, wa_nil ⟨_, rfl, by simp, ?_⟩⟩⟩))
  show WS K _ [some (.dat (encB body)), some (.dat (encD encRs rw')), some (.dat (encD encRs lw)), some (.dat (.list ((waysF (rowsW rw') (rowsW lw) []).map encWy))), none, none, none, none, none, none] M _
  generalize hR0 : rowsW rw' = R at bR hn q ⊢
  generalize hL0 : rowsW lw = L at bL hn q ⊢
  refine ws_seq (ws_forT (xs := body) (enc := Lit.enc) (M1 := M) (w_var rfl ⟨rfl, rfl⟩) (fun pre ρ' M' => ∃ z4 z5 z6 z7 z8 z9 k, ρ' = [some (.dat (encB body)), some (.dat (encD encRs rw')), some (.dat (encD encRs lw)), some (.dat (.list ((waysF R L pre).map encWy))), z4, z5, z6, z7, z8, z9] ∧ M' = M ∧ (∀ q ∈ waysF R L pre, WyOk k (b * 2 ^ pre.length) pre.length q) ∧ ∀ post, body = pre ++ post → bodyK k post) ⟨_, _, _, _, _, _, [], rfl, rfl, fun q hq => ?_, fun post e => by rw [List.nil_append] at e; rw [← e]; exact hK⟩ ?_ ?_)
  · rw [List.mem_singleton.mp hq]
    exact ⟨⟨fun _ h => nomatch h⟩, Nat.zero_le _, fun _ h => (nomatch h), Nat.le_refl _, fun _ h => nomatch h⟩
  · rintro pre l post ρ' M' hx ⟨z4, z5, z6, z7, z8, z9, k, rfl, rfl, hF, hbK⟩
    have hlm : l ∈ body := by rw [hx]; simp
    have hpl : pre.length + 1 ≤ body.length := by rw [hx, List.length_append, List.length_cons]; omega
    obtain ⟨hk, hk2⟩ := hbK _ hx
    have hlk := hLk l hlm
    have hlb := litB_mono (bge pre.length) (hB l hlm)
    have bRi := rowsB_mono (bge pre.length) bR
    have bLi := rowsB_mono (bge pre.length) bL
    have hstep := ways_step hF hlb hk (Nat.le_trans b20 (bge _)) bRi bLi
    have hnl := hn (pre.length + 1) hpl
    have htk : body.take (pre.length + 1) = pre ++ [l] := by rw [hx, show pre ++ l :: post = (pre ++ [l]) ++ post by simp, List.take_left' (by simp)]
    rw [htk, waysF_snoc] at hnl
    have hbi := bb pre.length (by omega)
    have hb20 := Nat.le_trans b20 (bge pre.length)
    rw [waysF_snoc]
    generalize waysF R L pre = found at hF hstep hnl
    generalize hbe : b * 2 ^ pre.length = bi at hF hlb bRi bLi hstep hbi hb20
    have endK : (∀ q ∈ waysL R L found l, WyOk (k ++ bindsF l) (b * 2 ^ (pre ++ [l]).length) (pre ++ [l]).length q) ∧ ∀ post', body = (pre ++ [l]) ++ post' → bodyK (k ++ bindsF l) post' := by
      refine ⟨?_, fun post' e => ?_⟩
      · rw [List.length_append, List.length_singleton, Nat.pow_succ, ← Nat.mul_assoc, hbe, Nat.mul_comm bi 2]
        exact hstep
      · have e2 : post = post' := by rw [hx] at e; simpa using e
        rw [← e2]
        exact hk2
    have part : ∀ {pr po : Wys} {x : Way × Rows}, found = pr ++ x :: po → (waysL R L pr l).length + (waysL R L [x] l).length ≤ 1000000 ∧ (waysL R L (pr ++ [x]) l) = waysL R L pr l ++ waysL R L [x] l ∧ WyOk k bi pre.length x := fun {pr po x} e => by
      refine ⟨?_, waysL_app R L pr [x] l, hF x (by rw [e]; simp)⟩
      have := congrArg List.length (waysL_app R L (pr ++ [x]) po l)
      rw [show (pr ++ [x]) ++ po = found by rw [e]; simp, waysL_app R L pr [x], List.length_append, List.length_append] at this
      omega
    refine wg_name ?_
    by_cases hfl : ∃ r ts, l = .fact r ts
    · obtain ⟨r, ts, rfl⟩ := hfl
      obtain ⟨rs, hrs, hrl⟩ := hlk
      have eR : R r = rs := by rw [← hR0]; exact rowsW_at hrs
      have bRr := bRi.g r
      have bRl := bRi.l r
      rw [eR] at bRr bRl
      refine ws_seq (ws_set (w_lstM (wa_nil ⟨by decide, fun p hp => ?_⟩)))
      refine ws_mid (fun ρ' M2 => ∃ z6 z7 z8 z9, ρ' = [some (.dat (encB body)), some (.dat (encD encRs rw')), some (.dat (encD encRs lw)), some (.dat (.list (found.map encWy))), some (.dat (.tuple [.str "fact", .str r, encT ts])), some (.raw (.ref p)), z6, z7, z8, z9] ∧ M2 = Ab.um M' p (.lst ((waysL R L found (.fact r ts)).map fun q => Sl.dat (encWy q)))) ?_ ?_
      · refine ws_forL (xs := found) (enc := encWy) (M1 := Ab.um M' p (.lst [])) (w_var rfl ⟨rfl, rfl⟩) (fun pr ρ' M2 => ∃ z6 z7 z8 z9, ρ' = [some (.dat (encB body)), some (.dat (encD encRs rw')), some (.dat (encD encRs lw)), some (.dat (.list (found.map encWy))), some (.dat (.tuple [.str "fact", .str r, encT ts])), some (.raw (.ref p)), z6, z7, z8, z9] ∧ M2 = Ab.um M' p (.lst ((waysL R L pr (.fact r ts)).map fun q => Sl.dat (encWy q)))) ⟨_, _, _, _, rfl, rfl⟩ ?_ ?_
        · rintro pr x po ρ' M2 e ⟨z6, z7, z8, z9, rfl, rfl⟩
          obtain ⟨hle, eapp, hwo⟩ := part e
          obtain ⟨w, tk⟩ := x
          rw [eapp]
          generalize waysL R L pr (.fact r ts) = acc at hle ⊢
          have wl : w.length ≤ 51 * pre.length := hwo.l
          have tl : tk.length ≤ pre.length := hwo.t
          have hwl2 : (waysL R L [(w, tk)] (.fact r ts)) = rs.filterMap fun row => (metF ts row w).map fun w' => (w', tk ++ [row]) := by
            show ([(w, tk)] : Wys).flatMap _ = _
            rw [List.flatMap_cons, List.flatMap_nil, List.append_nil, eR]
          rw [hwl2] at hle ⊢
          refine wg_tup (ds := [encW w, encTk tk]) rfl rfl (wgs_cons (wg_name (wgs_cons (wg_name (wgs_nil ?_)))))
          show WS K _ [some (.dat (encB body)), some (.dat (encD encRs rw')), some (.dat (encD encRs lw)), some (.dat (.list (found.map encWy))), some (.dat (.tuple [.str "fact", .str r, encT ts])), some (.raw (.ref p)), some (.dat (encW w)), some (.dat (encTk tk)), z8, z9] _ _
          refine ws_if (wt_test (w_op (w_op (w_var rfl (w_int (w2_ixT rfl (w_str (w2_eqS (by decide +kernel) (by decide +kernel) ⟨_, rfl, ?_⟩))))))))
          rw [if_pos (by decide +kernel)]
          refine ws_forL (xs := rs) (enc := encR) (M1 := Ab.um M' p (.lst (acc.map fun q => Sl.dat (encWy q)))) (w_getE (w_var rfl (w_op (w_var rfl (w_int (w2_ixT rfl ⟨_, encRs, rw', r, rs, rfl, rfl, hrs, rfl, rfl⟩)))))) (fun pq ρ' M2 => ∃ z8 z9, ρ' = [some (.dat (encB body)), some (.dat (encD encRs rw')), some (.dat (encD encRs lw)), some (.dat (.list (found.map encWy))), some (.dat (.tuple [.str "fact", .str r, encT ts])), some (.raw (.ref p)), some (.dat (encW w)), some (.dat (encTk tk)), z8, z9] ∧ M2 = Ab.um M' p (.lst ((acc ++ pq.filterMap fun row => (metF ts row w).map fun w' => (w', tk ++ [row])).map fun q => Sl.dat (encWy q)))) ⟨_, _, rfl, by rw [List.filterMap_nil, List.append_nil]⟩ ?_ ?_
          · rintro pq row po2 ρ' M2 e2 ⟨z8, z9, rfl, rfl⟩
            have hrow : row ∈ rs := by rw [e2]; simp
            have hle2 : (acc ++ (pq ++ [row]).filterMap fun row => (metF ts row w).map fun w' => (w', tk ++ [row])).length ≤ 1000000 := by
              have h3 : rs = (pq ++ [row]) ++ po2 := by rw [e2]; simp
              rw [h3, List.filterMap_append, List.length_append] at hle
              rw [List.length_append]
              omega
            have rb := bRr row hrow
            rw [List.filterMap_append, ← List.append_assoc] at hle2 ⊢
            generalize acc ++ pq.filterMap (fun row => (metF ts row w).map fun w' => (w', tk ++ [row])) = ac at hle2 ⊢
            refine wg_name ?_
            refine ws_seq (ws_set (w_call (wa_cons (w_op (w_var rfl (w_int (w2_ixT rfl (wa_cons (w_var rfl (wa_cons (w_var rfl (wa_nil ⟨ts, row, w, bi, rfl, hlb.2.1, Nat.le_trans hlb.2.2 (by decide), (hrl row hrow).symm, rb, hwo.wb, by omega, ?_⟩))))))))))))
            cases em : metF ts row w with
            | none =>
              rw [List.filterMap_cons, em, List.filterMap_nil]
              try dsimp only [optW, Option.map]
              refine ws_if (wt_test (w_op (w_var rfl (w_non (w2_notN ⟨_, rfl, ?_⟩)))))
              rw [if_neg (by decide)]
              refine ws_next ⟨_, _, rfl, ?_⟩
              rw [List.append_nil]
            | some w' =>
              rw [List.filterMap_cons, em, List.filterMap_nil] at hle2
              rw [List.filterMap_cons, em, List.filterMap_nil]
              try dsimp only [Option.map] at hle2 ⊢
              have hac : ac.length < 1000000 := by rw [List.length_append] at hle2; simp at hle2; omega
              refine ws_if (wt_test (w_op (w_var rfl (w_non (w2_notN ⟨_, rfl, ?_⟩)))))
              rw [if_pos (by rfl)]
              refine ws_drop (w_bm (w_var rfl ⟨ty_lst (lsv_ref um_same), wa_cons (w_tupD (wa_cons (w_var rfl (wa_cons (w_op (w_var rfl (w_tupD (wa_cons (w_var rfl (wa_nil ⟨[encR row], rfl, by simp, w2_catT (by rw [List.length_map]; simp; omega) ?_⟩))))))))))⟩))
              have etk : PyData.tuple (tk.map encR ++ [encR row]) = encTk (tk ++ [row]) := by
                show _ = PyData.tuple _
                rw [List.map_append]
                rfl
              rw [etk]
              refine wa_nil ⟨_, rfl, by simp, wa_nil (wm_append um_same (by rw [List.length_map]; omega) ?_)⟩
              refine ⟨_, _, rfl, ?_⟩
              rw [um_um, List.map_append]
              rfl
          · rintro ρ' M2 ⟨z8, z9, rfl, rfl⟩
            exact ⟨_, _, _, _, rfl, rfl⟩
        · rintro ρ' M2 ⟨z6, z7, z8, z9, rfl, rfl⟩
          exact ⟨_, _, _, _, rfl, rfl⟩
      · rintro ρ' M2 ⟨z6, z7, z8, z9, rfl, rfl⟩
        refine ws_set (w_frz (w_var rfl ⟨p, _, rfl, lsW_um, ?_⟩))
        rw [del_um hp]
        exact ⟨_, _, _, _, _, _, _, rfl, rfl, endK⟩
    · have hnf : ∀ r ts, l ≠ .fact r ts := fun r ts e => hfl ⟨r, ts, e⟩
      refine ws_seq (ws_set (w_lstD (wa_nil ⟨[], rfl, by simp, ?_⟩)))
      refine ws_mid (fun ρ' M2 => ∃ z6 z7 z8 z9, ρ' = [some (.dat (encB body)), some (.dat (encD encRs rw')), some (.dat (encD encRs lw)), some (.dat (.list (found.map encWy))), some (.dat l.enc), some (.dat (.list ((waysL R L found l).map encWy))), z6, z7, z8, z9] ∧ M2 = M') ?_ ?_
      · refine ws_forL (xs := found) (enc := encWy) (M1 := M') (w_var rfl ⟨rfl, rfl⟩) (fun pr ρ' M2 => ∃ z6 z7 z8 z9, ρ' = [some (.dat (encB body)), some (.dat (encD encRs rw')), some (.dat (encD encRs lw)), some (.dat (.list (found.map encWy))), some (.dat l.enc), some (.dat (.list ((waysL R L pr l).map encWy))), z6, z7, z8, z9] ∧ M2 = M') ⟨_, _, _, _, by rw [waysL_nf hnf]; rfl, rfl⟩ ?_ ?_
        · rintro pr x po ρ' M2 e ⟨z6, z7, z8, z9, rfl, rfl⟩
          obtain ⟨hle, eapp, hwo⟩ := part e
          obtain ⟨w, tk⟩ := x
          rw [eapp]
          generalize waysL R L pr l = acc at hle ⊢
          have wl : w.length ≤ 51 * pre.length := hwo.l
          have tl : tk.length ≤ pre.length := hwo.t
          have hwl2 : waysL R L [(w, tk)] l = (testF L w l).toList.map fun w' => (w', tk) := by
            rw [waysL_nf hnf, List.filterMap_cons]
            cases testF L w l with
            | none => rfl
            | some w' => rfl
          rw [hwl2] at hle ⊢
          refine wg_tup (ds := [encW w, encTk tk]) rfl rfl (wgs_cons (wg_name (wgs_cons (wg_name (wgs_nil ?_)))))
          show WS K _ [some (.dat (encB body)), some (.dat (encD encRs rw')), some (.dat (encD encRs lw)), some (.dat (.list (found.map encWy))), some (.dat l.enc), some (.dat (.list (acc.map encWy))), some (.dat (encW w)), some (.dat (encTk tk)), z8, z9] _ _
          refine ws_if (wt_test (w_op (w_op (w_var rfl (w_int (w2_ixHd (w_str (w2_eqS (goodS_ok l.form_good) (by decide +kernel) ⟨_, rfl, ?_⟩))))))))
          rw [if_neg (by rw [decide_eq_true_iff]; exact form_nf hnf)]
          have tll : (testF L w l).toList.length ≤ 1 := by cases testF L w l <;> simp
          refine ws_set (w_op (w_var rfl ?_))
          refine w_lcD (xs := (testF L w l).toList) (enc := encW) (M1 := M2) (by decide) (w_call (wa_cons (w_var rfl (wa_cons (w_var rfl (wa_cons (w_var rfl (wa_nil ⟨l, lw, w, bi, rfl, by rw [hL0]; exact bLi, litW_of hwo hlb hk, lkL_nf hlk hnf, hnf, hwo.wb, by omega, hb20, hbi, by rw [hL0]; exact ⟨rfl, rfl⟩⟩)))))))) (by omega) (fun w' => encWy (w', tk)) (fun w' D o hx hD => w_tupD (wa_cons (w_var rfl (wa_cons (w_var rfl (wa_nil ⟨_, rfl, by simp, rfl, rfl⟩)))))) ?_
          refine w2_cat (ds := acc.map encWy) (es := (testF L w l).toList.map fun w' => encWy (w', tk)) lsv_dat lsv_dat (by rw [List.length_map] at hle ⊢; rw [List.length_map]; exact hle) ?_
          exact ⟨some (.dat (encW w)), some (.dat (encTk tk)), z8, z9, by rw [List.map_append, List.map_map]; rfl, rfl⟩
        · rintro ρ' M2 ⟨z6, z7, z8, z9, rfl, rfl⟩
          exact ⟨_, _, _, _, rfl, rfl⟩
      · rintro ρ' M2 ⟨z6, z7, z8, z9, rfl, rfl⟩
        refine ws_set (w_var rfl ?_)
        exact ⟨_, _, _, _, _, _, _, rfl, rfl, endK⟩
  · rintro ρ' M' ⟨z4, z5, z6, z7, z8, z9, k, rfl, rfl, hF, hbK⟩
    exact ws_ret (w_var rfl q)
end
end
section
section
variable {P : Program} {w : World} {K : PySem.W.Frag} {mg : Str → Option Value} {base : Heap} {a : AD} {d : FD}
def A_law_rows : ASp := fun ss M Q => ∃ p q xs Ws, ss = [.raw (.ref p), .raw (.ref q)] ∧ M p = some (.lst xs) ∧ DrawL xs ∧ M q = some (.dK (kvW Ws)) ∧ okW Ws ∧ (Ws.map (·.1)).Nodup ∧ ∀ rw' ys, RwOk Ws rw' → DrawL ys → Q (.dat (encD encRs rw')) (Ab.um M p (.lst ys))
theorem ok_law_rows (T : Txt K mg a d) : FnOk P w K mg base CX0 3 a.law_rows d.law_rows ["_law_state", "_law_widths"] (conc K A_law_rows) := by
  have G_law_next : FnOk P w K mg base CX0 1 a.law_next d.law_next ["_law_state", "_law_limit"] (conc K A_next) := ok_next T
  have G_law_worth : FnOk P w K mg base CX0 2 a.law_worth d.law_worth ["_law_state"] (conc K A_worth) := ok_worth T
  refine ab_ok T.F_law_rows sc_law_rows (fun ss M Q ⟨p, q, xs, Ws, e, _⟩ => by subst e; rfl) fun cdv Ar outer s H E hr => ?_
  have hu64 := hr.units
  have hu65 := room65 hr
  refine ⟨_, (pss_cons (ps_set (i := 2) sc_law_rows.nd rfl (Or.inl rfl) pe_dnewK)
  (pss_cons (ps_lock (ps_for PassesOwn.never rfl (pi_keys (pv 1)) (pg_name (i := 3) sc_law_rows.nd rfl (Or.inl rfl)) (pss_cons (ps_dput (hu1 hu64) (pv 2) (pv 3) (pe_lst pa_nil) rfl)
  (pss_one (ps_for PassesOwn.never rfl (pi_range1 rfl T.n_range (pa_cons (pe_call G_law_next (hr.mono (by omega)) (by rfl) T.g_law_next T.F_law_next.kp T.b_law_next .nil pass0 (pa_cons (pv 0) (pa_cons pe_int pa_nil))) pa_nil)) (pg_name (i := 4) sc_law_rows.nd rfl (Or.inl rfl)) (pss_cons (ps_set (i := 5) sc_law_rows.nd rfl (Or.inl rfl) (pe_callTy (r := rTupS K) call_tuple_of (by rfl) T.n_tuple (by decide +kernel) (pa_cons (pe_lc (own := [("_law_j", 6)]) rfl sc_law_rows.nd (pi_range1 rfl T.n_range (pa_cons (pe_dget (hu1 hu64) (pv 1) (pv 3) (fun _ _ => rfl)) pa_nil)) (blkOk_by (own := [("_law_j", 6)]) (N := ["_law_state", "_law_widths", "_law_rows_here", "_law_name", "_law_k", "_law_row", "_law_j"]) (sc := (defScope s_law_rows)) (by decide +kernel)) (fun _ _ _ _ _ => (pg_name (i := 6) sc_law_rows.nd rfl (Or.inl rfl))) (fun _ _ _ _ _ => pts_nil) (fun _ _ _ _ _ => (pe_call G_law_worth (hr.mono (by omega)) (by rfl) T.g_law_worth T.F_law_worth.kp T.b_law_worth .nil pass0 (pa_cons (pv 0) pa_nil)))) pa_nil)))
  (pss_one (ps_if (pt_cmpR (r := rNotInD K) (op_notInD hu65) (pv 5) (pe_dget (hu1 hu64) (pv 2) (pv 3) (fun _ _ => rfl)) (by rfl)) (pss_one (ps_expr (pe_bm PySem.F.plainAttrs_list PySem.F.slot_list_append PySem.F.type_list_append mt_append (pe_dget (hu1 hu64) (pv 2) (pv 3) (fun _ _ => rfl)) (pa_cons (pv 5) pa_nil)))) pss_nil))))))))
  (pss_one (ps_ret (pv 2))))), ?_⟩
  rintro ss M Q ⟨p, q, xs, Ws, rfl, hM, hD, hW, oW, nd, qq⟩
  walk_at "k"
  show WS K _ [some (.raw (.ref p)), some (.raw (.ref q)), none, none, none, none, none] M _
  have pq : p ≠ q := fun z => by rw [z, hW] at hM; cases hM
  refine ws_seq (ws_set (w_dnew fun g hg => ?_))
  have gp : g ≠ p := fun z => by rw [z, hM] at hg; cases hg
  have gq : g ≠ q := fun z => by rw [z, hW] at hg; cases hg
  refine ws_mid (fun ρ' M' => ∃ z3 z4 z5 z6 rw' ys, ρ' = [some (.raw (.ref p)), some (.raw (.ref q)), some (.raw (.ref g)), z3, z4, z5, z6] ∧ RwOk Ws rw' ∧ DrawL ys ∧ M' = Ab.um (Ab.um M g (.dK (slD encRs rw'))) p (.lst ys)) ?_ ?_
  · refine ws_lock (a := q) (kvs := kvW Ws) (by rw [um_ne gq.symm]; exact hW) fun od v => ?_
    refine ws_for (wi_keys (w_var rfl ⟨q, od, v, kvW Ws, rfl, um_same, fun i ρ' M' => ∃ z3 z4 z5 z6 rw' ys, ρ' = [some (.raw (.ref p)), some (.raw (.ref q)), some (.raw (.ref g)), z3, z4, z5, z6] ∧ (rw'.map (·.1) = (Ws.take i).map (·.1) ∧ ∀ x ∈ rw', rwR Ws x) ∧ DrawL ys ∧ M' = Ab.um (Ab.um (Ab.um M g (.dK (slD encRs rw'))) q (.frz od v (.dK (kvW Ws)))) p (.lst ys), ⟨_, _, _, _, [], xs, rfl, ⟨by simp, fun _ h => nomatch h⟩, hD, (um_id (by rw [um_ne pq, um_ne gp.symm]; exact hM)).symm⟩, fun i ρ' M' _ h => ?_, fun i ρ' M' hi h => ?_, fun ρ' M' h => ?_⟩))
    · obtain ⟨_, _, _, _, _, _, _, _, _, rfl⟩ := h
      rw [um_ne pq.symm]
      exact um_same
    · obtain ⟨z3, z4, z5, z6, rw', ys, rfl, ⟨hk, hrw⟩, hD2, rfl⟩ := h
      have hi' : i < Ws.length := by unfold kvW at hi; rw [List.length_map] at hi; exact hi
      have gi : ((kvW Ws).map fun q => kS q.1).getD i .non = .str Ws[i].1 := by
        unfold kvW
        rw [List.getD_eq_getElem?_getD, List.map_map, List.getElem?_map, List.getElem?_eq_getElem hi']
        rfl
      have vz : valG Ws Ws[i].1 = some Ws[i].2 := valG_nodup nd (List.getElem_mem hi')
      have el : Ws.take (i + 1) = Ws.take i ++ [Ws[i]] := List.take_succ_eq_append_getElem hi'
      have hfr : Ws[i].1 ∉ rw'.map (·.1) := by
        rw [hk]
        intro hz
        have nd2 : ((Ws.take (i + 1)).map (·.1)).Nodup := by rw [List.map_take]; exact nd.sublist (List.take_sublist _ _)
        rw [el, List.map_append] at nd2
        exact (List.nodup_append.mp nd2).2.2 _ hz _ (List.mem_singleton.mpr rfl) rfl
      have wn := oW.g _ (List.getElem_mem hi')
      have lrw : rw'.length ≤ 60 := by
        have := congrArg List.length hk
        rw [List.length_map, List.length_map, List.length_take] at this
        have := oW.l
        omega
      dsimp only
      rw [gi, el]
      generalize Ws[i] = wi at vz hfr wn
      obtain ⟨z, n⟩ := wi
      dsimp only at vz hfr wn ⊢
      refine wg_name ?_
      refine ws_seq (ws_dput (w_lstM (wa_nil ⟨by decide, fun b hb => ?_⟩)))
      have bp : b ≠ p := fun z => by rw [z, um_same] at hb; cases hb
      have bq : b ≠ q := fun z => by rw [z, um_ne pq.symm, um_same] at hb; cases hb
      have gb : g ≠ b := fun z => by rw [← z, um_ne gp, um_ne gq, um_same] at hb; cases hb
      have hb0 : M b = none := by rw [um_ne bp, um_ne bq, um_ne gb.symm] at hb; exact hb
      refine w_var rfl (w_var rfl ⟨g, slD encRs rw', .inr z, rfl, rfl, by rw [um_ne gb, um_ne gp, um_ne gq, um_same], by rw [List.length_map]; omega, ?_⟩)
      have hfr2 : (Sum.inr z : Key) ∉ (slD encRs rw').map (·.1) := fun h => by
        rw [List.map_map] at h
        obtain ⟨x, hx, e⟩ := List.mem_map.mp h
        have e' : (Sum.inr x.1 : Key) = Sum.inr z := e
        injection e' with e'
        exact hfr (by rw [← e']; exact List.mem_map_of_mem hx)
      rw [putG_new hfr2, mh1 gq gp gb bp]
      show WS K _ [some (.raw (.ref p)), some (.raw (.ref q)), some (.raw (.ref g)), some (.str z), z4, z5, z6] _ _
      have hval : valG (slD encRs rw' ++ [((Sum.inr z : Key), Sl.raw (.ref b))]) (.inr z) = some (.raw (.ref b)) := by
        have := valG_put (slD encRs rw') (Sum.inr z : Key) (Sum.inr z) (Sl.raw (.ref b))
        rwa [putG_new hfr2, if_pos rfl] at this
      refine ws_frzIn (ws_forRn ?_)
      walk_at "f"
      refine a_next hD2 (by decide) (by decide) fun m zs m0 m1 hD3 => ?_
      clear hD2
      refine wa_nil ⟨m, rfl, by omega, by omega, fun j ρ' M' => ∃ z4 z5 z6 rs ys, ρ' = [some (.raw (.ref p)), some (.raw (.ref q)), some (.raw (.ref g)), some (.str z), z4, z5, z6] ∧ rs.length ≤ j ∧ (∀ row ∈ rs, okR row ∧ (row.length : Int) = n) ∧ DrawL ys ∧ M' = Ab.um (Ab.um (Ab.um (Ab.um M g (.dK (slD encRs rw' ++ [(.inr z, .raw (.ref b))]))) q (.frz od v (.dK (kvW Ws)))) b (.lst (rs.map fun r => .dat (encR r)))) p (.lst ys), ⟨_, _, _, [], zs, rfl, by simp, fun _ h => (nomatch h), hD3, rfl⟩, fun j ρ' M' hj h => ?_, fun ρ' M' h => ?_⟩
      · clear hD3
        obtain ⟨z4, z5, z6, rs, ys, rfl, hrl, hrr, hD2, rfl⟩ := h
        refine wg_name ?_
        refine ws_seq (ws_set (w_cb (wa_cons ?_)))
        refine w_lcGen (p := p) (by decide) (fun d => isVal d = true) (wa_cons (w_dget (w_var rfl (w_var rfl ⟨kvW Ws, .inr z, .int n, dcv_frz (ob := od) (v := v) (by rw [um_ne pq.symm, um_ne bq.symm, um_same]), rfl, kvW_at vz, ?_⟩))))
        refine wa_nil ⟨n, _, ys, rfl, rfl, hD2, by omega, by omega, fun i M2 zs hi hz => ?_, fun ds zs hz hl hP => ?_⟩
        · walk_at "f"
          refine a_gen0 hz rfl fun d us hP hD => ⟨d, us, rfl, rfl, hD, hP⟩
        obtain ⟨row, rfl, hv⟩ := list_enc (f := Val.enc) (R := Val.ok) fun d hd => isVal_of (hP d hd)
        rw [List.length_map] at hl
        refine wa_nil (wl_tuple lsv_dat ?_)
        show WS K _ [some (.raw (.ref p)), some (.raw (.ref q)), some (.raw (.ref g)), some (.str z), some (.int (j : Int)), some (.dat (encR row)), z6] _ _
        have okr : okR row := ⟨by omega, hv⟩
        have hg2 : ∀ {x y : MO}, Ab.um (Ab.um (Ab.um (Ab.um M g (.dK (slD encRs rw' ++ [(.inr z, .raw (.ref b))]))) q (.frz od v (.dK (kvW Ws)))) b x) p y g = some (.dK (slD encRs rw' ++ [(.inr z, .raw (.ref b))])) := fun {x y} => by rw [um_ne gp, um_ne gb, um_ne gq, um_same]
        have hb2 : ∀ {y : MO}, Ab.um (Ab.um (Ab.um (Ab.um M g (.dK (slD encRs rw' ++ [(.inr z, .raw (.ref b))]))) q (.frz od v (.dK (kvW Ws)))) b (.lst (rs.map fun r => .dat (encR r)))) p y b = some (.lst (rs.map fun r => .dat (encR r))) := fun {y} => by rw [um_ne bp, um_same]
        have hb3 : ∀ {y : MO}, Ab.um (Ab.um (Ab.um (Ab.um M g (.dK (slD encRs rw' ++ [(.inr z, .raw (.ref b))]))) q (.frz od v (.dK (kvW Ws)))) b (.lst (rs.map fun r => .dat (encR r)))) p y b = some (.lst ((rs.map encR).map .dat)) := fun {y} => by rw [hb2, List.map_map]; rfl
        refine ws_if (wt_test (w_op (w_var rfl (w_dget (w_var rfl (w_var rfl ⟨_, .inr z, .raw (.ref b), dcv_ref hg2, rfl, hval, ?_⟩))))))
        refine w2_notInL (ds := rs.map encR) (lsv_ref hb3) (okD_shaped (n := 2) (okR_okD okr) (by decide)) (okD_shaped (n := 3) (okD_mkL (by rw [List.length_map]; omega) (okAll_of fun d hd => ?_)) (by decide)) ⟨_, rfl, ?_⟩
        · obtain ⟨r, hr2, rfl⟩ := List.mem_map.mp hd
          exact okR_okD (hrr r hr2).1
        generalize (!(rs.map encR).any fun z => PyData.eqv z (encR row)) = c
        cases c with
        | false =>
          refine ws_next ⟨_, _, _, rs, zs, rfl, by omega, hrr, hz, rfl⟩
        | true =>
          rw [if_pos rfl]
          refine ws_drop (w_bm (w_dget (w_var rfl (w_var rfl ⟨_, .inr z, .raw (.ref b), dcv_ref hg2, rfl, hval, ty_lst (lsv_ref hb3), wa_cons (w_var rfl (wa_nil (wm_append hb2 (by rw [List.length_map]; omega) ?_)))⟩))))
          rw [mh5 bp]
          refine ⟨_, _, _, rs ++ [row], zs, rfl, by rw [List.length_append, List.length_singleton]; omega, fun r hr2 => ?_, hz, by rw [List.map_append]; rfl⟩
          rcases List.mem_append.mp hr2 with h1 | h1
          · exact hrr r h1
          · rw [List.mem_singleton.mp h1]
            exact ⟨okr, by omega⟩
      · obtain ⟨z4, z5, z6, rs, ys, rfl, hrl, hrr, hD2, rfl⟩ := h
        refine ⟨g, b, slD encRs rw', .inr z, rs.map encR, gb.symm, by rw [um_ne gp, um_ne gb, um_ne gq, um_same], by rw [um_ne bp, um_same, List.map_map]; rfl, ?_⟩
        rw [mh2 gq gp gb bp bq hb0]
        refine ⟨_, _, _, _, rw' ++ [(z, rs)], ys, rfl, ⟨by rw [List.map_append, List.map_append, hk]; rfl, fun x hx => ?_⟩, hD2, by rw [show slD encRs (rw' ++ [(z, rs)]) = slD encRs rw' ++ [((Sum.inr z : Key), Sl.dat (encRs rs))] from List.map_append]⟩
        rcases List.mem_append.mp hx with h1 | h1
        · exact hrw x h1
        · rw [List.mem_singleton.mp h1]
          exact ⟨by dsimp only; omega, fun row hrow => ⟨(hrr row hrow).1, by rw [(hrr row hrow).2]; exact vz⟩⟩
    · obtain ⟨z3, z4, z5, z6, rw', ys, rfl, ⟨hk, hrw⟩, hD2, rfl⟩ := h
      refine ⟨by rw [um_ne pq.symm, um_same], _, _, _, _, rw', ys, rfl, ⟨?_, hrw⟩, hD2, mh3 gq pq hW⟩
      rw [hk, show (kvW Ws).length = Ws.length by unfold kvW; rw [List.length_map], List.take_length]
  · rintro ρ' M' ⟨z3, z4, z5, z6, rw', ys, rfl, hR, hD2, rfl⟩
    refine ws_ret (w_frzE (w_var rfl ⟨g, rw', rfl, by rw [um_ne gp, um_same], ?_⟩))
    rw [mh4 gp hg]
    exact qq rw' ys hR hD2
end
end
section
section
variable {P : Program} {w : World} {K : PySem.W.Frag} {mg : Str → Option Value} {base : Heap} {a : AD} {d : FD}
def A_is_dict : ASp := fun ss M Q => ∃ (w : Way) (b : Nat), ss = [.dat (encW w), .dat (encW w)] ∧ wayB b w ∧ w.length ≤ 100000 ∧ Q (.bl true) M
theorem ok_law_is_dict (T : Txt K mg a d) : FnOk P w K mg base CX0 2 a.law_is_dict d.law_is_dict ["_law_actual", "_law_expected"] (conc K A_is_dict) := by
  have G_law_same : FnOk P w K mg base CX0 1 a.law_same d.law_same ["_law_actual", "_law_expected"] (conc K (A_sameEN 1)) := ok_sameEN T 1
  refine ab_ok T.F_law_is_dict sc_law_is_dict (fun ss M Q ⟨w, b, e, _⟩ => by subst e; rfl) fun cdv Ar outer s H E hr => ?_
  have hu64 := hr.units
  have hu65 := room65 hr
  refine ⟨_, (pss_cons (ps_if (PW.pt (pw_or (pt_not (pt_val (pe_callB (r := rIsi K) call_isi (by rfl) T.n_isinstance (by decide +kernel) (pa_cons (pv 0) (pa_cons (pe_bltn (v := .ty "dict") (u := .type "dict") (by rfl) T.n_dict (by decide +kernel) rfl) pa_nil))))) (pw_or1 (pt_cmpR (r := rNeD K) (op_neD hu64) (pe_callB (r := rLenDr) call_lenDr (by rfl) T.n_len PySem.boot_len (pa_cons (pv 0) pa_nil)) (pe_callB (r := rLenDr) call_lenDr (by rfl) T.n_len PySem.boot_len (pa_cons (pv 1) pa_nil)) (nomark _))))) (pss_one (ps_ret pe_bl)) pss_nil)
  (pss_one (ps_ret (pe_cmpR (r := rNotInD K) (op_notInD hu65) pe_bl (pe_lockU (pe_lc (own := [("_law_key", 2)]) rfl sc_law_is_dict.nd (pi_keys (pv 1)) (blkOk_by (own := [("_law_key", 2)]) (N := ["_law_actual", "_law_expected", "_law_key"]) (sc := (defScope s_law_is_dict)) (by decide +kernel)) (fun _ _ _ _ _ => (pg_name (i := 2) sc_law_is_dict.nd rfl (Or.inl rfl))) (fun _ _ _ _ _ => pts_nil) (fun _ _ _ _ _ => (pe_and (pe_cmp (pc_din (hu1 hu64) (pv 2) (pv 0))) (pe_one (pe_call G_law_same (hr.mono (by omega)) (by rfl) T.g_law_same T.F_law_same.kp T.b_law_same .nil pass0 (pa_cons (pe_dget (hu1 hu64) (pv 0) (pv 2) (fun _ _ => rfl)) (pa_cons (pe_dget (hu1 hu64) (pv 1) (pv 2) (fun _ _ => rfl)) pa_nil)))))))) (by rfl))))), ?_⟩
  rintro ss M Q ⟨w, b, rfl, hw, hl, q⟩
  walk_at "k"
  show WS K _ [some (.dat (encW w)), some (.dat (encW w)), none] M _
  refine ws_seq (ws_if ?_)
  walk_at "f"
  refine wl_isi (isi_dict _) ?_
  walk_at "f"
  refine wl_lenDr dcv_encD ?_
  walk_at "f"
  refine wl_lenDr dcv_encD ?_
  walk_at "f"
  rw [if_neg (by simp)]
  refine ws_next (ws_ret (w_op (w_bl ?_)))
  refine w_lcKeysD (j := 2) (by decide) (i := 1) (w := w) (f := Val.enc) rfl (by omega) (fun _ => .bool true) (fun n D o hn hD => ?_) ?_
  · obtain ⟨v, hv⟩ := valG_of hn
    have hb := (hw.g _ (valG_mem hv)).2
    walk_at "f"
    refine w_inE (w_var rfl (w_var rfl ⟨_, Val.enc, w, n, rfl, rfl, ?_⟩))
    rw [hv]
    walk_at "f"
    refine w_getE (w_var rfl (w_var rfl ⟨_, Val.enc, w, n, v, rfl, rfl, hv, ?_⟩))
    walk_at "f"
    refine w_getE (w_var rfl (w_var rfl ⟨_, Val.enc, w, n, v, rfl, rfl, hv, ?_⟩))
    walk_at "f"
    refine ⟨v.enc, v.enc, rfl, okV hb, okV hb, tpd_val _, tpd_val _, ?_⟩
    rw [eqv_V, decide_eq_true rfl]
    exact ⟨rfl, rfl⟩
  · refine w2_notIn (shaped_bool _) (okD_shaped (n := 1) (okD_mkL (by rw [List.length_map, List.length_map]; omega) (okAll_of fun d hd => ?_)) (by decide)) ?_
    · obtain ⟨n, _, rfl⟩ := List.mem_map.mp hd
      rfl
    · have e : (((w.map (·.1)).map fun _ => PyData.bool true).any fun z => PyData.eqv z (.bool false)) = false := by
        rw [List.any_eq_false]
        intro d hd
        obtain ⟨n, _, rfl⟩ := List.mem_map.mp hd
        decide
      rw [e]
      exact q
end
end
section
section
variable {P : Program} {w : World} {K : PySem.W.Frag} {mg : Str → Option Value} {base : Heap} {a : AD} {d : FD}
theorem ok_law (T : Txt K mg a d) : FnU P w K mg base 6 a.law d.law ["_law_script"] (scriptA K) := by
  have G_law_next : FnOk P w K mg base CX0 1 a.law_next d.law_next ["_law_state", "_law_limit"] (conc K A_next) := ok_next T
  have G_law_worth : FnOk P w K mg base CX0 2 a.law_worth d.law_worth ["_law_state"] (conc K A_worth) := ok_worth T
  have G_law_same : FnOk P w K mg base CX0 3 a.law_same d.law_same ["_law_actual", "_law_expected"] (conc K (A_sameEN 3)) := ok_sameEN T 3
  have G_law_rows : FnOk P w K mg base CX0 3 a.law_rows d.law_rows ["_law_state", "_law_widths"] (conc K A_law_rows) := ok_law_rows T
  have G_law_body : FnOk P w K mg base CX0 5 a.law_body d.law_body ["_law_state", "_law_widths", "_law_careful", "_law_most"] (conc K A_lbodyC) := ok_lbodyC T
  have G_law_ways : FnOk P w K mg base CX0 4 a.law_ways d.law_ways ["_law_body_here", "_law_rows_here", "_law_lookups"] (conc K A_law_ways) := ok_law_ways T
  have G_ways : FnOk P w K mg base CX0 4 a.ways d.ways ["body", "rows", "lookups"] (conc K (A_ways K)) := ok_ways T
  have G_law_is_dict : FnOk P w K mg base CX0 2 a.law_is_dict d.law_is_dict ["_law_actual", "_law_expected"] (conc K A_is_dict) := ok_law_is_dict T
  have G_head_row : FnOk P w K mg base CX0 2 a.head_row d.head_row ["terms", "values"] (conc K A_head) := ok_head_row T
  refine ab_okG T.F_law sc_law (fun ss M Q ⟨sc, ns, e, _⟩ => by subst e; rfl) fun cdv Ar outer s H E hgu hr => ?_
  have hu64 := hr.units
  have hu65 := room65 hr
  refine ⟨_, (pss_cons (ps_set (i := 1) sc_law.nd rfl (Or.inl rfl) (pe_lst (pa_cons (pe_callTy (r := rListS K) call_list_of (by rfl) T.n_list (by decide +kernel) (pa_cons (pv 0) pa_nil)) (pa_cons pe_int (pa_cons pe_int (pa_cons pe_int pa_nil))))))
  (pss_cons (ps_set (i := 2) sc_law.nd rfl (Or.inl rfl) (pe_disp (pps_cons pe_str pe_int (pps_cons pe_str pe_int (pps_cons pe_str pe_int pps_nil))) (by rfl) (by rfl) (fun z => by cases z) (by decide)))
  (pss_cons (ps_for PassesOwn.never rfl (pi_range1 rfl T.n_range (pa_cons pe_int pa_nil)) (pg_name (i := 3) sc_law.nd rfl (Or.inl rfl)) (pss_cons (ps_set (i := 4) sc_law.nd rfl (Or.inl rfl) (pe_call G_law_rows (hr.mono (by omega)) (by rfl) T.g_law_rows T.F_law_rows.kp T.b_law_rows .nil pass0 (pa_cons (pv 1) (pa_cons (pv 2) pa_nil))))
  (pss_cons (ps_set (i := 5) sc_law.nd rfl (Or.inl rfl) (pe_ix (r := rIxL K) ix_list (pe_lst (pa_cons (pv 4) (pa_cons (pe_call G_law_rows (hr.mono (by omega)) (by rfl) T.g_law_rows T.F_law_rows.kp T.b_law_rows .nil pass0 (pa_cons (pv 1) (pa_cons (pv 2) pa_nil))) pa_nil))) (pe_call G_law_next (hr.mono (by omega)) (by rfl) T.g_law_next T.F_law_next.kp T.b_law_next .nil pass0 (pa_cons (pv 1) (pa_cons pe_int pa_nil))) (fun _ _ => rfl)))
  (pss_cons (ps_set (i := 6) sc_law.nd rfl (Or.inl rfl) (pe_call G_law_body (hr.mono (by omega)) (by rfl) T.g_law_body T.F_law_body.kp T.b_law_body .nil pass0 (pa_cons (pv 1) (pa_cons (pv 2) (pa_cons pe_bl (pa_cons pe_int pa_nil))))))
  (pss_cons (ps_set (i := 7) sc_law.nd rfl (Or.inl rfl) (pe_call G_law_ways (hr.mono (by omega)) (by rfl) T.g_law_ways T.F_law_ways.kp T.b_law_ways .nil pass0 (pa_cons (pv 6) (pa_cons (pv 4) (pa_cons (pv 5) pa_nil)))))
  (pss_cons (ps_set (i := 8) sc_law.nd rfl (Or.inl rfl) (pe_callB (r := rRepr K) (call_reprD hgu hu64) (by rfl) T.n_repr (by decide +kernel) (pa_cons (pe_lst (pa_cons (pv 4) (pa_cons (pv 5) pa_nil))) pa_nil)))
  (pss_cons (ps_set (i := 9) sc_law.nd rfl (Or.inl rfl) (pe_call G_ways (hr.mono (by omega)) (by rfl) T.g_ways T.F_ways.kp T.b_ways .nil pass0 (pa_cons (pv 6) (pa_cons (pv 4) (pa_cons (pv 5) pa_nil)))))
  (pss_cons (ps_if (PW.pt (pw_or (pt_not (pt_val (pe_callB (r := rIsi K) call_isi (by rfl) T.n_isinstance (by decide +kernel) (pa_cons (pv 9) (pa_cons (pe_bltn (v := .ty "list") (u := .type "list") (by rfl) T.n_list (by decide +kernel) rfl) pa_nil))))) (pw_or (pt_cmpR (r := rNeD K) (op_neD hu64) (pe_callB (r := rLenS K) call_len_seq (by rfl) T.n_len PySem.boot_len (pa_cons (pv 9) pa_nil)) (pe_callB (r := rLenS K) call_len_seq (by rfl) T.n_len PySem.boot_len (pa_cons (pv 7) pa_nil)) (nomark _)) (pw_or1 (pt_cmpR (r := rNe) op_ne (pe_callB (r := rRepr K) (call_reprD hgu hu64) (by rfl) T.n_repr (by decide +kernel) (pa_cons (pe_lst (pa_cons (pv 4) (pa_cons (pv 5) pa_nil))) pa_nil)) (pv 8) (nomark _)))))) (pss_one (ps_ret pe_bl)) pss_nil)
  (pss_cons (ps_for PassesOwn.never rfl (pi_range1 rfl T.n_range (pa_cons (pe_callB (r := rLenS K) call_len_seq (by rfl) T.n_len PySem.boot_len (pa_cons (pv 7) pa_nil)) pa_nil)) (pg_name (i := 10) sc_law.nd rfl (Or.inl rfl)) (pss_cons (ps_if (PW.pt (pw_or (pt_not (pt_val (pe_callB (r := rIsi K) call_isi (by rfl) T.n_isinstance (by decide +kernel) (pa_cons (pe_ix (r := rIxL K) ix_list (pv 9) (pv 10) (fun _ _ => rfl)) (pa_cons (pe_bltn (v := .ty "tuple") (u := .type "tuple") (by rfl) T.n_tuple (by decide +kernel) rfl) pa_nil))))) (pw_or (pt_cmpR (r := rNeD K) (op_neD hu64) (pe_callB (r := rLenS K) call_len_seq (by rfl) T.n_len PySem.boot_len (pa_cons (pe_ix (r := rIxL K) ix_list (pv 9) (pv 10) (fun _ _ => rfl)) pa_nil)) pe_int (nomark _)) (pw_or1 (pt_not (pt_val (pe_call G_law_is_dict (hr.mono (by omega)) (by rfl) T.g_law_is_dict T.F_law_is_dict.kp T.b_law_is_dict .nil pass0 (pa_cons (pe_ix (r := rIxT K) ix_tup (pe_ix (r := rIxL K) ix_list (pv 9) (pv 10) (fun _ _ => rfl)) pe_int (fun _ _ => rfl)) (pa_cons (pe_ix (r := rIxT K) ix_tup (pe_ix (r := rIxL K) ix_list (pv 7) (pv 10) (fun _ _ => rfl)) pe_int (fun _ _ => rfl)) pa_nil))))))))) (pss_one (ps_ret pe_bl)) pss_nil)
  (pss_one (ps_if (pt_not (pt_val (pe_call G_law_same (hr.mono (by omega)) (by rfl) T.g_law_same T.F_law_same.kp T.b_law_same .nil pass0 (pa_cons (pe_ix (r := rIxT K) ix_tup (pe_ix (r := rIxL K) ix_list (pv 9) (pv 10) (fun _ _ => rfl)) pe_int (fun _ _ => rfl)) (pa_cons (pe_ix (r := rIxT K) ix_tup (pe_ix (r := rIxL K) ix_list (pv 7) (pv 10) (fun _ _ => rfl)) pe_int (fun _ _ => rfl)) pa_nil))))) (pss_one (ps_ret pe_bl)) pss_nil))))
  (pss_one (ps_for PassesOwn.never rfl (pi_list (pe_slice (r := rSlL K) sl_list (pv 7) po_none (po_some pe_int))) (pg_tupK (K := K) (n := 2) rfl rfl (pgs_cons (pg_name (i := 11) sc_law.nd rfl (Or.inr rfl)) (pgs_cons (pg_name (i := 12) sc_law.nd rfl (Or.inl rfl)) pgs_nil))) (pss_cons (ps_set (i := 13) sc_law.nd rfl (Or.inl rfl) (pe_op (r := rCatL K) op_catL (pe_lc (own := [("_law_name", 14)]) rfl sc_law.nd (pi_list (pe_callB (r := rSortedS K) cr_sortedS (by rfl) T.n_sorted (by decide +kernel) (pa_cons (pe_callTy (r := rListDk) (call_listD rfl) (by rfl) T.n_list (by decide +kernel) (pa_cons (pv 11) pa_nil)) pa_nil))) (blkOk_by (own := [("_law_name", 14)]) (N := ["_law_script", "_law_state", "_law_widths", "_law_k", "_law_rows_here", "_law_lookups", "_law_body_here", "_law_due", "_law_before", "_law_told", "_law_j", "_law_way", "_law_taken", "_law_terms", "_law_name", "_law_row"]) (sc := (defScope s_law)) (by decide +kernel)) (fun _ _ _ _ _ => (pg_name (i := 14) sc_law.nd rfl (Or.inl rfl))) (fun _ _ _ _ _ => pts_nil) (fun _ _ _ _ _ => (pe_tup (pa_cons pe_str (pa_cons (pv 14) pa_nil))))) (pe_lst (pa_cons (pe_tup (pa_cons pe_str (pa_cons (pe_call G_law_worth (hr.mono (by omega)) (by rfl) T.g_law_worth T.F_law_worth.kp T.b_law_worth .nil pass0 (pa_cons (pv 1) pa_nil)) pa_nil))) pa_nil))))
  (pss_cons (ps_set (i := 15) sc_law.nd rfl (Or.inl rfl) (pe_op (r := rCatA K) op_catA (pe_callTy (r := rTupS K) call_tuple_of (by rfl) T.n_tuple (by decide +kernel) (pa_cons (pe_lc (own := [("_law_name", 14)]) rfl sc_law.nd (pi_list (pe_callB (r := rSortedS K) cr_sortedS (by rfl) T.n_sorted (by decide +kernel) (pa_cons (pe_callTy (r := rListDk) (call_listD rfl) (by rfl) T.n_list (by decide +kernel) (pa_cons (pv 11) pa_nil)) pa_nil))) (blkOk_by (own := [("_law_name", 14)]) (N := ["_law_script", "_law_state", "_law_widths", "_law_k", "_law_rows_here", "_law_lookups", "_law_body_here", "_law_due", "_law_before", "_law_told", "_law_j", "_law_way", "_law_taken", "_law_terms", "_law_name", "_law_row"]) (sc := (defScope s_law)) (by decide +kernel)) (fun _ _ _ _ _ => (pg_name (i := 14) sc_law.nd rfl (Or.inl rfl))) (fun _ _ _ _ _ => pts_nil) (fun _ _ _ _ _ => (pe_dget (hu1 hu64) (pv 11) (pv 14) (fun _ _ => rfl)))) pa_nil)) (pe_tup (pa_cons (pe_ix (r := rIxT K) ix_tup (pe_ix (r := rIxL K) ix_list (pv 13) (pe_op op_sub (pe_callB (r := rLenS K) call_len_seq (by rfl) T.n_len PySem.boot_len (pa_cons (pv 13) pa_nil)) pe_int) (fun _ _ => rfl)) pe_int (fun _ _ => rfl)) pa_nil))))
  (pss_one (ps_if (pt_not (pt_val (pe_call G_law_same (hr.mono (by omega)) (by rfl) T.g_law_same T.F_law_same.kp T.b_law_same .nil pass0 (pa_cons (pe_call G_head_row (hr.mono (by omega)) (by rfl) T.g_head_row T.F_head_row.kp T.b_head_row .nil pass0 (pa_cons (pe_callTy (r := rTupS K) call_tuple_of (by rfl) T.n_tuple (by decide +kernel) (pa_cons (pv 13) pa_nil)) (pa_cons (pv 11) pa_nil))) (pa_cons (pv 15) pa_nil))))) (pss_one (ps_ret pe_bl)) pss_nil)))))))))))))))
  (pss_one (ps_ret pe_bl))))), ?_⟩
  rintro ss M Q ⟨sc, ns, rfl, hl, hb, hs, q⟩
  walk_at "k"
  show WS K _ [some sc, none, none, none, none, none, none, none, none, none, none, none, none, none, none, none] M _
  refine ws_seq (ws_set (w_lstM ?_))
  walk_at "g"
  refine wl_list (.inl (hs M)) ?_
  walk_at "g"
  intro p hp
  have hD : DrawL [.dat (.list (ns.map .int)), .int 0, .int 0, .int 1] := ⟨ns, 0, 0, 1, rfl, by decide⟩
  refine ws_seq (ws_set (w_disp fun g hg => wps_cons (w_str (w_int (wps_cons (w_str (w_int (wps_cons (w_str (w_int (wps_nil ⟨um_same, [(.inr "p", .int 2), (.inr "q", .int 1), (.inr "r", .int 3)], rfl, by simp, ?_⟩)))))))))))
  rw [um_um]
  have em : mergeG [] [((.inr "p" : Key), Sl.int 2), (.inr "q", .int 1), (.inr "r", .int 3)] = kvW WsL := by kernel_rfl
  rw [em]
  have pg : p ≠ g := fun z => by rw [z, um_same] at hg; cases hg
  refine ws_seq (ws_forRn (wa_cons (w_int (wa_nil ⟨2, rfl, by decide, by decide, fun i ρ' N => ∃ z3 z4 z5 z6 z7 z8 z9 z10 z11 z12 z13 z14 z15 ys, ρ' = [some sc, some (.raw (.ref p)), some (.raw (.ref g)), z3, z4, z5, z6, z7, z8, z9, z10, z11, z12, z13, z14, z15] ∧ N p = some (.lst ys) ∧ DrawL ys ∧ N g = some (.dK (kvW WsL)), ⟨_, _, _, _, _, _, _, _, _, _, _, _, _, _, rfl, by rw [um_ne pg, um_same], hD, um_same⟩, fun i ρ' N hi hJ => ?_, fun ρ' N hJ => ?_⟩))))
  rotate_left
  · obtain ⟨_, _, _, _, _, _, _, _, _, _, _, _, _, _, rfl, _⟩ := hJ
    exact ws_ret (w_bl (q _))
  obtain ⟨z3, z4, z5, z6, z7, z8, z9, z10, z11, z12, z13, z14, z15, ys, rfl, hM1, hD1, hW1⟩ := hJ
  refine wg_name ?_
  refine ws_seq (ws_set (w_call (wa_cons (w_var rfl (wa_cons (w_var rfl (wa_nil ⟨p, g, ys, WsL, rfl, hM1, hD1, hW1, okWsL, ndWsL, fun rw' zs hrw hD2 => ?_⟩)))))))
  have hM2 : Ab.um N p (.lst zs) p = some (.lst zs) := um_same
  have hW2 : Ab.um N p (.lst zs) g = some (.dK (kvW WsL)) := by rw [um_ne pg.symm]; exact hW1
  generalize Ab.um N p (.lst zs) = N2 at hM2 hW2 ⊢
  clear hM1 hD1 hW1
  refine ws_seq (ws_set (w_op (w_lstD (wa_cons (w_var rfl (wa_cons (w_call (wa_cons (w_var rfl (wa_cons (w_var rfl (wa_nil ⟨p, g, zs, WsL, rfl, hM2, hD2, hW2, okWsL, ndWsL, fun rw2 us hrw2 hD3 => ?_⟩))))))))))))
  have hM3 : Ab.um N2 p (.lst us) p = some (.lst us) := um_same
  have hW3 : Ab.um N2 p (.lst us) g = some (.dK (kvW WsL)) := by rw [um_ne pg.symm]; exact hW2
  generalize Ab.um N2 p (.lst us) = N3 at hM3 hW3 ⊢
  clear hM2 hD2 hW2
  refine wa_nil ⟨_, rfl, by simp, w_call (wa_cons (w_var rfl (wa_cons (w_int (wa_nil ⟨p, 2, us, rfl, hM3, hD3, by decide, by decide, fun v vs v0 v1 hD4 => ?_⟩)))))⟩
  have hM4 : Ab.um N3 p (.lst vs) p = some (.lst vs) := um_same
  have hW4 : Ab.um N3 p (.lst vs) g = some (.dK (kvW WsL)) := by rw [um_ne pg.symm]; exact hW3
  generalize Ab.um N3 p (.lst vs) = N4 at hM4 hW4 ⊢
  clear hM3 hD3 hW3
  refine w2_ixAny v0 (by simp; omega) fun dl hdl => ?_
  obtain ⟨lw, rfl, hlw⟩ : ∃ lw, dl = encD encRs lw ∧ RwOk WsL lw := by
    simp only [List.mem_cons, List.not_mem_nil, or_false] at hdl
    rcases hdl with rfl | rfl
    · exact ⟨rw', rfl, hrw⟩
    · exact ⟨rw2, rfl, hrw2⟩
  show WS K _ [some sc, some (.raw (.ref p)), some (.raw (.ref g)), some (.int (i : Int)), some (.dat (encD encRs rw')), some (.dat (encD encRs lw)), z6, z7, z8, z9, z10, z11, z12, z13, z14, z15] _ _
  refine ws_seq (ws_set (w_call (wa_cons (w_var rfl (wa_cons (w_var rfl (wa_cons (w_bl (wa_cons (w_int (wa_nil ⟨p, g, vs, WsL, 6, rfl, hM4, hD4, hW4, okWsL, by decide, by decide, fun body ws hbo hbl hbK hbw hb3 hD5 => ?_⟩)))))))))))
  have hM5 : Ab.um N4 p (.lst ws) p = some (.lst ws) := um_same
  have hW5 : Ab.um N4 p (.lst ws) g = some (.dK (kvW WsL)) := by rw [um_ne pg.symm]; exact hW4
  generalize Ab.um N4 p (.lst ws) = N5 at hM5 hW5 ⊢
  clear hM4 hD4 hW4
  have hbl6 : body.length ≤ 6 := by omega
  have pw6 : 100 * 2 ^ body.length ≤ 6400 := Nat.le_trans (Nat.mul_le_mul_left 100 (Nat.pow_le_pow_right (by decide) hbl6)) (by decide)
  have bR := hrw.b
  have bL := hlw.b
  have hlB : ∀ l ∈ body, litB 100 l := fun l hl => litB_of (hbo.2 l hl) (hbw l hl) fun p hp => Int.le_trans (smWsL p hp) (by decide)
  have hlk : ∀ l ∈ body, lkL rw' lw l := fun l hl => hrw.lkL hlw (hbw l hl)
  have hn : ∀ b : List Lit, factsN b ≤ 3 → (waysF (rowsW rw') (rowsW lw) b).length ≤ 125 := fun b hb => Nat.le_trans (waysF_len (by decide) hrw.len b) (Nat.le_trans (Nat.pow_le_pow_right (by decide) hb) (by decide))
  have hnn : ∀ i, i ≤ body.length → (waysF (rowsW rw') (rowsW lw) (body.take i)).length ≤ 1000000 := fun i _ => Nat.le_trans (hn _ (Nat.le_trans (factsN_take body i) hb3)) (by decide)
  have hdue := hn body hb3
  obtain ⟨kk, hwy⟩ := ways_all (b := 100) (R := rowsW rw') (L := rowsW lw) (by decide) bR bL (post := body) (pre := []) (k := []) (fun q hq => by
    rw [List.mem_singleton.mp hq]
    exact ⟨⟨fun _ h => nomatch h⟩, Nat.zero_le _, fun _ h => (nomatch h), Nat.le_refl _, fun _ h => nomatch h⟩) hbK hlB
  have hwl := ways_wlen (R := rowsW rw') (L := rowsW lw) smWsL hbw
  rw [List.nil_append] at hwy
  refine ws_seq (ws_set (w_call (wa_cons (w_var rfl (wa_cons (w_var rfl (wa_cons (w_var rfl (wa_nil ⟨body, rw', lw, 100, rfl, bR, bL, by decide, by omega, hlB, hlk, hbK, hnn, ?_⟩)))))))))
  have hsh : (PyData.list [encD encRs rw', encD encRs lw]).showable = true ∧ (PyData.list [encD encRs rw', encD encRs lw]).depth ≤ 60 ∧ (PyData.list [encD encRs rw', encD encRs lw]).shown.length ≤ sizeLine := (shw_list (c := 2) (m := 4731) (n := 3) (fun d hd => by
    simp only [List.mem_cons, List.not_mem_nil, or_false] at hd
    rcases hd with rfl | rfl
    · exact hrw.shw okWsL smWsL (by decide)
    · exact hlw.shw okWsL smWsL (by decide)) (by simp)).fits (by decide) (by decide)
  have rep : ∀ {Q2 : Sl → MH → Prop} {N : MH}, Q2 (.dat (.str (PyData.list [encD encRs rw', encD encRs lw]).shown)) N → WL K (rRepr K) [.dat (.list [encD encRs rw', encD encRs lw])] N Q2 := fun {Q2 N} q2 => wl_repr (.inl ⟨_, rfl⟩) hsh.1 hsh.2.1 hsh.2.2 q2
  generalize (PyData.list [encD encRs rw', encD encRs lw]).shown = before at rep
  refine ws_seq (ws_set ?_)
  walk_at "f"
  refine rep ?_
  show WS K _ [some sc, some (.raw (.ref p)), some (.raw (.ref g)), some (.int (i : Int)), some (.dat (encD encRs rw')), some (.dat (encD encRs lw)), some (.dat (encB body)), some (.dat (.list ((waysF (rowsW rw') (rowsW lw) body).map encWy))), some (.dat (.str before)), z9, z10, z11, z12, z13, z14, z15] _ _
  refine ws_seq (ws_set (w_call (wa_cons (w_var rfl (wa_cons (w_var rfl (wa_cons (w_var rfl (wa_nil ⟨body, _, _, rowsW rw', rowsW lw, 100, rfl, rowsV_data rw', rowsV_data lw, bR, bL, by decide, by omega, hlB, hbK, hnn, fun N6 pt hpt hT ext => ?_⟩)))))))))
  have hM6 := ext _ _ hM5
  have hW6 := ext _ _ hW5
  clear hM5 hW5 ext hpt N5
  generalize waysF (rowsW rw') (rowsW lw) body = due at hdue hwy hwl hT ⊢
  show WS K _ [some sc, some (.raw (.ref p)), some (.raw (.ref g)), some (.int (i : Int)), some (.dat (encD encRs rw')), some (.dat (encD encRs lw)), some (.dat (encB body)), some (.dat (.list (due.map encWy))), some (.dat (.str before)), some (.raw (.ref pt)), z10, z11, z12, z13, z14, z15] _ _
  refine ws_mid (fun ρ' N' => ρ' = [some sc, some (.raw (.ref p)), some (.raw (.ref g)), some (.int (i : Int)), some (.dat (encD encRs rw')), some (.dat (encD encRs lw)), some (.dat (encB body)), some (.dat (.list (due.map encWy))), some (.dat (.str before)), some (.raw (.ref pt)), z10, z11, z12, z13, z14, z15] ∧ N' = N6) ?_ ?_
  · refine ws_if ?_
    walk_at "f"
    refine wl_isiL hT (b := true) (by decide +kernel) ?_
    walk_at "f"
    rw [if_neg (by simp)]
    walk_at "f"
    refine rep ?_
    walk_at "f"
    refine w2_neT ⟨_, rfl, ?_⟩
    rw [if_neg (by simp)]
    exact ws_next ⟨rfl, rfl⟩
  rintro ρ' N' ⟨rfl, rfl⟩
  have bi1 : 100 ≤ 100 * 2 ^ body.length := Nat.le_mul_of_pos_right 100 (Nat.two_pow_pos _)
  have wlen : ∀ {q}, q ∈ due → q.1.length ≤ 18 := fun {q} hq => by have := hwl q hq; omega
  refine ws_mid (fun ρ' N6 => ∃ z10, ρ' = [some sc, some (.raw (.ref p)), some (.raw (.ref g)), some (.int (i : Int)), some (.dat (encD encRs rw')), some (.dat (encD encRs lw)), some (.dat (encB body)), some (.dat (.list (due.map encWy))), some (.dat (.str before)), some (.raw (.ref pt)), z10, z11, z12, z13, z14, z15] ∧ N6 = N') ?_ ?_
  · refine ws_forRn ?_
    walk_at "f"
    refine ⟨(due.length : Int), rfl, by omega, by omega, fun j ρ' N6 => ∃ z10, ρ' = [some sc, some (.raw (.ref p)), some (.raw (.ref g)), some (.int (i : Int)), some (.dat (encD encRs rw')), some (.dat (encD encRs lw)), some (.dat (encB body)), some (.dat (.list (due.map encWy))), some (.dat (.str before)), some (.raw (.ref pt)), z10, z11, z12, z13, z14, z15] ∧ N6 = N', ⟨_, rfl, rfl⟩, fun j ρ' N6 hj hJ => ?_, fun ρ' N6 h => h⟩
    obtain ⟨z10, rfl, rfl⟩ := hJ
    have hj' : j < due.length := by omega
    have a1 : atI (due.map fun p => Sl.dat (encWy p)) (j : Int) = some (.dat (encWy due[j])) := atI_nat (by rw [List.getElem?_map, List.getElem?_eq_getElem hj']; rfl)
    have a2 : atI ((due.map encWy).map Sl.dat) (j : Int) = some (.dat (encWy due[j])) := atI_nat (by rw [List.map_map, List.getElem?_map, List.getElem?_eq_getElem hj']; rfl)
    have wo := hwy _ (List.getElem_mem hj')
    have wl := wlen (List.getElem_mem hj')
    generalize due[j] = x at a1 a2 wo wl
    obtain ⟨w, tk⟩ := x
    refine wg_name ?_
    refine ws_seq (ws_if ?_)
    walk_at "f"
    case hx => exact a1
    walk_at "f"
    case hx => exact a1
    walk_at "f"
    case hx => exact a1
    walk_at "f"
    case hx => exact a2
    walk_at "f"
    refine ⟨w, _, rfl, wo.wb, by dsimp only at wl; omega, ?_⟩
    walk_at "f"
    case hx => exact a1
    walk_at "f"
    case hx => exact a2
    walk_at "f"
    have okt : okD 2 (encTk tk) = true := okTk (n := 0) (by have := wo.t; dsimp only at this; omega) wo.r
    refine ⟨encTk tk, encTk tk, rfl, okt, okt, tpd_tk _, tpd_tk _, ?_⟩
    rw [eqv_tk, decide_eq_true rfl]
    walk_at "f"
    exact ⟨_, rfl, rfl⟩
  rintro ρ' N6 ⟨z10, rfl, rfl⟩
  refine ws_forL (xs := due.take 5) (enc := encWy) (M1 := N6) (w_sl (w_var rfl (wo_none (wo_some (w_int ⟨5, rfl, wsl_lst lsv_dat (by rw [cutG_hi _ (by decide)]; exact ⟨by rw [← List.map_take]; rfl, rfl⟩)⟩))))) (fun pre ρ' N => ∃ z11 z12 z13 z14 z15 ys, ρ' = [some sc, some (.raw (.ref p)), some (.raw (.ref g)), some (.int (i : Int)), some (.dat (encD encRs rw')), some (.dat (encD encRs lw)), some (.dat (encB body)), some (.dat (.list (due.map encWy))), some (.dat (.str before)), some (.raw (.ref pt)), z10, z11, z12, z13, z14, z15] ∧ N p = some (.lst ys) ∧ DrawL ys ∧ N g = some (.dK (kvW WsL))) ⟨_, _, _, _, _, ws, rfl, hM6, hD5, hW6⟩ ?_ ?_
  · rintro pre x post ρ' N hx ⟨z11, z12, z13, z14, z15, ys, rfl, hM7, hD7, hW7⟩
    have hxm : x ∈ due := List.mem_of_mem_take (show x ∈ due.take 5 by rw [hx]; simp)
    have wo := hwy _ hxm
    have wl := wlen hxm
    obtain ⟨w, tk⟩ := x
    dsimp only at wl
    have kl : (w.map (·.1)).length < 64 := by rw [List.length_map]; omega
    have sl : (sortT (w.map (·.1))).length ≤ 18 := by rw [sortT_len, List.length_map]; exact wl
    have has : ∀ z ∈ sortT (w.map (·.1)), ∃ v, valG w z = some v ∧ goodS z = true := fun z hz => by
      obtain ⟨v, hv⟩ := valG_of (sortT_mem.mp hz)
      exact ⟨v, hv, (wo.wb.g _ (valG_mem hv)).1⟩
    generalize hks : sortT (w.map (·.1)) = ks at sl has
    refine wg_tup (ds := [encW w, encTk tk]) rfl rfl (wgs_cons (wg_name (wgs_cons (wg_name (wgs_nil ?_)))))
    refine ws_seq (ws_set (w_op ?_))
    refine w_lcD (xs := ks) (enc := PyData.str) (M1 := N) (by decide) (w_sortedLN (w_var rfl ⟨dcv_encD, slD_keys, kl, by rw [hks], rfl⟩)) (by omega) (fun z => (Term.variable z).enc) (fun z D o hz hD => w_tupD (wa_cons (w_str (wa_cons (w_var rfl (wa_nil ⟨_, rfl, by simp, rfl, rfl⟩)))))) ?_
    refine w_lstD (wa_cons (w_tupD (wa_cons (w_str (wa_cons (w_call (wa_cons (w_var rfl (wa_nil ?_)))))))))
    refine ⟨p, ys, [], rfl, rfl, hM7, hD7, fun d zs hd hD8 => ?_⟩
    obtain ⟨u, rfl, hu⟩ := isVal_of hd
    have hM8 : Ab.um N p (.lst zs) p = some (.lst zs) := um_same
    have hW8 : Ab.um N p (.lst zs) g = some (.dK (kvW WsL)) := by rw [um_ne pg.symm]; exact hW7
    generalize Ab.um N p (.lst zs) = N8 at hM8 hW8 ⊢
    refine wa_nil ⟨_, rfl, by simp, wa_nil ⟨_, rfl, by simp, ?_⟩⟩
    refine w2_cat (ds := ks.map fun z => (Term.variable z).enc) (es := [(Term.value u).enc]) lsv_dat lsv_dat (by rw [List.length_map]; simp; omega) ?_
    have et : (ks.map fun z => (Term.variable z).enc) ++ [(Term.value u).enc] = (ks.map Term.variable ++ [Term.value u]).map Term.enc := by
      rw [List.map_append, List.map_map]; rfl
    rw [et]
    have tl : (ks.map Term.variable ++ [Term.value u]).length = ks.length + 1 := by rw [List.length_append, List.length_map]; rfl
    have last : atI (((ks.map Term.variable ++ [Term.value u]).map Term.enc).map Sl.dat) ((((ks.map Term.variable ++ [Term.value u]).map Term.enc).length : Int) - 1) = some (.dat (Term.value u).enc) := by
      rw [List.length_map, tl, show ((ks.length + 1 : Nat) : Int) - 1 = (ks.length : Int) by omega]
      refine atI_nat ?_
      rw [List.map_map, List.getElem?_map, List.getElem?_append_right (by rw [List.length_map]; exact Nat.le_refl _), List.length_map, Nat.sub_self]
      rfl
    have hts : ∀ t ∈ ks.map Term.variable ++ [Term.value u], hasT w t ∧ termB (100 * 2 ^ body.length) t := fun t ht => by
      rcases List.mem_append.mp ht with h | h
      · obtain ⟨z, hz, rfl⟩ := List.mem_map.mp h
        obtain ⟨v, hv, gz⟩ := has z hz
        exact ⟨List.mem_map_of_mem (valG_mem hv), gz⟩
      · rw [List.mem_singleton.mp h]
        exact ⟨trivial, vb_mono bi1 (val_vb hu)⟩
    have hrow : PyData.tuple ((ks.map fun z => (valF w (.variable z)).enc) ++ [u.enc]) = encR (headF (ks.map Term.variable ++ [Term.value u]) w) := by
      unfold headF
      show _ = PyData.tuple _
      rw [List.map_append, List.map_append, List.map_map, List.map_map]
      rfl
    have hrb : rowB (100 * 2 ^ body.length) (headF (ks.map Term.variable ++ [Term.value u]) w) := ⟨by unfold headF; rw [List.length_map, tl]; omega, fun v hv => by
      obtain ⟨t, ht, rfl⟩ := List.mem_map.mp hv
      exact valF_vb wo.wb (hts t ht).2 (hts t ht).1⟩
    generalize hT2 : ks.map Term.variable ++ [Term.value u] = ts at last hts hrow hrb tl
    have last : atI ((ts.map Term.enc).map Sl.dat) ((ts.length : Int) - 1) = some (.dat (.tuple [.str "value", u.enc])) := by rw [List.length_map] at last; exact last
    refine ws_seq (ws_set (w_op (w_cb (wa_cons ?_))))
    refine w_lcD (xs := ks) (enc := PyData.str) (M1 := N8) (by decide) (w_sortedLN (w_var rfl ⟨dcv_encD, slD_keys, kl, by rw [hks], rfl⟩)) (by omega) (fun z => (valF w (.variable z)).enc) (fun z D o hz hD => ?_) ?_
    · obtain ⟨v, hv, gz⟩ := has z hz
      refine w_getE (w_var rfl (w_var rfl ⟨_, Val.enc, w, z, v, rfl, rfl, hv, ?_, rfl⟩))
      show _ = Sl.dat (((valG w z).getD (.int 0)).enc)
      rw [hv]
      rfl
    refine wa_nil (wl_tuple lsv_dat ?_)
    walk_at "f"
    case hx => exact last
    walk_at "f"
    rw [hrow]
    walk_at "f"
    refine ⟨ts, w, _, rfl, by omega, hts, ?_⟩
    walk_at "f"
    refine ⟨_, _, rfl, okRw (n := 1) hrb, okRw (n := 1) hrb, tpd_row _, tpd_row _, ?_⟩
    rw [eqv_row, decide_eq_true rfl]
    walk_at "f"
    exact ⟨_, _, _, _, _, zs, rfl, hM8, hD8, hW8⟩
  · rintro ρ' N ⟨z11, z12, z13, z14, z15, ys, rfl, hM7, hD7, hW7⟩
    exact ⟨_, _, _, _, _, _, _, _, _, _, _, _, _, ys, rfl, hM7, hD7, hW7⟩
end
end
section
theorem all_mk {l : PySem.W.OpenLaw} {w : World} {K : PySem.W.Frag} {h : Heap} {mg : Str → Option Value} {fa    : Addr} (X : K.In h) (G : h.Ns mainGlobals mg) (hfa : mg "law" = some (.ref fa))
    (p0 : Ab.FnG K "value_key" s_value_key)
    (p1 : Ab.FnG K "is_integer" s_is_integer)
    (p2 : Ab.FnG K "met" s_met)
    (p3 : Ab.FnG K "value_of" s_value_of)
    (p4 : Ab.FnG K "compares" s_compares)
    (p5 : Ab.FnG K "reckoned" s_reckoned)
    (p6 : Ab.FnG K "bound" s_bound)
    (p7 : Ab.FnG K "count_of" s_count_of)
    (p8 : Ab.FnG K "tested" s_tested)
    (p9 : Ab.FnG K "ways" s_ways)
    (p10 : Ab.FnG K "head_row" s_head_row)
    (p11 : Ab.FnG K "_law_next" s_law_next)
    (p12 : Ab.FnG K "_law_same" s_law_same)
    (p13 : Ab.FnG K "_law_worth" s_law_worth)
    (p14 : Ab.FnG K "_law_variable" s_law_variable)
    (p15 : Ab.FnG K "_law_term" s_law_term)
    (p16 : Ab.FnG K "_law_settled" s_law_settled)
    (p17 : Ab.FnG K "_law_literal" s_law_literal)
    (p18 : Ab.FnG K "_law_binds" s_law_binds)
    (p19 : Ab.FnG K "_law_body" s_law_body)
    (p20 : Ab.FnG K "_law_rank" s_law_rank)
    (p21 : Ab.FnG K "_law_met" s_law_met)
    (p22 : Ab.FnG K "_law_of" s_law_of)
    (p23 : Ab.FnG K "_law_compared" s_law_compared)
    (p24 : Ab.FnG K "_law_goes_on" s_law_goes_on)
    (p25 : Ab.FnG K "_law_ways" s_law_ways)
    (p26 : Ab.FnG K "_law_rows" s_law_rows)
    (p27 : Ab.FnG K "_law_is_dict" s_law_is_dict)
    (p28 : Ab.FnG K "law" s_law)
    (z0 : PySem.W.nsIn K mainGlobals "bool" = some none)
    (z1 : PySem.W.nsIn K mainGlobals "dict" = some none)
    (z2 : PySem.W.nsIn K mainGlobals "int" = some none)
    (z3 : PySem.W.nsIn K mainGlobals "isinstance" = some none)
    (z4 : PySem.W.nsIn K mainGlobals "len" = some none)
    (z5 : PySem.W.nsIn K mainGlobals "list" = some none)
    (z6 : PySem.W.nsIn K mainGlobals "range" = some none)
    (z7 : PySem.W.nsIn K mainGlobals "repr" = some none)
    (z8 : PySem.W.nsIn K mainGlobals "sorted" = some none)
    (z9 : PySem.W.nsIn K mainGlobals "str" = some none)
    (z10 : PySem.W.nsIn K mainGlobals "tuple" = some none)
    (z11 : PySem.W.nsIn K mainGlobals "zip" = some none)
    : ∃ fd : FuncData, (∀ (s : Shared) (v : Value), BindsTo s fd ⟨[v], []⟩ [("_law_script", v)]) ∧ ∀ base : Heap, K.In base → base.Ns mainGlobals mg → Ab.FnU l.prog w K mg base 6 fa fd ["_law_script"] (Ab.scriptA K) := by
  obtain ⟨f0, oc0, od0, kV0, dc0, pm0, cd0, ct0, an0, sl0, a0, l0, c_0, k0⟩ := p0
  obtain ⟨f1, oc1, od1, kV1, dc1, pm1, cd1, ct1, an1, sl1, a1, l1, c_1, k1⟩ := p1
  obtain ⟨f2, oc2, od2, kV2, dc2, pm2, cd2, ct2, an2, sl2, a2, l2, c_2, k2⟩ := p2
  obtain ⟨f3, oc3, od3, kV3, dc3, pm3, cd3, ct3, an3, sl3, a3, l3, c_3, k3⟩ := p3
  obtain ⟨f4, oc4, od4, kV4, dc4, pm4, cd4, ct4, an4, sl4, a4, l4, c_4, k4⟩ := p4
  obtain ⟨f5, oc5, od5, kV5, dc5, pm5, cd5, ct5, an5, sl5, a5, l5, c_5, k5⟩ := p5
  obtain ⟨f6, oc6, od6, kV6, dc6, pm6, cd6, ct6, an6, sl6, a6, l6, c_6, k6⟩ := p6
  obtain ⟨f7, oc7, od7, kV7, dc7, pm7, cd7, ct7, an7, sl7, a7, l7, c_7, k7⟩ := p7
  obtain ⟨f8, oc8, od8, kV8, dc8, pm8, cd8, ct8, an8, sl8, a8, l8, c_8, k8⟩ := p8
  obtain ⟨f9, oc9, od9, kV9, dc9, pm9, cd9, ct9, an9, sl9, a9, l9, c_9, k9⟩ := p9
  obtain ⟨f10, oc10, od10, kV10, dc10, pm10, cd10, ct10, an10, sl10, a10, l10, c_10, k10⟩ := p10
  obtain ⟨f11, oc11, od11, kV11, dc11, pm11, cd11, ct11, an11, sl11, a11, l11, c_11, k11⟩ := p11
  obtain ⟨f12, oc12, od12, kV12, dc12, pm12, cd12, ct12, an12, sl12, a12, l12, c_12, k12⟩ := p12
  obtain ⟨f13, oc13, od13, kV13, dc13, pm13, cd13, ct13, an13, sl13, a13, l13, c_13, k13⟩ := p13
  obtain ⟨f14, oc14, od14, kV14, dc14, pm14, cd14, ct14, an14, sl14, a14, l14, c_14, k14⟩ := p14
  obtain ⟨f15, oc15, od15, kV15, dc15, pm15, cd15, ct15, an15, sl15, a15, l15, c_15, k15⟩ := p15
  obtain ⟨f16, oc16, od16, kV16, dc16, pm16, cd16, ct16, an16, sl16, a16, l16, c_16, k16⟩ := p16
  obtain ⟨f17, oc17, od17, kV17, dc17, pm17, cd17, ct17, an17, sl17, a17, l17, c_17, k17⟩ := p17
  obtain ⟨f18, oc18, od18, kV18, dc18, pm18, cd18, ct18, an18, sl18, a18, l18, c_18, k18⟩ := p18
  obtain ⟨f19, oc19, od19, kV19, dc19, pm19, cd19, ct19, an19, sl19, a19, l19, c_19, k19⟩ := p19
  obtain ⟨f20, oc20, od20, kV20, dc20, pm20, cd20, ct20, an20, sl20, a20, l20, c_20, k20⟩ := p20
  obtain ⟨f21, oc21, od21, kV21, dc21, pm21, cd21, ct21, an21, sl21, a21, l21, c_21, k21⟩ := p21
  obtain ⟨f22, oc22, od22, kV22, dc22, pm22, cd22, ct22, an22, sl22, a22, l22, c_22, k22⟩ := p22
  obtain ⟨f23, oc23, od23, kV23, dc23, pm23, cd23, ct23, an23, sl23, a23, l23, c_23, k23⟩ := p23
  obtain ⟨f24, oc24, od24, kV24, dc24, pm24, cd24, ct24, an24, sl24, a24, l24, c_24, k24⟩ := p24
  obtain ⟨f25, oc25, od25, kV25, dc25, pm25, cd25, ct25, an25, sl25, a25, l25, c_25, k25⟩ := p25
  obtain ⟨f26, oc26, od26, kV26, dc26, pm26, cd26, ct26, an26, sl26, a26, l26, c_26, k26⟩ := p26
  obtain ⟨f27, oc27, od27, kV27, dc27, pm27, cd27, ct27, an27, sl27, a27, l27, c_27, k27⟩ := p27
  obtain ⟨f28, oc28, od28, kV28, dc28, pm28, cd28, ct28, an28, sl28, a28, l28, c_28, k28⟩ := p28
  have e := hfa.symm.trans (PySem.W.mg_of X G a28)
  cases e
  have F0 := fun_mk (st := s_value_key) l0 c_0 k0
  have b0 := F0.binds (ps := ["value"]) fun _ _ _ _ _ _ us hl => match us, hl with | [_], _ => rfl
  have F1 := fun_mk (st := s_is_integer) l1 c_1 k1
  have b1 := F1.binds (ps := ["value"]) fun _ _ _ _ _ _ us hl => match us, hl with | [_], _ => rfl
  have F2 := fun_mk (st := s_met) l2 c_2 k2
  have b2 := F2.binds (ps := ["terms", "row", "values"]) fun _ _ _ _ _ _ us hl => match us, hl with | [_, _, _], _ => rfl
  have F3 := fun_mk (st := s_value_of) l3 c_3 k3
  have b3 := F3.binds (ps := ["term", "values"]) fun _ _ _ _ _ _ us hl => match us, hl with | [_, _], _ => rfl
  have F4 := fun_mk (st := s_compares) l4 c_4 k4
  have b4 := F4.binds (ps := ["operator", "first", "second"]) fun _ _ _ _ _ _ us hl => match us, hl with | [_, _, _], _ => rfl
  have F5 := fun_mk (st := s_reckoned) l5 c_5 k5
  have b5 := F5.binds (ps := ["operator", "first", "second"]) fun _ _ _ _ _ _ us hl => match us, hl with | [_, _, _], _ => rfl
  have F6 := fun_mk (st := s_bound) l6 c_6 k6
  have b6 := F6.binds (ps := ["variable", "value", "values"]) fun _ _ _ _ _ _ us hl => match us, hl with | [_, _, _], _ => rfl
  have F7 := fun_mk (st := s_count_of) l7 c_7 k7
  have b7 := F7.binds (ps := ["terms", "rows", "values"]) fun _ _ _ _ _ _ us hl => match us, hl with | [_, _, _], _ => rfl
  have F8 := fun_mk (st := s_tested) l8 c_8 k8
  have b8 := F8.binds (ps := ["literal", "lookups", "values"]) fun _ _ _ _ _ _ us hl => match us, hl with | [_, _, _], _ => rfl
  have F9 := fun_mk (st := s_ways) l9 c_9 k9
  have b9 := F9.binds (ps := ["body", "rows", "lookups"]) fun _ _ _ _ _ _ us hl => match us, hl with | [_, _, _], _ => rfl
  have F10 := fun_mk (st := s_head_row) l10 c_10 k10
  have b10 := F10.binds (ps := ["terms", "values"]) fun _ _ _ _ _ _ us hl => match us, hl with | [_, _], _ => rfl
  have F11 := fun_mk (st := s_law_next) l11 c_11 k11
  have b11 := F11.binds (ps := ["_law_state", "_law_limit"]) fun _ _ _ _ _ _ us hl => match us, hl with | [_, _], _ => rfl
  have F12 := fun_mk (st := s_law_same) l12 c_12 k12
  have b12 := F12.binds (ps := ["_law_actual", "_law_expected"]) fun _ _ _ _ _ _ us hl => match us, hl with | [_, _], _ => rfl
  have F13 := fun_mk (st := s_law_worth) l13 c_13 k13
  have b13 := F13.binds (ps := ["_law_state"]) fun _ _ _ _ _ _ us hl => match us, hl with | [_], _ => rfl
  have F14 := fun_mk (st := s_law_variable) l14 c_14 k14
  have b14 := F14.binds (ps := ["_law_state"]) fun _ _ _ _ _ _ us hl => match us, hl with | [_], _ => rfl
  have F15 := fun_mk (st := s_law_term) l15 c_15 k15
  have b15 := F15.binds (ps := ["_law_state", "_law_bound"]) fun _ _ _ _ _ _ us hl => match us, hl with | [_, _], _ => rfl
  have F16 := fun_mk (st := s_law_settled) l16 c_16 k16
  have b16 := F16.binds (ps := ["_law_term_here", "_law_bound"]) fun _ _ _ _ _ _ us hl => match us, hl with | [_, _], _ => rfl
  have F17 := fun_mk (st := s_law_literal) l17 c_17 k17
  have b17 := F17.binds (ps := ["_law_state", "_law_widths", "_law_bound", "_law_careful"]) fun _ _ _ _ _ _ us hl => match us, hl with | [_, _, _, _], _ => rfl
  have F18 := fun_mk (st := s_law_binds) l18 c_18 k18
  have b18 := F18.binds (ps := ["_law_literal_here"]) fun _ _ _ _ _ _ us hl => match us, hl with | [_], _ => rfl
  have F19 := fun_mk (st := s_law_body) l19 c_19 k19
  have b19 := F19.binds (ps := ["_law_state", "_law_widths", "_law_careful", "_law_most"]) fun _ _ _ _ _ _ us hl => match us, hl with | [_, _, _, _], _ => rfl
  have F20 := fun_mk (st := s_law_rank) l20 c_20 k20
  have b20 := F20.binds (ps := ["_law_value"]) fun _ _ _ _ _ _ us hl => match us, hl with | [_], _ => rfl
  have F21 := fun_mk (st := s_law_met) l21 c_21 k21
  have b21 := F21.binds (ps := ["_law_terms", "_law_row", "_law_way"]) fun _ _ _ _ _ _ us hl => match us, hl with | [_, _, _], _ => rfl
  have F22 := fun_mk (st := s_law_of) l22 c_22 k22
  have b22 := F22.binds (ps := ["_law_term_here", "_law_way"]) fun _ _ _ _ _ _ us hl => match us, hl with | [_, _], _ => rfl
  have F23 := fun_mk (st := s_law_compared) l23 c_23 k23
  have b23 := F23.binds (ps := ["_law_operator", "_law_first", "_law_second"]) fun _ _ _ _ _ _ us hl => match us, hl with | [_, _, _], _ => rfl
  have F24 := fun_mk (st := s_law_goes_on) l24 c_24 k24
  have b24 := F24.binds (ps := ["_law_literal_here", "_law_lookups", "_law_way"]) fun _ _ _ _ _ _ us hl => match us, hl with | [_, _, _], _ => rfl
  have F25 := fun_mk (st := s_law_ways) l25 c_25 k25
  have b25 := F25.binds (ps := ["_law_body_here", "_law_rows_here", "_law_lookups"]) fun _ _ _ _ _ _ us hl => match us, hl with | [_, _, _], _ => rfl
  have F26 := fun_mk (st := s_law_rows) l26 c_26 k26
  have b26 := F26.binds (ps := ["_law_state", "_law_widths"]) fun _ _ _ _ _ _ us hl => match us, hl with | [_, _], _ => rfl
  have F27 := fun_mk (st := s_law_is_dict) l27 c_27 k27
  have b27 := F27.binds (ps := ["_law_actual", "_law_expected"]) fun _ _ _ _ _ _ us hl => match us, hl with | [_, _], _ => rfl
  have F28 := fun_mk (st := s_law) l28 c_28 k28
  have b28 := F28.binds (ps := ["_law_script"]) fun _ _ _ _ _ _ us hl => match us, hl with | [_], _ => rfl
  have T : Txt K mg ⟨f0, f1, f2, f3, f4, f5, f6, f7, f8, f9, f10, f11, f12, f13, f14, f15, f16, f17, f18, f19, f20, f21, f22, f23, f24, f25, f26, f27, fa⟩ ⟨_, _, _, _, _, _, _, _, _, _, _, _, _, _, _, _, _, _, _, _, _, _, _, _, _, _, _, _, _⟩ := ⟨F0, PySem.W.mg_of X G a0, b0, F1, PySem.W.mg_of X G a1, b1, F2, PySem.W.mg_of X G a2, b2, F3, PySem.W.mg_of X G a3, b3, F4, PySem.W.mg_of X G a4, b4, F5, PySem.W.mg_of X G a5, b5, F6, PySem.W.mg_of X G a6, b6, F7, PySem.W.mg_of X G a7, b7, F8, PySem.W.mg_of X G a8, b8, F9, PySem.W.mg_of X G a9, b9, F10, PySem.W.mg_of X G a10, b10, F11, PySem.W.mg_of X G a11, b11, F12, PySem.W.mg_of X G a12, b12, F13, PySem.W.mg_of X G a13, b13, F14, PySem.W.mg_of X G a14, b14, F15, PySem.W.mg_of X G a15, b15, F16, PySem.W.mg_of X G a16, b16, F17, PySem.W.mg_of X G a17, b17, F18, PySem.W.mg_of X G a18, b18, F19, PySem.W.mg_of X G a19, b19, F20, PySem.W.mg_of X G a20, b20, F21, PySem.W.mg_of X G a21, b21, F22, PySem.W.mg_of X G a22, b22, F23, PySem.W.mg_of X G a23, b23, F24, PySem.W.mg_of X G a24, b24, F25, PySem.W.mg_of X G a25, b25, F26, PySem.W.mg_of X G a26, b26, F27, PySem.W.mg_of X G a27, b27, F28, PySem.W.mg_of X G a28, b28, PySem.W.mg_none_of X G z0, PySem.W.mg_none_of X G z1, PySem.W.mg_none_of X G z2, PySem.W.mg_none_of X G z3, PySem.W.mg_none_of X G z4, PySem.W.mg_none_of X G z5, PySem.W.mg_none_of X G z6, PySem.W.mg_none_of X G z7, PySem.W.mg_none_of X G z8, PySem.W.mg_none_of X G z9, PySem.W.mg_none_of X G z10, PySem.W.mg_none_of X G z11⟩
  exact ⟨_, fun s v => .of_eq rfl, fun base _ _ => ok_law T⟩
end
end K20
open PySem PySem.W PyProof.Rows
set_option maxRecDepth 100000 in
set_option maxHeartbeats 0 in
theorem PySem.Challenge.cw_rulestead_k20_ways_of_bodies_holds : PySem.Challenge.rw_rulestead_k20_ways_of_bodies.Holds := by
  w_on; o_law; k_head; (case hw => w_witness2)
  k_fill
  refine Ab.walk_ofG (l := PySem.Challenge.rw_rulestead_k20_ways_of_bodies) (n := 63) (k := 6) (x := "_law_script") (sp := fun w => Ab.scriptA _) rfl (by decide) rfl ⟨rfl, by decide, by decide⟩ (fun w h Y => PySem.W.kIn_of Y) ?F (fun _ H a ns hl hb hO hS => Ab.script_in hl hb hS)
  case F =>
    intro w mg fa h KX G hmg
    have p0 : Ab.fnIn KX "value_key" K20.s_value_key := by
      refine' Ab.fnG_mk KX ?h1 ?h2 ?h3 ?h4
      (case h1 => k_is)
      (case h2 => k_is)
      (case h3 => k_is)
      (case h4 => k_is)
    have p1 : Ab.fnIn KX "is_integer" K20.s_is_integer := by
      refine' Ab.fnG_mk KX ?h1 ?h2 ?h3 ?h4
      (case h1 => k_is)
      (case h2 => k_is)
      (case h3 => k_is)
      (case h4 => k_is)
    have p2 : Ab.fnIn KX "met" K20.s_met := by
      refine' Ab.fnG_mk KX ?h1 ?h2 ?h3 ?h4
      (case h1 => k_is)
      (case h2 => k_is)
      (case h3 => k_is)
      (case h4 => k_is)
    have p3 : Ab.fnIn KX "value_of" K20.s_value_of := by
      refine' Ab.fnG_mk KX ?h1 ?h2 ?h3 ?h4
      (case h1 => k_is)
      (case h2 => k_is)
      (case h3 => k_is)
      (case h4 => k_is)
    have p4 : Ab.fnIn KX "compares" K20.s_compares := by
      refine' Ab.fnG_mk KX ?h1 ?h2 ?h3 ?h4
      (case h1 => k_is)
      (case h2 => k_is)
      (case h3 => k_is)
      (case h4 => k_is)
    have p5 : Ab.fnIn KX "reckoned" K20.s_reckoned := by
      refine' Ab.fnG_mk KX ?h1 ?h2 ?h3 ?h4
      (case h1 => k_is)
      (case h2 => k_is)
      (case h3 => k_is)
      (case h4 => k_is)
    have p6 : Ab.fnIn KX "bound" K20.s_bound := by
      refine' Ab.fnG_mk KX ?h1 ?h2 ?h3 ?h4
      (case h1 => k_is)
      (case h2 => k_is)
      (case h3 => k_is)
      (case h4 => k_is)
    have p7 : Ab.fnIn KX "count_of" K20.s_count_of := by
      refine' Ab.fnG_mk KX ?h1 ?h2 ?h3 ?h4
      (case h1 => k_is)
      (case h2 => k_is)
      (case h3 => k_is)
      (case h4 => k_is)
    have p8 : Ab.fnIn KX "tested" K20.s_tested := by
      refine' Ab.fnG_mk KX ?h1 ?h2 ?h3 ?h4
      (case h1 => k_is)
      (case h2 => k_is)
      (case h3 => k_is)
      (case h4 => k_is)
    have p9 : Ab.fnIn KX "ways" K20.s_ways := by
      refine' Ab.fnG_mk KX ?h1 ?h2 ?h3 ?h4
      (case h1 => k_is)
      (case h2 => k_is)
      (case h3 => k_is)
      (case h4 => k_is)
    have p10 : Ab.fnIn KX "head_row" K20.s_head_row := by
      refine' Ab.fnG_mk KX ?h1 ?h2 ?h3 ?h4
      (case h1 => k_is)
      (case h2 => k_is)
      (case h3 => k_is)
      (case h4 => k_is)
    have p11 : Ab.fnIn KX "_law_next" K20.s_law_next := by
      refine' Ab.fnG_mk KX ?h1 ?h2 ?h3 ?h4
      (case h1 => k_is)
      (case h2 => k_is)
      (case h3 => k_is)
      (case h4 => k_is)
    have p12 : Ab.fnIn KX "_law_same" K20.s_law_same := by
      refine' Ab.fnG_mk KX ?h1 ?h2 ?h3 ?h4
      (case h1 => k_is)
      (case h2 => k_is)
      (case h3 => k_is)
      (case h4 => k_is)
    have p13 : Ab.fnIn KX "_law_worth" K20.s_law_worth := by
      refine' Ab.fnG_mk KX ?h1 ?h2 ?h3 ?h4
      (case h1 => k_is)
      (case h2 => k_is)
      (case h3 => k_is)
      (case h4 => k_is)
    have p14 : Ab.fnIn KX "_law_variable" K20.s_law_variable := by
      refine' Ab.fnG_mk KX ?h1 ?h2 ?h3 ?h4
      (case h1 => k_is)
      (case h2 => k_is)
      (case h3 => k_is)
      (case h4 => k_is)
    have p15 : Ab.fnIn KX "_law_term" K20.s_law_term := by
      refine' Ab.fnG_mk KX ?h1 ?h2 ?h3 ?h4
      (case h1 => k_is)
      (case h2 => k_is)
      (case h3 => k_is)
      (case h4 => k_is)
    have p16 : Ab.fnIn KX "_law_settled" K20.s_law_settled := by
      refine' Ab.fnG_mk KX ?h1 ?h2 ?h3 ?h4
      (case h1 => k_is)
      (case h2 => k_is)
      (case h3 => k_is)
      (case h4 => k_is)
    have p17 : Ab.fnIn KX "_law_literal" K20.s_law_literal := by
      refine' Ab.fnG_mk KX ?h1 ?h2 ?h3 ?h4
      (case h1 => k_is)
      (case h2 => k_is)
      (case h3 => k_is)
      (case h4 => k_is)
    have p18 : Ab.fnIn KX "_law_binds" K20.s_law_binds := by
      refine' Ab.fnG_mk KX ?h1 ?h2 ?h3 ?h4
      (case h1 => k_is)
      (case h2 => k_is)
      (case h3 => k_is)
      (case h4 => k_is)
    have p19 : Ab.fnIn KX "_law_body" K20.s_law_body := by
      refine' Ab.fnG_mk KX ?h1 ?h2 ?h3 ?h4
      (case h1 => k_is)
      (case h2 => k_is)
      (case h3 => k_is)
      (case h4 => k_is)
    have p20 : Ab.fnIn KX "_law_rank" K20.s_law_rank := by
      refine' Ab.fnG_mk KX ?h1 ?h2 ?h3 ?h4
      (case h1 => k_is)
      (case h2 => k_is)
      (case h3 => k_is)
      (case h4 => k_is)
    have p21 : Ab.fnIn KX "_law_met" K20.s_law_met := by
      refine' Ab.fnG_mk KX ?h1 ?h2 ?h3 ?h4
      (case h1 => k_is)
      (case h2 => k_is)
      (case h3 => k_is)
      (case h4 => k_is)
    have p22 : Ab.fnIn KX "_law_of" K20.s_law_of := by
      refine' Ab.fnG_mk KX ?h1 ?h2 ?h3 ?h4
      (case h1 => k_is)
      (case h2 => k_is)
      (case h3 => k_is)
      (case h4 => k_is)
    have p23 : Ab.fnIn KX "_law_compared" K20.s_law_compared := by
      refine' Ab.fnG_mk KX ?h1 ?h2 ?h3 ?h4
      (case h1 => k_is)
      (case h2 => k_is)
      (case h3 => k_is)
      (case h4 => k_is)
    have p24 : Ab.fnIn KX "_law_goes_on" K20.s_law_goes_on := by
      refine' Ab.fnG_mk KX ?h1 ?h2 ?h3 ?h4
      (case h1 => k_is)
      (case h2 => k_is)
      (case h3 => k_is)
      (case h4 => k_is)
    have p25 : Ab.fnIn KX "_law_ways" K20.s_law_ways := by
      refine' Ab.fnG_mk KX ?h1 ?h2 ?h3 ?h4
      (case h1 => k_is)
      (case h2 => k_is)
      (case h3 => k_is)
      (case h4 => k_is)
    have p26 : Ab.fnIn KX "_law_rows" K20.s_law_rows := by
      refine' Ab.fnG_mk KX ?h1 ?h2 ?h3 ?h4
      (case h1 => k_is)
      (case h2 => k_is)
      (case h3 => k_is)
      (case h4 => k_is)
    have p27 : Ab.fnIn KX "_law_is_dict" K20.s_law_is_dict := by
      refine' Ab.fnG_mk KX ?h1 ?h2 ?h3 ?h4
      (case h1 => k_is)
      (case h2 => k_is)
      (case h3 => k_is)
      (case h4 => k_is)
    have p28 : Ab.fnIn KX "law" K20.s_law := by
      refine' Ab.fnG_mk KX ?h1 ?h2 ?h3 ?h4
      (case h1 => k_is)
      (case h2 => k_is)
      (case h3 => k_is)
      (case h4 => k_is)
    refine' K20.all_mk KX G hmg p0 p1 p2 p3 p4 p5 p6 p7 p8 p9 p10 p11 p12 p13 p14 p15 p16 p17 p18 p19 p20 p21 p22 p23 p24 p25 p26 p27 p28 ?z0 ?z1 ?z2 ?z3 ?z4 ?z5 ?z6 ?z7 ?z8 ?z9 ?z10 ?z11
    (case z0 => k_is)
    (case z1 => k_is)
    (case z2 => k_is)
    (case z3 => k_is)
    (case z4 => k_is)
    (case z5 => k_is)
    (case z6 => k_is)
    (case z7 => k_is)
    (case z8 => k_is)
    (case z9 => k_is)
    (case z10 => k_is)
    (case z11 => k_is)
