import PyProof.Rows.All
import Wide.All
import OpenK.AllK
import Wide.FinOn
import KE.KeyNested
import KE.DataFind
import HandS.Deep
import HandS.DictComp
import HandS.Iter
import HandS.ForMost
import HandS.Wide
import HandS.IsInst
import HandS.Style
import HandS.ForExc
import HandS.ExcOwn
import HandS.TryOnly
import HandS.SetKeys
import HandS.EndBits
import KE.DataCmp
import HandS.TupLe
import HandS.Text
import HandS.Strs
import HandS.TupAny
import HandS.CallSlots
import HandS.WordsDict
import PyProof.DictUpdate
import HandS.ExcIs
import KE.SortKeyHeap
import HandS.SortKw
import HandS.Defaults
import HandS.More
import HandS.StrMore
import KE.GoesRaise
import PySem.Challenge.RW_rulestead_k05_only_written_bytes_are_rea
set_option Elab.async false
set_option linter.all false
set_option maxRecDepth 1000000
set_option  maxHeartbeats 4000000
namespace Ab
open PySem PySem.Spec PyProof.Rows L2
abbrev NK := NestedKey
/-- what is true of the object at a -/
def NDict (P : Program) (w : World) (a : Addr) (kvs : List (NK × Addr × V)) (h : Heap) : Prop :=
  kvs.length ≤ sizeLine ∧ (a == sysModules) = false ∧ ∃ xs : List (NK × Addr × Value), Paired (fun p q => p.1 = q.1 ∧ p.2.1 = q.2.1 ∧ RelV p.2.2 q.2.2) kvs xs ∧
    ∃ o es ep, h.get? a = some o ∧ o.ExactDict ∧ o.data = .dict es ep ∧ es.toList = xs.map (entryOfKey (nestedKind P w)) ∧ (xs.map (·.1)).Nodup
def HN (P : Program) (w : World) (a : Addr) (kvs : List (NK × Addr × V)) : HO := .ext (NDict P w a kvs)
/-- what stands of a walk within the block -/
structure Mid (Y : Cx) (fp : List Addr) (tn : Nat → Heap → Prop) (σ : L2.St) (i : Nat) (H : Hp) (s : Shared) : Prop where
  inv : Inv Y [] σ H s
  at_ : tn i s.heap
  fr : ∀ b ∈ fp, H b = none
end Ab
set_option Elab.async false
set_option linter.all false
set_option maxRecDepth 1000000
set_option  maxHeartbeats 4000000
namespace Ab
open PySem L2
theorem same_new {H : Hp} {p : Addr} {o : HO} (h : H p = none) : Same H (upd H p o) := fun b u e => by
  rw [upd_ne (ne_of_none e h)]
  exact e
theorem same_rd {H H' : Hp} {a : Addr} {u : HO} (e : Same H H') (h : Rd H a u) : Rd H' a u := by
  rcases h with h | ⟨o, h⟩
  · exact .inl (e _ _ h)
  · exact .inr ⟨o, e _ _ h⟩
theorem same_t {K : PySem.W.Frag} {H H' : Hp} {a : Addr} {xs : List V} (e : Same H H') (h : SqT K H a xs) : SqT K H' a xs := by
  rcases h with h | h
  · exact .inl (same_rd e h)
  · exact .inr h
mutual
inductive Dq (K : PySem.W.Frag) (H : Hp) : V → PyData → Prop
  | non : Dq K H .non .none
  | bl (b : Bool) : Dq K H (.bl b) (.bool b)
  | int (i : Int) : Dq K H (.int i) (.int i)
  | str (x : Str) : Dq K H (.str x) (.str x)
  | lst {a : Addr} {xs : List V} {ds : List PyData} : H a = some (.lst xs) → DqAll K H xs ds → Dq K H (.ref a) (.list ds)
  | tup {a : Addr} {xs : List V} {ds : List PyData} : SqT K H a xs → DqAll K H xs ds → Dq K H (.ref a) (.tuple ds)
inductive DqAll (K : PySem.W.Frag) (H : Hp) : List V → List PyData → Prop
  | nil : DqAll K H [] []
  | cons {v : V} {vs : List V} {d : PyData} {ds : List PyData} : Dq K H v d → DqAll K H vs ds → DqAll K H (v :: vs) (d :: ds)
end
section
variable {K : PySem.W.Frag} {B B' : Hp}
mutual
theorem dq_dp : ∀ (d : PyData) (v : V), Dq K B v d → Dp K B v d
  | .none, _, h => by cases h; exact .non
  | .bool b, _, h => by cases h; exact .bl b
  | .int i, _, h => by cases h; exact .int i
  | .str x, _, h => by cases h; exact .str x
  | .list ds, _, h => by
    cases h with
    | lst hs ha => exact .lst (.inl (.inl hs)) (dqa_dp ds _ ha)
  | .tuple ds, _, h => by
    cases h with
    | tup hs ha => exact .tup hs (dqa_dp ds _ ha)
  | .dict _, _, h => by cases h
theorem dqa_dp : ∀ (ds : List PyData) (vs : List V), DqAll K B vs ds → DpAll K B vs ds
  | [], _, h => by cases h; exact .nil
  | d :: ds, _, h => by
    cases h with
    | cons h1 h2 => exact .cons (dq_dp d _ h1) (dqa_dp ds _ h2)
end
mutual
theorem dp_same (e : Same B B') : ∀ (d : PyData) (v : V), Dq K B v d → Dq K B' v d
  | .none, _, h => by cases h; exact .non
  | .bool b, _, h => by cases h; exact .bl b
  | .int i, _, h => by cases h; exact .int i
  | .str x, _, h => by cases h; exact .str x
  | .list ds, _, h => by
    cases h with
    | lst hs ha => exact .lst (e _ _ hs) (dpa_same e ds _ ha)
  | .tuple ds, _, h => by
    cases h with
    | tup hs ha => exact .tup (same_t e hs) (dpa_same e ds _ ha)
  | .dict _, _, h => by cases h
theorem dpa_same (e : Same B B') : ∀ (ds : List PyData) (vs : List V), DqAll K B vs ds → DqAll K B' vs ds
  | [], _, h => by cases h; exact .nil
  | d :: ds, _, h => by
    cases h with
    | cons h1 h2 => exact .cons (dp_same e d _ h1) (dpa_same e ds _ h2)
end
end
inductive Sl where
  /-- data that nobody changes -/
  | dat (d : PyData)
  /-- just this value -/
  | raw (v : V)
  /-- what else is known of it, as long as things are only added -/
  | abs (P : Hp → V → Prop) (m : ∀ B B' v, Same B B' → P B v → P B' v)
abbrev Sl.int (i : Int) : Sl := .dat (.int i)
abbrev Sl.bl (b : Bool) : Sl := .dat (.bool b)
abbrev Sl.str (x : Str) : Sl := .dat (.str x)
abbrev Sl.non : Sl := .dat .none
abbrev Sl.ref (a : Addr) : Sl := .raw (.ref a)
def SlOk (K : PySem.W.Frag) (B : Hp) (v : V) : Sl → Prop
  | .dat d => Dq K B v d
  | .raw u => v = u
  | .abs P _ => P B v
section
variable {K : PySem.W.Frag} {B B' : Hp} {v : V} {s : Sl}
theorem SlOk.mono (e : Same B B') (h : SlOk K B v s) : SlOk K B' v s := by
  cases s with
  | dat d => exact dp_same e d v h
  | raw u => exact h
  | abs P m => exact m _ _ _ e h
theorem slok_int {i : Int} : SlOk K B (.int i) (.int i) := Dq.int i
theorem slok_bl {b : Bool} : SlOk K B (.bl b) (.bl b) := Dq.bl b
theorem slok_str {x : Str} : SlOk K B (.str x) (.str x) := Dq.str x
theorem slok_non : SlOk K B .non .non := Dq.non
theorem slok_ref {a : Addr} : SlOk K B (.ref a) (.ref a) := rfl
theorem of_int {i : Int} (h : SlOk K B v (.int i)) : v = .int i := by cases h; rfl
theorem of_bl {b : Bool} (h : SlOk K B v (.bl b)) : v = .bl b := by cases h; rfl
theorem of_str {x : Str} (h : SlOk K B v (.str x)) : v = .str x := by cases h; rfl
theorem of_non (h : SlOk K B v .non) : v = .non := by cases h; rfl
abbrev SlAll (K : PySem.W.Frag) (B : Hp) : List V → List Sl → Prop := Paired fun v s => SlOk K B v s
theorem SlAll.mono (e : Same B B') {vs : List V} {ss : List Sl} (h : SlAll K B vs ss) : SlAll K B' vs ss := Paired.mapP h fun _ _ q => q.mono e
theorem sla_dat : ∀ {vs : List V} {ds : List PyData}, DqAll K B vs ds → SlAll K B vs (ds.map .dat)
  | _, _, .nil => .nil
  | _, _, .cons h t => .cons h (sla_dat t)
theorem dpa_of : ∀ {vs : List V} {ds : List PyData}, SlAll K B vs (ds.map .dat) → DqAll K B vs ds
  | _, [], .nil => .nil
  | _, _ :: _, .cons h t => .cons h (dpa_of t)
theorem DqAll.length : ∀ {vs : List V} {ds : List PyData}, DqAll K B vs ds → vs.length = ds.length
  | _, _, .nil => rfl
  | _, _, .cons _ t => congrArg (· + 1) (DqAll.length t)
theorem DqAll.app : ∀ {vs ws : List V} {ds es : List PyData}, DqAll K B vs ds → DqAll K B ws es → DqAll K B (vs ++ ws) (ds ++ es)
  | _, _, _, _, .nil, h => h
  | _, _, _, _, .cons h t, h' => .cons h (DqAll.app t h')
theorem DqAll.take : ∀ (n : Nat) {vs : List V} {ds : List PyData}, DqAll K B vs ds → DqAll K B (vs.take n) (ds.take n)
  | 0, _, _, _ => .nil
  | _ + 1, _, _, .nil => .nil
  | n + 1, _, _, .cons h t => .cons h (DqAll.take n t)
theorem DqAll.drop : ∀ (n : Nat) {vs : List V} {ds : List PyData}, DqAll K B vs ds → DqAll K B (vs.drop n) (ds.drop n)
  | 0, _, _, h => h
  | _ + 1, _, _, .nil => .nil
  | n + 1, _, _, .cons _ t => DqAll.drop n t
theorem DqAll.get : ∀ {i : Nat} {vs : List V} {ds : List PyData} {d : PyData}, DqAll K B vs ds → ds[i]? = some d → ∃ v, vs[i]? = some v ∧ Dq K B v d
  | _, _, _, _, .nil, e => by simp at e
  | 0, _, _, _, .cons h _, e => by simp at e; subst e; exact ⟨_, rfl, h⟩
  | i + 1, _, _, _, .cons _ t, e => by
    obtain ⟨v, h1, h2⟩ := DqAll.get (i := i) t (by simpa using e)
    exact ⟨v, by simpa using h1, h2⟩
theorem SlAll.get : ∀ {i : Nat} {vs : List V} {ss : List Sl} {s : Sl}, SlAll K B vs ss → ss[i]? = some s → ∃ v, vs[i]? = some v ∧ SlOk K B v s
  | _, _, _, _, .nil, e => by simp at e
  | 0, _, _, _, .cons h _, e => by simp at e; subst e; exact ⟨_, rfl, h⟩
  | i + 1, _, _, _, .cons _ t, e => by
    obtain ⟨v, h1, h2⟩ := SlAll.get (i := i) t (by simpa using e)
    exact ⟨v, by simpa using h1, h2⟩
theorem SlAll.setI {v : V} {s : Sl} (r : SlOk K B v s) : ∀ (i : Nat) {vs : List V} {ss : List Sl}, SlAll K B vs ss → SlAll K B (vs.set i v) (ss.set i s)
  | _, _, _, .nil => .nil
  | 0, _, _, .cons _ t => .cons r t
  | i + 1, _, _, .cons q t => .cons q (SlAll.setI r i t)
theorem SlAll.app : ∀ {vs ws : List V} {ds es : List Sl}, SlAll K B vs ds → SlAll K B ws es → SlAll K B (vs ++ ws) (ds ++ es)
  | _, _, _, _, .nil, h => h
  | _, _, _, _, .cons h t, h' => .cons h (SlAll.app t h')
end
abbrev Rho := List (Option Sl)
def Rl0 (K : PySem.W.Frag) (B : Hp) : L2.St → Rho → Prop
  | [], [] => True
  | x :: σ, y :: ρ => (∀ s, y = some s → ∃ v, x = some v ∧ SlOk K B v s) ∧ Rl0 K B σ ρ
  | _, _ => False
section
variable {K : PySem.W.Frag} {B B' : Hp}
theorem Rl0.mono (e : Same B B') : ∀ {σ : L2.St} {ρ : Rho}, Rl0 K B σ ρ → Rl0 K B' σ ρ
  | [], [], _ => trivial
  | _ :: _, _ :: _, ⟨h, t⟩ => ⟨fun s q => let ⟨v, e1, e2⟩ := h s q; ⟨v, e1, e2.mono e⟩, Rl0.mono e t⟩
theorem Rl0.get : ∀ {i : Nat} {σ : L2.St} {ρ : Rho} {s : Sl}, Rl0 K B σ ρ → ρ[i]? = some (some s) → ∃ v, σ[i]? = some (some v) ∧ SlOk K B v s
  | _, [], [], _, _, e => by simp at e
  | 0, _ :: _, _ :: _, s, ⟨h, _⟩, e => by
    obtain ⟨v, e1, e2⟩ := h s (by simpa using e)
    exact ⟨v, by rw [e1]; rfl, e2⟩
  | i + 1, _ :: _, _ :: _, s, ⟨_, t⟩, e => by
    obtain ⟨v, h1, h2⟩ := Rl0.get (i := i) t (by simpa using e)
    exact ⟨v, by simpa using h1, h2⟩
theorem Rl0.put {v : V} {s : Sl} (r : SlOk K B v s) : ∀ (i : Nat) {σ : L2.St} {ρ : Rho}, Rl0 K B σ ρ → Rl0 K B (σ.set i (some v)) (ρ.set i (some s))
  | _, [], [], _ => trivial
  | 0, _ :: _, _ :: _, ⟨_, t⟩ => ⟨fun s' q => (by cases q; exact ⟨v, rfl, r⟩), t⟩
  | i + 1, _ :: _, _ :: _, ⟨h, t⟩ => ⟨h, Rl0.put r i t⟩
theorem Rl0.non : ∀ (i : Nat) {σ : L2.St} {ρ : Rho}, Rl0 K B σ ρ → Rl0 K B (σ.set i none) (ρ.set i none)
  | _, [], [], _ => trivial
  | 0, _ :: _, _ :: _, ⟨_, t⟩ => ⟨fun s' q => (by cases q), t⟩
  | i + 1, _ :: _, _ :: _, ⟨h, t⟩ => ⟨h, Rl0.non i t⟩
def wipeR (ρ : Rho) : List Nat → Rho
  | [] => ρ
  | v :: vs => (wipeR ρ vs).set v none
theorem Rl0.wiped {σ : L2.St} {ρ : Rho} (h : Rl0 K B σ ρ) : ∀ vs : List Nat, Rl0 K B (wipe σ vs) (wipeR ρ vs)
  | [] => h
  | v :: vs => Rl0.non v (Rl0.wiped h vs)
theorem rl_start : ∀ {vs : List V} {ss : List Sl} (n : Nat), SlAll K B vs ss → Rl0 K B (vs.map some ++ List.replicate n none) (ss.map some ++ List.replicate n none)
  | _, _, n, .nil => by
    show Rl0 K B (List.replicate n none) (List.replicate n none)
    induction n with
    | zero => trivial
    | succ n ih => exact ⟨fun s q => (by cases q), ih⟩
  | _, _, n, .cons h t => ⟨fun s q => (by cases q; exact ⟨_, rfl, h⟩), rl_start n t⟩
/-- what is known of a frame stands in another list of what is known, slot by slot -/
theorem wipe_set (σ : L2.St) (x : Option V) : ∀ (vs : List Nat) (j : Nat), j ∈ vs → wipe (σ.set j x) vs = wipe σ vs
  | [], _, h => by cases h
  | v :: vs, j, h => by
    show (wipe (σ.set j x) vs).set v none = (wipe σ vs).set v none
    by_cases hj : j ∈ vs
    · rw [wipe_set σ x vs j hj]
    · have e : j = v := by
        rcases List.mem_cons.mp h with h | h
        · exact h
        · exact absurd h hj
      subst e
      have out : ∀ (vs : List Nat) (σ : L2.St), j ∉ vs → wipe (σ.set j x) vs = (wipe σ vs).set j x := by
        intro vs
        induction vs with
        | nil => intro σ _; rfl
        | cons w ws ih =>
          intro σ hn
          have h1 : j ≠ w := fun e => hn (by rw [e]; exact List.mem_cons_self)
          have h2 : j ∉ ws := fun e => hn (List.mem_cons_of_mem _ e)
          show (wipe (σ.set j x) ws).set w none = ((wipe σ ws).set w none).set j x
          rw [ih σ h2, List.set_comm _ _ h1]
      rw [out vs σ hj, List.set_set]
theorem wipe_wipe (σ : L2.St) : ∀ (vs : List Nat), wipe (wipe σ vs) vs = wipe σ vs
  | [] => rfl
  | v :: vs => by
    show (wipe ((wipe σ vs).set v none) vs).set v none = (wipe σ vs).set v none
    by_cases hv : v ∈ vs
    · rw [wipe_set _ _ vs v hv, wipe_wipe σ vs]
    · have out : ∀ (vs : List Nat) (σ : L2.St), v ∉ vs → wipe (σ.set v none) vs = (wipe σ vs).set v none := by
        intro vs
        induction vs with
        | nil => intro σ _; rfl
        | cons w ws ih =>
          intro σ hn
          have h1 : v ≠ w := fun e => hn (by rw [e]; exact List.mem_cons_self)
          have h2 : v ∉ ws := fun e => hn (List.mem_cons_of_mem _ e)
          show (wipe (σ.set v none) ws).set w none = ((wipe σ ws).set w none).set v none
          rw [ih σ h2, List.set_comm _ _ h1]
      rw [out vs _ hv, wipe_wipe σ vs, List.set_set]
end
inductive MO where
  | lst (xs : List Sl)
  | dK (kvs : List (Key × Sl))
  | ins (C dx : Addr) (fs : List (Str × Sl))
  | xd (fs : List (Str × Sl))
  | ho (o : HO)
  /-- a dict whose keys are nested tuples -/
  | dN (P : Program) (w : World) (a : Addr) (kvs : List (NK × Sl))
  /-- known to somebody else for a while: read, not changed -/
  | frz (ob : Obj) (v : HO) (o : MO)
abbrev MH := Addr → Option MO
def um (M : MH) (a : Addr) (o : MO) : MH := fun b => if b = a then some o else M b
def del (M : MH) (a : Addr) : MH := fun b => if b = a then none else M b
theorem um_same {M : MH} {a : Addr} {o : MO} : um M a o a = some o := by unfold um; rw [if_pos rfl]
theorem um_ne {M : MH} {a b : Addr} {o : MO} (h : b ≠ a) : um M a o b = M b := by unfold um; rw [if_neg h]
theorem um_um {M : MH} {a : Addr} {o u : MO} : um (um M a o) a u = um M a u := by
  funext b; unfold um; split <;> rfl
theorem um_id {M : MH} {a : Addr} {o : MO} (h : M a = some o) : um M a o = M := by
  funext b
  by_cases e : b = a
  · subst e; rw [um_same, h]
  · rw [um_ne e]
theorem um_comm {M : MH} {a b : Addr} {o u : MO} (h : a ≠ b) : um (um M a o) b u = um (um M b u) a o := by
  funext c
  by_cases e1 : c = a
  · subst e1
    rw [um_ne h, um_same, um_same]
  · by_cases e2 : c = b
    · subst e2
      rw [um_same, um_ne e1, um_same]
    · rw [um_ne e2, um_ne e1, um_ne e1, um_ne e2]
theorem del_same {M : MH} {a : Addr} : del M a a = none := by unfold del; rw [if_pos rfl]
theorem del_ne {M : MH} {a b : Addr} (h : b ≠ a) : del M a b = M b := by unfold del; rw [if_neg h]
theorem del_um {M : MH} {a : Addr} {o : MO} (h : M a = none) : del (um M a o) a = M := by
  funext b
  by_cases e : b = a
  · subst e; rw [del_same, h]
  · rw [del_ne e, um_ne e]
abbrev SlKs {κ : Type} (K : PySem.W.Frag) (B : Hp) : List (κ × V) → List (κ × Sl) → Prop := Paired fun p q => p.1 = q.1 ∧ SlOk K B p.2 q.2
/-- keys and values stand -/
abbrev SlNs (K : PySem.W.Frag) (B : Hp) : List (NK × Addr × V) → List (NK × Sl) → Prop := Paired fun p q => p.1 = q.1 ∧ (Dq K B (.ref p.2.1) p.1.data ∧ p.1.depth ≤ 8) ∧ SlOk K B p.2.2 q.2
def MOk (K : PySem.W.Frag) (B : Hp) (u : HO) : MO → Prop
  | .lst xs => ∃ vs, u = .lst vs ∧ SlAll K B vs xs
  | .dK kvs => ∃ vs, u = .dK vs ∧ SlKs K B vs kvs
  | .ins C dx fs => ∃ vs, u = .ins C dx vs ∧ SlKs K B vs fs
  | .xd fs => ∃ vs, u = .xd vs ∧ SlKs K B vs fs
  | .ho o => u = o
  | .dN P w a kvs => ∃ vs, u = HN P w a vs ∧ SlNs K B vs kvs
  | .frz ob v o => u = .frz ob v ∧ MOk K B v o
theorem MOk.mono {K : PySem.W.Frag} {B B' : Hp} (e : Same B B') {u : HO} {o : MO} (h : MOk K B u o) : MOk K B' u o := by
  induction o generalizing u with
  | lst xs => obtain ⟨vs, h1, h2⟩ := h; exact ⟨vs, h1, h2.mono e⟩
  | dK xs => obtain ⟨vs, h1, h2⟩ := h; exact ⟨vs, h1, Paired.mapP h2 fun _ _ q => ⟨q.1, q.2.mono e⟩⟩
  | ins C dx xs => obtain ⟨vs, h1, h2⟩ := h; exact ⟨vs, h1, Paired.mapP h2 fun _ _ q => ⟨q.1, q.2.mono e⟩⟩
  | xd xs => obtain ⟨vs, h1, h2⟩ := h; exact ⟨vs, h1, Paired.mapP h2 fun _ _ q => ⟨q.1, q.2.mono e⟩⟩
  | ho o => exact h
  | dN P w a kvs => obtain ⟨vs, h1, h2⟩ := h; exact ⟨vs, h1, Paired.mapP h2 fun _ _ q => ⟨q.1, ⟨dp_same e _ _ q.2.1.1, q.2.1.2⟩, q.2.2.mono e⟩⟩
  | frz ob v o ih => exact ⟨h.1, ih h.2⟩
structure Sep (K : PySem.W.Frag) (B : Hp) (M : MH) (H : Hp) : Prop where
  sub : Same B H
  has : ∀ a o, M a = some o → B a = none ∧ ∃ u, H a = some u ∧ MOk K B u o
section
variable {K : PySem.W.Frag} {B H : Hp} {M : MH}
theorem Sep.freeB (S : Sep K B M H) {p : Addr} (h : H p = none) : B p = none := S.sub.free h
theorem Sep.freeM (S : Sep K B M H) {p : Addr} (h : H p = none) : M p = none := by
  cases e : M p with
  | none => rfl
  | some o =>
    obtain ⟨_, u, hu, _⟩ := S.has p o e
    rw [h] at hu; cases hu
/-- a new object that nobody will change -/
theorem Sep.alloc (S : Sep K B M H) {p : Addr} {o : HO} (h : H p = none) : Sep K (upd B p o) M (upd H p o) := by
  have hB := S.freeB h
  refine ⟨fun b u e => ?_, fun a u e => ?_⟩
  · by_cases hb : b = p
    · subst hb; rw [upd_same] at e ⊢; exact e
    · rw [upd_ne hb] at e ⊢; exact S.sub b u e
  · obtain ⟨h1, w, h2, h3⟩ := S.has a u e
    have hne : a ≠ p := ne_of_none h2 h
    exact ⟨by rw [upd_ne hne]; exact h1, w, by rw [upd_ne hne]; exact h2, h3.mono (same_new hB)⟩
/-- a new object that may be changed -/
theorem Sep.new (S : Sep K B M H) {p : Addr} {u : HO} {o : MO} (h : H p = none) (ok : MOk K B u o) : Sep K B (um M p o) (upd H p u) := by
  have hB := S.freeB h
  refine ⟨fun b w e => ?_, fun a w e => ?_⟩
  · rw [upd_ne (ne_of_none e hB)]; exact S.sub b w e
  · by_cases ha : a = p
    · subst ha
      rw [um_same] at e; cases e
      exact ⟨hB, u, upd_same, ok⟩
    · rw [um_ne ha] at e
      obtain ⟨h1, w', h2, h3⟩ := S.has a w e
      exact ⟨h1, w', by rw [upd_ne ha]; exact h2, h3⟩
/-- it is changed -/
theorem Sep.put (S : Sep K B M H) {p : Addr} {u : HO} {o o' : MO} (h : M p = some o) (ok : MOk K B u o') : Sep K B (um M p o') (upd H p u) := by
  obtain ⟨hB, _, _, _⟩ := S.has p o h
  refine ⟨fun b w e => ?_, fun a w e => ?_⟩
  · rw [upd_ne (ne_of_none e hB)]; exact S.sub b w e
  · by_cases ha : a = p
    · subst ha
      rw [um_same] at e; cases e
      exact ⟨hB, u, upd_same, ok⟩
    · rw [um_ne ha] at e
      obtain ⟨h1, w', h2, h3⟩ := S.has a w e
      exact ⟨h1, w', by rw [upd_ne ha]; exact h2, h3⟩
/-- it will not be changed any more -/
theorem Sep.freeze (S : Sep K B M H) {p : Addr} {u : HO} {o : MO} (h : M p = some o) (hu : H p = some u) : Sep K (upd B p u) (del M p) H := by
  obtain ⟨hB, _, _, _⟩ := S.has p o h
  refine ⟨fun b w e => ?_, fun a w e => ?_⟩
  · by_cases hb : b = p
    · subst hb; rw [upd_same] at e; cases e; exact hu
    · rw [upd_ne hb] at e; exact S.sub b w e
  · by_cases ha : a = p
    · subst ha; rw [del_same] at e; cases e
    · rw [del_ne ha] at e
      obtain ⟨h1, w', h2, h3⟩ := S.has a w e
      exact ⟨by rw [upd_ne ha]; exact h1, w', h2, h3.mono (same_new hB)⟩
/-- less may be said -/
theorem Sep.drop (S : Sep K B M H) {p : Addr} : Sep K B (del M p) H := ⟨S.sub, fun a o e => by
  by_cases ha : a = p
  · subst ha; rw [del_same] at e; cases e
  · rw [del_ne ha] at e; exact S.has a o e⟩
end
/-- a list that is known else -/
def LsK (K : PySem.W.Frag) (s : Sl) (xs : List Sl) : Prop := ∀ (B H : Hp) (v : V), Same B H → SlOk K B v s → ∃ a vs, v = .ref a ∧ SqL K H a vs ∧ SlAll K B vs xs
/-- a list that is read: data, or one that may change -/
def LsV (K : PySem.W.Frag) (s : Sl) (M : MH) (xs : List Sl) : Prop := (∃ ds, s = .dat (.list ds) ∧ xs = ds.map .dat) ∨ (∃ a, s = .raw (.ref a) ∧ M a = some (.lst xs)) ∨ LsK K s xs
def TpV (s : Sl) (xs : List Sl) : Prop := ∃ ds, s = .dat (.tuple ds) ∧ xs = ds.map .dat
theorem lsv_dat {K : PySem.W.Frag} {ds : List PyData} {M : MH} : LsV K (.dat (.list ds)) M (ds.map .dat) := .inl ⟨ds, rfl, rfl⟩
theorem lsv_ref {K : PySem.W.Frag} {a : Addr} {M : MH} {xs : List Sl} (h : M a = some (.lst xs)) : LsV K (.raw (.ref a)) M xs := .inr (.inl ⟨a, rfl, h⟩)
theorem tpv_dat {ds : List PyData} : TpV (.dat (.tuple ds)) (ds.map .dat) := ⟨ds, rfl, rfl⟩
section
variable {K : PySem.W.Frag} {B H : Hp} {M : MH} {v : V} {s : Sl} {xs : List Sl}
theorem LsV.get (h : LsV K s M xs) (S : Sep K B M H) (o : SlOk K B v s) : ∃ a vs, v = .ref a ∧ SqL K H a vs ∧ SlAll K B vs xs := by
  rcases h with ⟨ds, rfl, rfl⟩ | ⟨a, rfl, e⟩ | h
  · cases o with
    | lst hs ha => exact ⟨_, _, rfl, .inl (.inl (S.sub _ _ hs)), sla_dat ha⟩
  · obtain ⟨_, u, hu, vs, rfl, ha⟩ := S.has a _ e
    exact ⟨a, vs, o, SqL.of hu, ha⟩
  · exact h B H v S.sub o
/-- a list that is no constant of the module -/
def LsR (s : Sl) (M : MH) (xs : List Sl) : Prop := (∃ ds, s = .dat (.list ds) ∧ xs = ds.map .dat) ∨ ∃ a, s = .raw (.ref a) ∧ M a = some (.lst xs)
theorem lsr_dat {ds : List PyData} {M : MH} : LsR (.dat (.list ds)) M (ds.map .dat) := .inl ⟨ds, rfl, rfl⟩
theorem LsR.get (h : LsR s M xs) (S : Sep K B M H) (o : SlOk K B v s) : ∃ a vs, v = .ref a ∧ Rd H a (.lst vs) ∧ SlAll K B vs xs := by
  rcases h with ⟨ds, rfl, rfl⟩ | ⟨a, rfl, e⟩
  · cases o with
    | lst hs ha => exact ⟨_, _, rfl, .inl (S.sub _ _ hs), sla_dat ha⟩
  · obtain ⟨_, u, hu, vs, rfl, ha⟩ := S.has a _ e
    exact ⟨a, vs, o, Rd.of hu, ha⟩
theorem TpV.get (h : TpV s xs) (S : Sep K B M H) (o : SlOk K B v s) : ∃ a vs, v = .ref a ∧ SqT K H a vs ∧ SlAll K B vs xs := by
  obtain ⟨ds, rfl, rfl⟩ := h
  cases o with
  | tup hs ha => exact ⟨_, _, rfl, same_t S.sub hs, sla_dat ha⟩
theorem SlAll.len {vs : List V} (h : SlAll K B vs xs) : vs.length = xs.length := Paired.length h
end
/-- where a def stands: the module's part, what is wanted of an exception (W), and what is told of it (X) -/
structure KX where
  K : PySem.W.Frag
  W : WX
  X : Value → Option Addr → Rho → MH → Prop
/-- nothing is raised -/
abbrev KX.pure (K : PySem.W.Frag) : KX := ⟨K, fun _ _ _ _ => False, fun _ _ _ _ => False⟩
instance : Coe KX PySem.W.Frag := ⟨KX.K⟩
instance : Coe PySem.W.Frag KX := ⟨KX.pure⟩
def XOk (k : KX) (B : Hp) : Prop := ∀ C d ρ' M' σ' B' H', k.X C d ρ' M' → Same B B' → Rl0 k.K B' σ' ρ' → Sep k.K B' M' H' → k.W C d σ' H'
structure Rl (k : KX) (B : Hp) (σ : L2.St) (ρ : Rho) : Prop where
  r : Rl0 k.K B σ ρ
  x : XOk k B
section
variable {k : KX} {B B' : Hp} {σ : L2.St} {ρ : Rho}
theorem Rl.mono (e : Same B B') (h : Rl k B σ ρ) : Rl k B' σ ρ := ⟨h.r.mono e, fun C d ρ' M' σ' B2 H' q e2 => h.x C d ρ' M' σ' B2 H' q (e.trans e2)⟩
theorem Rl.get {i : Nat} {s : Sl} (h : Rl k B σ ρ) (e : ρ[i]? = some (some s)) : ∃ v, σ[i]? = some (some v) ∧ SlOk k.K B v s := h.r.get e
theorem Rl.put {v : V} {s : Sl} (r : SlOk k.K B v s) (i : Nat) (h : Rl k B σ ρ) : Rl k B (σ.set i (some v)) (ρ.set i (some s)) := ⟨h.r.put r i, h.x⟩
theorem Rl.non (i : Nat) (h : Rl k B σ ρ) : Rl k B (σ.set i none) (ρ.set i none) := ⟨h.r.non i, h.x⟩
theorem Rl.wiped (h : Rl k B σ ρ) (vs : List Nat) : Rl k B (wipe σ vs) (wipeR ρ vs) := ⟨h.r.wiped vs, h.x⟩
end
def W (K : KX) (te : TE) (ρ : Rho) (M : MH) (Q : Sl → MH → Prop) : Prop :=
  ∀ σ B H, Rl K B σ ρ → Sep K B M H → ∀ Q0 : VK, (∀ s v M' B' H', Q s M' → Same B B' → Sep K B' M' H' → SlOk K B' v s → Q0 v H') → te σ H Q0
def WT (K : KX) (te : TT) (ρ : Rho) (M : MH) (Q : Bool → MH → Prop) : Prop :=
  ∀ σ B H, Rl K B σ ρ → Sep K B M H → ∀ Q0 : Bool → Hp → Prop, (∀ b M' B' H', Q b M' → Same B B' → Sep K B' M' H' → Q0 b H') → te σ H Q0
def WA (K : KX) (te : TA) (ρ : Rho) (M : MH) (Q : List Sl → MH → Prop) : Prop :=
  ∀ σ B H, Rl K B σ ρ → Sep K B M H → ∀ Q0 : List V → Hp → Prop, (∀ ss vs M' B' H', Q ss M' → Same B B' → Sep K B' M' H' → SlAll K B' vs ss → Q0 vs H') → te σ H Q0
def WO (K : KX) (te : TO) (ρ : Rho) (M : MH) (Q : Option Int → MH → Prop) : Prop :=
  ∀ σ B H, Rl K B σ ρ → Sep K B M H → ∀ Q0 : Option Int → Hp → Prop, (∀ b M' B' H', Q b M' → Same B B' → Sep K B' M' H' → Q0 b H') → te σ H Q0
/-- operations on values -/
def W2 (K : PySem.W.Frag) (r : R2) (x y : Sl) (M : MH) (Q : Sl → MH → Prop) : Prop :=
  ∀ B H v w, Sep K B M H → SlOk K B v x → SlOk K B w y → ∀ Q0 : VK, (∀ s z M' B' H', Q s M' → Same B B' → Sep K B' M' H' → SlOk K B' z s → Q0 z H') → r v w H Q0
def W1 (K : PySem.W.Frag) (r : V → Hp → VK → Prop) (x : Sl) (M : MH) (Q : Sl → MH → Prop) : Prop :=
  ∀ B H v, Sep K B M H → SlOk K B v x → ∀ Q0 : VK, (∀ s z M' B' H', Q s M' → Same B B' → Sep K B' M' H' → SlOk K B' z s → Q0 z H') → r v H Q0
def WL (K : PySem.W.Frag) (r : List V → Hp → VK → Prop) (xs : List Sl) (M : MH) (Q : Sl → MH → Prop) : Prop :=
  ∀ B H vs, Sep K B M H → SlAll K B vs xs → ∀ Q0 : VK, (∀ s z M' B' H', Q s M' → Same B B' → Sep K B' M' H' → SlOk K B' z s → Q0 z H') → r vs H Q0
def WM (K : PySem.W.Frag) (r : V → List V → Hp → VK → Prop) (x : Sl) (xs : List Sl) (M : MH) (Q : Sl → MH → Prop) : Prop :=
  ∀ B H v vs, Sep K B M H → SlOk K B v x → SlAll K B vs xs → ∀ Q0 : VK, (∀ s z M' B' H', Q s M' → Same B B' → Sep K B' M' H' → SlOk K B' z s → Q0 z H') → r v vs H Q0
def WSl (K : PySem.W.Frag) (r : V → Option Int → Option Int → Hp → VK → Prop) (x : Sl) (lo hi : Option Int) (M : MH) (Q : Sl → MH → Prop) : Prop :=
  ∀ B H v, Sep K B M H → SlOk K B v x → ∀ Q0 : VK, (∀ s z M' B' H', Q s M' → Same B B' → Sep K B' M' H' → SlOk K B' z s → Q0 z H') → r v lo hi H Q0
/-- targets -/
def WG (K : KX) (g : TG) (x : Sl) (ρ : Rho) (M : MH) (Q : Rho → MH → Prop) : Prop :=
  ∀ σ B H v, Rl K B σ ρ → Sep K B M H → SlOk K B v x → ∀ Q0 : L2.St → Hp → Prop, (∀ ρ' M' σ' B' H', Q ρ' M' → Same B B' → Rl K B' σ' ρ' → Sep K B' M' H' → Q0 σ' H') → g v σ H Q0
/-- statements -/
structure AE where
  nx : Rho → MH → Prop
  rt : Sl → MH → Prop
  bk : Rho → MH → Prop
  ct : Rho → MH → Prop
def NoR : Rho → MH → Prop := fun _ _ => False
def WS (K : KX) (t : TS) (ρ : Rho) (M : MH) (P : AE) : Prop :=
  ∀ σ B H D, Rl K B σ ρ → Sep K B M H →
    (∀ ρ' M' σ' B' H', P.nx ρ' M' → Same B B' → Rl K B' σ' ρ' → Sep K B' M' H' → D.nx σ' H') →
    (∀ s v M' B' H', P.rt s M' → Same B B' → Sep K B' M' H' → SlOk K B' v s → D.rt v H') →
    (∀ ρ' M' σ' B' H', P.bk ρ' M' → Same B B' → Rl K B' σ' ρ' → Sep K B' M' H' → D.bk σ' H') →
    (∀ ρ' M' σ' B' H', P.ct ρ' M' → Same B B' → Rl K B' σ' ρ' → Sep K B' M' H' → D.ct σ' H') → t D σ H
section
variable {K : KX} {ρ : Rho} {M : MH} {Q Q' : Sl → MH → Prop} {ta tb te tc : TE} {r r' : R2} {P : AE}
theorem W.imp (h : W K te ρ M Q) (k : ∀ s M', Q s M' → Q' s M') : W K te ρ M Q' := fun σ B H hR hS Q0 q => h σ B H hR hS Q0 fun s v M' B' H' z => q s v M' B' H' (k _ _ z)
theorem WS.imp {t : TS} {P' : AE} (h : WS K t ρ M P) (h1 : ∀ ρ' M', P.nx ρ' M' → P'.nx ρ' M') (h2 : ∀ s M', P.rt s M' → P'.rt s M') (h3 : ∀ ρ' M', P.bk ρ' M' → P'.bk ρ' M') (h4 : ∀ ρ' M', P.ct ρ' M' → P'.ct ρ' M') : WS K t ρ M P' :=
  fun σ B H D hR hS a b c d => h σ B H D hR hS (fun ρ' M' σ' B' H' z => a ρ' M' σ' B' H' (h1 _ _ z)) (fun s v M' B' H' z => b s v M' B' H' (h2 _ _ z)) (fun ρ' M' σ' B' H' z => c ρ' M' σ' B' H' (h3 _ _ z)) (fun ρ' M' σ' B' H' z => d ρ' M' σ' B' H' (h4 _ _ z))
theorem w_var {i : Nat} {s : Sl} (h : ρ[i]? = some (some s)) (q : Q s M) : W K (tVar i) ρ M Q := fun σ B H hR hS Q0 k => by
  obtain ⟨v, e, o⟩ := hR.get h
  exact ⟨v, e, k s v M B H q (Same.refl B) hS o⟩
theorem w_int {i : Int} (q : Q (.int i) M) : W K (tC (.int i)) ρ M Q := fun σ B H hR hS Q0 k => k _ _ M B H q (Same.refl B) hS slok_int
theorem w_str {x : Str} (q : Q (.str x) M) : W K (tC (.str x)) ρ M Q := fun σ B H hR hS Q0 k => k _ _ M B H q (Same.refl B) hS slok_str
theorem w_bl {b : Bool} (q : Q (.bl b) M) : W K (tC (.bl b)) ρ M Q := fun σ B H hR hS Q0 k => k _ _ M B H q (Same.refl B) hS slok_bl
theorem w_non (q : Q .non M) : W K (tC .non) ρ M Q := fun σ B H hR hS Q0 k => k _ _ M B H q (Same.refl B) hS slok_non
theorem w_raw {v : V} (q : Q (.raw v) M) : W K (tC v) ρ M Q := fun σ B H hR hS Q0 k => k (.raw v) v M B H q (Same.refl B) hS rfl
theorem w_op (h : W K ta ρ M fun x M1 => W K tb ρ M1 fun y M2 => W2 K r x y M2 Q) : W K (tOp r ta tb) ρ M Q := fun σ B H hR hS Q0 k =>
  h σ B H hR hS _ fun x v M1 B1 H1 hb e1 S1 o1 => hb σ B1 H1 (hR.mono e1) S1 _ fun y w M2 B2 H2 hr e2 S2 o2 =>
    hr B2 H2 v w S2 (o1.mono e2) o2 Q0 fun s z M3 B3 H3 q e3 S3 o3 => k s z M3 B3 H3 q ((e1.trans e2).trans e3) S3 o3
theorem w_un {r : V → Hp → VK → Prop} (h : W K ta ρ M fun x M1 => W1 K r x M1 Q) : W K (tUn r ta) ρ M Q := fun σ B H hR hS Q0 k =>
  h σ B H hR hS _ fun x v M1 B1 H1 hr e1 S1 o1 => hr B1 H1 v S1 o1 Q0 fun s z M3 B3 H3 q e3 S3 o3 => k s z M3 B3 H3 q (e1.trans e3) S3 o3
theorem wa_nil {Q : List Sl → MH → Prop} (q : Q [] M) : WA K tNil ρ M Q := fun σ B H hR hS Q0 k => k [] [] M B H q (Same.refl B) hS .nil
theorem wa_cons {tr : TA} {Q : List Sl → MH → Prop} (h : W K ta ρ M fun x M1 => WA K tr ρ M1 fun xs M2 => Q (x :: xs) M2) : WA K (tCons ta tr) ρ M Q := fun σ B H hR hS Q0 k =>
  h σ B H hR hS _ fun x v M1 B1 H1 hb e1 S1 o1 => hb σ B1 H1 (hR.mono e1) S1 _ fun xs vs M2 B2 H2 q e2 S2 o2 =>
    k (x :: xs) (v :: vs) M2 B2 H2 q (e1.trans e2) S2 (.cons (o1.mono e2) o2)
/-- a built-in called -/
theorem w_cb {t : TA} {r : List V → Hp → VK → Prop} (h : WA K t ρ M fun xs M1 => WL K r xs M1 Q) : W K (tCB r t) ρ M Q := fun σ B H hR hS Q0 k =>
  h σ B H hR hS _ fun xs vs M1 B1 H1 hr e1 S1 o1 => hr B1 H1 vs S1 o1 Q0 fun s z M3 B3 H3 q e3 S3 o3 => k s z M3 B3 H3 q (e1.trans e3) S3 o3
/-- a tuple, a list of data -/
theorem w_tup {t : TA} (h : WA K t ρ M fun xs M1 => ∃ ds, xs = ds.map .dat ∧ ds.length ≤ 1000000 ∧ Q (.dat (.tuple ds)) M1) : W K (tTup t) ρ M Q := fun σ B H hR hS Q0 k =>
  h σ B H hR hS _ fun xs vs M1 B1 H1 ⟨ds, e, hl, q⟩ e1 S1 o1 => by
    subst e
    have hd := dpa_of o1
    have hlen := DqAll.length hd
    exact ⟨Nat.le_trans (by omega) (show 1000000 ≤ sizeLine by decide), fun p hp => k _ _ M1 (upd B1 p (.tup vs)) _ q (e1.trans (same_new (S1.freeB hp))) (S1.alloc hp) (Dq.tup (SqT.of upd_same) (dpa_same (same_new (S1.freeB hp)) _ _ hd))⟩
theorem w_lst {t : TA} (h : WA K t ρ M fun xs M1 => ∃ ds, xs = ds.map .dat ∧ ds.length ≤ 1000000 ∧ Q (.dat (.list ds)) M1) : W K (tLst t) ρ M Q := fun σ B H hR hS Q0 k =>
  h σ B H hR hS _ fun xs vs M1 B1 H1 ⟨ds, e, hl, q⟩ e1 S1 o1 => by
    subst e
    have hd := dpa_of o1
    have hlen := DqAll.length hd
    exact ⟨Nat.le_trans (by omega) (show 1000000 ≤ sizeLine by decide), fun p hp => k _ _ M1 (upd B1 p (.lst vs)) _ q (e1.trans (same_new (S1.freeB hp))) (S1.alloc hp) (Dq.lst upd_same (dpa_same (same_new (S1.freeB hp)) _ _ hd))⟩
/-- a list that will be changed -/
theorem w_lstM {t : TA} (h : WA K t ρ M fun xs M1 => xs.length ≤ 1000000 ∧ ∀ p, M1 p = none → Q (.raw (.ref p)) (um M1 p (.lst xs))) : W K (tLst t) ρ M Q := fun σ B H hR hS Q0 k =>
  h σ B H hR hS _ fun xs vs M1 B1 H1 ⟨hl, q⟩ e1 S1 o1 => by
    have hlen := SlAll.len o1
    exact ⟨Nat.le_trans (by omega) (show 1000000 ≤ sizeLine by decide), fun p hp => k _ _ _ B1 _ (q p (S1.freeM hp)) e1 (S1.new hp ⟨vs, rfl, o1⟩) rfl⟩
/-- tests -/
theorem wt_test {Q : Bool → MH → Prop} (h : W K te ρ M fun s M1 => ∃ b, s = .bl b ∧ Q b M1) : WT K (tTest te) ρ M Q := fun σ B H hR hS Q0 k =>
  h σ B H hR hS _ fun s v M1 B1 H1 ⟨b, e, q⟩ e1 S1 o1 => by
    subst e
    exact ⟨b, of_bl o1, k b M1 B1 H1 q e1 S1⟩
theorem wt_B {Q : Bool → MH → Prop} (h : W K te ρ M fun s M1 => ∃ b, s = .bl b ∧ Q b M1) : WT K (tB te) ρ M Q := fun σ B H hR hS Q0 k =>
  h σ B H hR hS _ fun s v M1 B1 H1 ⟨b, e, q⟩ e1 S1 o1 => by
    subst e
    exact ⟨b, of_bl o1, k b M1 B1 H1 q e1 S1⟩
theorem wt_and {t u : TT} {Q : Bool → MH → Prop} (h : WT K t ρ M fun b M1 => if b = true then WT K u ρ M1 Q else Q false M1) : WT K (tAnd t u) ρ M Q := fun σ B H hR hS Q0 k =>
  h σ B H hR hS _ fun b M1 B1 H1 q e1 S1 => by
    cases b with
    | true => exact q σ B1 H1 (hR.mono e1) S1 Q0 fun b2 M2 B2 H2 q2 e2 S2 => k b2 M2 B2 H2 q2 (e1.trans e2) S2
    | false => exact k false M1 B1 H1 q e1 S1
theorem wt_or {t u : TT} {Q : Bool → MH → Prop} (h : WT K t ρ M fun b M1 => if b = true then Q true M1 else WT K u ρ M1 Q) : WT K (tOr t u) ρ M Q := fun σ B H hR hS Q0 k =>
  h σ B H hR hS _ fun b M1 B1 H1 q e1 S1 => by
    cases b with
    | false => exact q σ B1 H1 (hR.mono e1) S1 Q0 fun b2 M2 B2 H2 q2 e2 S2 => k b2 M2 B2 H2 q2 (e1.trans e2) S2
    | true => exact k true M1 B1 H1 q e1 S1
theorem wt_not {t : TT} {Q : Bool → MH → Prop} (h : WT K t ρ M fun b M1 => Q (!b) M1) : WT K (tNot t) ρ M Q := fun σ B H hR hS Q0 k =>
  h σ B H hR hS _ fun b M1 B1 H1 q e1 S1 => k _ M1 B1 H1 q e1 S1
theorem w_if {t : TT} (h : WT K t ρ M fun b M1 => if b = true then W K ta ρ M1 Q else W K tb ρ M1 Q) : W K (tIf t ta tb) ρ M Q := fun σ B H hR hS Q0 k =>
  h σ B H hR hS _ fun b M1 B1 H1 q e1 S1 => by
    cases b with
    | true => exact q σ B1 H1 (hR.mono e1) S1 Q0 fun s v M2 B2 H2 q2 e2 S2 o2 => k s v M2 B2 H2 q2 (e1.trans e2) S2 o2
    | false => exact q σ B1 H1 (hR.mono e1) S1 Q0 fun s v M2 B2 H2 q2 e2 S2 o2 => k s v M2 B2 H2 q2 (e1.trans e2) S2 o2
theorem w_andV (h : W K ta ρ M fun s M1 => ∃ b, s = .bl b ∧ if b = true then W K tb ρ M1 Q else Q (.bl false) M1) : W K (tAndV ta tb) ρ M Q := fun σ B H hR hS Q0 k =>
  h σ B H hR hS _ fun s v M1 B1 H1 ⟨b, e, q⟩ e1 S1 o1 => by
    subst e
    refine ⟨b, of_bl o1, ?_⟩
    cases b with
    | true => exact q σ B1 H1 (hR.mono e1) S1 Q0 fun s v M2 B2 H2 q2 e2 S2 o2 => k s v M2 B2 H2 q2 (e1.trans e2) S2 o2
    | false => exact k _ _ M1 B1 H1 q e1 S1 slok_bl
theorem w_orV (h : W K ta ρ M fun s M1 => ∃ b, s = .bl b ∧ if b = true then Q (.bl true) M1 else W K tb ρ M1 Q) : W K (tOrV ta tb) ρ M Q := fun σ B H hR hS Q0 k =>
  h σ B H hR hS _ fun s v M1 B1 H1 ⟨b, e, q⟩ e1 S1 o1 => by
    subst e
    refine ⟨b, of_bl o1, ?_⟩
    cases b with
    | false => exact q σ B1 H1 (hR.mono e1) S1 Q0 fun s v M2 B2 H2 q2 e2 S2 o2 => k s v M2 B2 H2 q2 (e1.trans e2) S2 o2
    | true => exact k _ _ M1 B1 H1 q e1 S1 slok_bl
theorem w_notV (h : W K ta ρ M fun s M1 => ∃ b, s = .bl b ∧ Q (.bl (!b)) M1) : W K (tNotV ta) ρ M Q := fun σ B H hR hS Q0 k =>
  h σ B H hR hS _ fun s v M1 B1 H1 ⟨b, e, q⟩ e1 S1 o1 => by
    subst e
    exact ⟨b, of_bl o1, k _ _ M1 B1 H1 q e1 S1 slok_bl⟩
theorem w_chain (h : W K ta ρ M fun x M1 => W K tb ρ M1 fun y M2 => W2 K r x y M2 fun z M3 => ∃ b, z = .bl b ∧ if b = true then W K tc ρ M3 fun w M4 => W2 K r' y w M4 Q else Q (.bl false) M3) :
    W K (tChain r r' ta tb tc) ρ M Q := fun σ B H hR hS Q0 k =>
  h σ B H hR hS _ fun x v M1 B1 H1 hb e1 S1 o1 => hb σ B1 H1 (hR.mono e1) S1 _ fun y w M2 B2 H2 hr e2 S2 o2 =>
    hr B2 H2 v w S2 (o1.mono e2) o2 _ fun s z M3 B3 H3 ⟨b, eb, q⟩ e3 S3 o3 => by
      subst eb
      refine ⟨b, of_bl o3, ?_⟩
      cases b with
      | true =>
        show tc σ H3 _
        exact q σ B3 H3 (hR.mono ((e1.trans e2).trans e3)) S3 _ fun y' w' M4 B4 H4 q4 e4 S4 o4 => q4 B4 H4 w w' S4 (o2.mono (e3.trans e4)) o4 Q0 fun s5 z5 M5 B5 H5 q5 e5 S5 o5 => k s5 z5 M5 B5 H5 q5 ((((e1.trans e2).trans e3).trans e4).trans e5) S5 o5
      | false =>
        show Q0 (.bl false) H3
        exact k _ _ M3 B3 H3 q ((e1.trans e2).trans e3) S3 slok_bl
/-- slices -/
theorem wo_none {Q : Option Int → MH → Prop} (q : Q none M) : WO K tNoPart ρ M Q := fun σ B H hR hS Q0 k => k none M B H q (Same.refl B) hS
theorem wo_some {Q : Option Int → MH → Prop} (h : W K te ρ M fun s M1 => ∃ i, s = .int i ∧ Q (some i) M1) : WO K (tPart te) ρ M Q := fun σ B H hR hS Q0 k =>
  h σ B H hR hS _ fun s v M1 B1 H1 ⟨i, e, q⟩ e1 S1 o1 => by
    subst e
    exact ⟨i, of_int o1, k _ M1 B1 H1 q e1 S1⟩
theorem w_sl {r : V → Option Int → Option Int → Hp → VK → Prop} {tl th : TO} (h : W K te ρ M fun x M1 => WO K tl ρ M1 fun lo M2 => WO K th ρ M2 fun hi M3 => WSl K r x lo hi M3 Q) : W K (tSl r te tl th) ρ M Q := fun σ B H hR hS Q0 k =>
  h σ B H hR hS _ fun x v M1 B1 H1 h1 e1 S1 o1 => h1 σ B1 H1 (hR.mono e1) S1 _ fun lo M2 B2 H2 h2 e2 S2 => h2 σ B2 H2 (hR.mono (e1.trans e2)) S2 _ fun hi M3 B3 H3 h3 e3 S3 =>
    h3 B3 H3 v S3 (o1.mono (e2.trans e3)) Q0 fun s z M4 B4 H4 q e4 S4 o4 => k s z M4 B4 H4 q (((e1.trans e2).trans e3).trans e4) S4 o4
/-- methods of built-in types -/
theorem w_bm {T : String} {r : V → List V → Hp → VK → Prop} {t : TA} (h : W K ta ρ M fun x M1 => (∀ B H v, Sep K B M1 H → SlOk K B v x → tyV K T v H) ∧ WA K t ρ M1 fun xs M2 => WM K r x xs M2 Q) : W K (tBM K T r ta t) ρ M Q := fun σ B H hR hS Q0 k =>
  h σ B H hR hS _ fun x v M1 B1 H1 ⟨ht, h1⟩ e1 S1 o1 => ⟨ht B1 H1 v S1 o1, h1 σ B1 H1 (hR.mono e1) S1 _ fun xs vs M2 B2 H2 h2 e2 S2 o2 =>
    h2 B2 H2 v vs S2 (o1.mono e2) o2 Q0 fun s z M4 B4 H4 q e4 S4 o4 => k s z M4 B4 H4 q ((e1.trans e2).trans e4) S4 o4⟩
theorem ty_lst {K : PySem.W.Frag} {s : Sl} {xs : List Sl} (h : LsV K s M xs) : ∀ B H v, Sep K B M H → SlOk K B v s → tyV K "list" v H := fun B H v S o => by
  obtain ⟨a, vs, e, hq, _⟩ := h.get S o
  subst e
  exact .inl ⟨rfl, _, hq⟩
end
end Ab
set_option Elab.async false
set_option linter.all false
set_option maxRecDepth 1000000
set_option  maxHeartbeats 4000000
namespace Ab
open PySem L2
section
variable {K : KX} {ρ : Rho} {M : MH} {Q Q' : Sl → MH → Prop} {ta tb te tc : TE} {r r' : R2} {nx bk ct : Rho → MH → Prop} {rt : Sl → MH → Prop}
theorem ws_next (q : nx ρ M) : WS K tNext ρ M ⟨nx, rt, bk, ct⟩ := fun σ B H D hR hS a b c d => a ρ M σ B H q (Same.refl B) hR hS
theorem ws_seq {t u : TS} (h : WS K t ρ M ⟨fun ρ' M' => WS K u ρ' M' ⟨nx, rt, bk, ct⟩, rt, bk, ct⟩) : WS K (tSeq t u) ρ M ⟨nx, rt, bk, ct⟩ := fun σ B H D hR hS a b c d =>
  h σ B H { D with nx := u D } hR hS (fun ρ1 M1 σ1 B1 H1 q e1 R1 S1 => q σ1 B1 H1 D R1 S1 (fun ρ2 M2 σ2 B2 H2 q2 e2 => a ρ2 M2 σ2 B2 H2 q2 (e1.trans e2)) (fun s v M2 B2 H2 q2 e2 => b s v M2 B2 H2 q2 (e1.trans e2))
    (fun ρ2 M2 σ2 B2 H2 q2 e2 => c ρ2 M2 σ2 B2 H2 q2 (e1.trans e2)) (fun ρ2 M2 σ2 B2 H2 q2 e2 => d ρ2 M2 σ2 B2 H2 q2 (e1.trans e2))) b c d
theorem ws_drop (h : W K te ρ M fun _ M' => nx ρ M') : WS K (tDrop te) ρ M ⟨nx, rt, bk, ct⟩ := fun σ B H D hR hS a b c d =>
  h σ B H hR hS _ fun s v M' B' H' q e S o => a ρ M' σ B' H' q e (hR.mono e) S
theorem ws_ret (h : W K te ρ M rt) : WS K (tRet te) ρ M ⟨nx, rt, bk, ct⟩ := fun σ B H D hR hS a b c d => h σ B H hR hS _ fun s v M' B' H' q e S o => b s v M' B' H' q e S o
theorem ws_if {t : TT} {tu tw : TS} (h : WT K t ρ M fun b M' => if b = true then WS K tu ρ M' ⟨nx, rt, bk, ct⟩ else WS K tw ρ M' ⟨nx, rt, bk, ct⟩) : WS K (tIfS t tu tw) ρ M ⟨nx, rt, bk, ct⟩ := fun σ B H D hR hS a b c d =>
  h σ B H hR hS _ fun k M1 B1 H1 q e1 S1 => by
    cases k with
    | true =>
      exact q σ B1 H1 D (hR.mono e1) S1 (fun ρ2 M2 σ2 B2 H2 q2 e2 => a ρ2 M2 σ2 B2 H2 q2 (e1.trans e2)) (fun s v M2 B2 H2 q2 e2 => b s v M2 B2 H2 q2 (e1.trans e2)) (fun ρ2 M2 σ2 B2 H2 q2 e2 => c ρ2 M2 σ2 B2 H2 q2 (e1.trans e2)) (fun ρ2 M2 σ2 B2 H2 q2 e2 => d ρ2 M2 σ2 B2 H2 q2 (e1.trans e2))
    | false =>
      exact q σ B1 H1 D (hR.mono e1) S1 (fun ρ2 M2 σ2 B2 H2 q2 e2 => a ρ2 M2 σ2 B2 H2 q2 (e1.trans e2)) (fun s v M2 B2 H2 q2 e2 => b s v M2 B2 H2 q2 (e1.trans e2)) (fun ρ2 M2 σ2 B2 H2 q2 e2 => c ρ2 M2 σ2 B2 H2 q2 (e1.trans e2)) (fun ρ2 M2 σ2 B2 H2 q2 e2 => d ρ2 M2 σ2 B2 H2 q2 (e1.trans e2))
theorem ws_asg {g : TG} (h : W K te ρ M fun s M1 => WG K g s ρ M1 nx) : WS K (tAsg te g) ρ M ⟨nx, rt, bk, ct⟩ := fun σ B H D hR hS a b c d =>
  h σ B H hR hS _ fun s v M1 B1 H1 q e1 S1 o1 => q σ B1 H1 v (hR.mono e1) S1 o1 D.nx fun ρ2 M2 σ2 B2 H2 q2 e2 R2 S2 => a ρ2 M2 σ2 B2 H2 q2 (e1.trans e2) R2 S2
theorem wg_name {i : Nat} {x : Sl} {Q : Rho → MH → Prop} (q : Q (ρ.set i (some x)) M) : WG K (gName i) x ρ M Q := fun σ B H v hR hS o Q0 k => k _ M _ B H q (Same.refl B) (Rl.put o i hR) hS
theorem ws_set {i : Nat} (h : W K te ρ M fun s M1 => nx (ρ.set i (some s)) M1) : WS K (tAsg te (gName i)) ρ M ⟨nx, rt, bk, ct⟩ := ws_asg (h.imp fun s M1 q => wg_name q)
/-- targets a, b -/
def WGs (K : KX) (g : TGs) (xs : List Sl) (ρ : Rho) (M : MH) (Q : Rho → MH → Prop) : Prop :=
  ∀ σ B H vs, Rl K B σ ρ → Sep K B M H → SlAll K B vs xs → ∀ Q0 : L2.St → Hp → Prop, (∀ ρ' M' σ' B' H', Q ρ' M' → Same B B' → Rl K B' σ' ρ' → Sep K B' M' H' → Q0 σ' H') → g vs σ H Q0
theorem wgs_nil {Q : Rho → MH → Prop} (q : Q ρ M) : WGs K gNil [] ρ M Q := fun σ B H vs hR hS o Q0 k => by
  cases o
  exact ⟨rfl, k ρ M σ B H q (Same.refl B) hR hS⟩
theorem wgs_cons {g : TG} {gs : TGs} {x : Sl} {xs : List Sl} {Q : Rho → MH → Prop} (h : WG K g x ρ M fun ρ1 M1 => WGs K gs xs ρ1 M1 Q) : WGs K (gCons g gs) (x :: xs) ρ M Q := fun σ B H vs hR hS o Q0 k => by
  cases o with
  | cons o1 o2 =>
    exact ⟨_, _, rfl, h σ B H _ hR hS o1 _ fun ρ1 M1 σ1 B1 H1 q e1 R1 S1 => q σ1 B1 H1 _ R1 S1 (SlAll.mono e1 o2) Q0 fun ρ2 M2 σ2 B2 H2 q2 e2 R2 S2 => k ρ2 M2 σ2 B2 H2 q2 (e1.trans e2) R2 S2⟩
theorem wg_tup {n : Nat} {g : TGs} {x : Sl} {ds : List PyData} {Q : Rho → MH → Prop} (hx : x = .dat (.tuple ds)) (hn : ds.length = n) (h : WGs K g (ds.map .dat) ρ M Q) : WG K (gTup K n g) x ρ M Q := fun σ B H v hR hS o Q0 k => by
  subst hx
  obtain ⟨a, vs, e, hq, ha⟩ := (tpv_dat (ds := ds)).get hS o
  exact ⟨a, vs, e, hq, by rw [SlAll.len ha, List.length_map, hn], h σ B H vs hR hS ha Q0 k⟩
theorem ws_aug {i : Nat} {f : Int → Int → Int} {a : Int} (hx : ρ[i]? = some (some (.int a))) (h : W K te ρ M fun s M1 => ∃ b, s = .int b ∧ nx (ρ.set i (some (.int (f a b)))) M1) : WS K (tAug i te (ipI f)) ρ M ⟨nx, rt, bk, ct⟩ := fun σ B H D hR hS p1 p2 p3 p4 => by
  obtain ⟨v, e, o⟩ := hR.get hx
  exact ⟨v, e, h σ B H hR hS _ fun s w M1 B1 H1 ⟨b, es, q⟩ e1 S1 o1 => by
    subst es
    exact ⟨a, b, of_int o, of_int o1, p1 _ M1 _ B1 H1 q e1 (Rl.put slok_int i (hR.mono e1)) S1⟩⟩
/-- o[i] = e, a list that may change -/
theorem ws_setL {to ti : TE} (h : W K te ρ M fun s M1 => W K to ρ M1 fun o M2 => W K ti ρ M2 fun ix M3 => ∃ a xs k j, o = .raw (.ref a) ∧ ix = .int k ∧ M3 a = some (.lst xs) ∧ ixN xs.length k = some j ∧ nx ρ (um M3 a (.lst (xs.set j s)))) : WS K (tAsg te (gSub to ti rSetL)) ρ M ⟨nx, rt, bk, ct⟩ := fun σ B H D hR hS p1 p2 p3 p4 =>
  h σ B H hR hS _ fun s v M1 B1 H1 h1 e1 S1 o1 => h1 σ B1 H1 (hR.mono e1) S1 _ fun o w M2 B2 H2 h2 e2 S2 o2 => h2 σ B2 H2 (hR.mono (e1.trans e2)) S2 _ fun ix u M3 B3 H3 ⟨a, xs, k, j, eo, ei, hM, hj, q⟩ e3 S3 o3 => by
    subst eo ei
    obtain ⟨_, u1, hu, vs, rfl, ha⟩ := S3.has a _ hM
    have hl := SlAll.len ha
    refine ⟨a, vs, k, j, o2, of_int o3, hu, by rw [hl]; exact hj, ?_⟩
    exact p1 ρ _ σ B3 _ q ((e1.trans e2).trans e3) (hR.mono ((e1.trans e2).trans e3)) (S3.put hM ⟨_, rfl, SlAll.setI (o1.mono (e2.trans e3)) j ha⟩)
/-- o[i] += e, a list of ints -/
def rGetL (K : PySem.W.Frag) : V → V → Hp → VK → Prop := fun o i H Q => ∃ p xs k j v, o = .ref p ∧ i = .int k ∧ SqL K H p xs ∧ 0 ≤ k ∧ k.toNat = j ∧ xs[j]? = some v ∧ Q v H
theorem pget_list {X : Cx} : PGet X (rGetL X.K) := by
  intro pins s σ H o i ov iv Q I ro ri h
  obtain ⟨p, xs, k, j, v, rfl, rfl, hq, h0, hj, hv, q⟩ := h
  cases ro
  obtain ⟨t, rfl⟩ := ri
  obtain ⟨its, r, pl, fits⟩ := I.list hq
  obtain ⟨w, ew, rw'⟩ := r.get hv
  have hl := r.length
  have hn := line63
  have hjl := (List.getElem?_eq_some_iff.mp ew).1
  subst hj
  exact wpAny_getItem_list pl.isList h0 (by omega) (by simpa using ew) ⟨v, H, I, rw', q⟩
theorem ws_augL {to ti : TE} {f : Int → Int → Int} (h : W K to ρ M fun o M1 => W K ti ρ M1 fun ix M2 => ∃ a xs k x, o = .raw (.ref a) ∧ ix = .int (k : Nat) ∧ M2 a = some (.lst xs) ∧ xs[k]? = some (.int x) ∧ W K te ρ M2 fun s M3 => ∃ b, s = .int b ∧ M3 a = some (.lst xs) ∧ nx ρ (um M3 a (.lst (xs.set k (.int (f x b)))))) :
    WS K (tAugS to ti te (rGetL K) (ipI f) rSetL) ρ M ⟨nx, rt, bk, ct⟩ := fun σ B H D hR hS p1 p2 p3 p4 =>
  h σ B H hR hS _ fun o v M1 B1 H1 h1 e1 S1 o1 => h1 σ B1 H1 (hR.mono e1) S1 _ fun ix w M2 B2 H2 ⟨a, xs, k, x, eo, ei, hM, hx, h2⟩ e2 S2 o2 => by
    subst eo ei
    obtain ⟨_, u1, hu, vs, rfl, ha⟩ := S2.has a _ hM
    obtain ⟨y, hy, oy⟩ := SlAll.get ha hx
    refine ⟨a, vs, k, k, y, o1, of_int o2, SqL.of hu, by omega, by omega, hy, ?_⟩
    refine h2 σ B2 H2 (hR.mono (e1.trans e2)) S2 _ fun s z M3 B3 H3 ⟨b, es, hM3, q⟩ e3 S3 o3 => ?_
    subst es
    obtain ⟨_, u3, hu3, vs3, rfl, ha3⟩ := S3.has a _ hM3
    have hk : k < xs.length := (List.getElem?_eq_some_iff.mp hx).1
    have hl := SlAll.len ha3
    refine ⟨x, b, of_int oy, of_int o3, a, vs3, k, k, o1, of_int o2, hu3, ?_, ?_⟩
    · unfold ixN
      iterate 2 rw [if_pos (by omega)]
      simp
    · exact p1 ρ _ σ B3 _ q ((e1.trans e2).trans e3) (hR.mono ((e1.trans e2).trans e3)) (S3.put hM3 ⟨_, rfl, SlAll.setI slok_int k ha3⟩)
theorem w2_i0 {K : PySem.W.Frag} {f : Int → Int → Int} {i j : Int} (q : Q (.int (f i j)) M) : W2 K (rI0 fun i j => .int (f i j)) (.int i) (.int j) M Q := fun B H v w hS h1 h2 Q0 k => ⟨i, j, of_int h1, of_int h2, k _ _ M B H q (Same.refl B) hS slok_int⟩
theorem w2_b0 {K : PySem.W.Frag} {f : Int → Int → Bool} {i j : Int} (q : Q (.bl (f i j)) M) : W2 K (rI0 fun i j => .bl (f i j)) (.int i) (.int j) M Q := fun B H v w hS h1 h2 Q0 k => ⟨i, j, of_int h1, of_int h2, k _ _ M B H q (Same.refl B) hS slok_bl⟩
theorem w2_i {K : PySem.W.Frag} {C : Int → Int → Prop} {f : Int → Int → Int} {i j : Int} (hc : C i j) (q : Q (.int (f i j)) M) : W2 K (rI C fun i j => .int (f i j)) (.int i) (.int j) M Q := fun B H v w hS h1 h2 Q0 k => ⟨i, j, of_int h1, of_int h2, hc, k _ _ M B H q (Same.refl B) hS slok_int⟩
theorem w1_neg {K : PySem.W.Frag} {i : Int} (q : Q (.int (-i)) M) : W1 K (rU fun i => .int (-i)) (.int i) M Q := fun B H v hS h1 Q0 k => ⟨i, of_int h1, k _ _ M B H q (Same.refl B) hS slok_int⟩
theorem w2_eq {K : PySem.W.Frag} {d e : PyData} (h1 : SeqAt.shaped d = true) (h2 : SeqAt.shaped e = true) (q : Q (.bl (PyData.eqv d e)) M) : W2 K (rEqD K) (.dat d) (.dat e) M Q := fun B H v w hS o1 o2 Q0 k =>
  ⟨d, e, dq_dp _ _ (dp_same hS.sub _ _ o1), dq_dp _ _ (dp_same hS.sub _ _ o2), h1, h2, k _ _ M B H q (Same.refl B) hS slok_bl⟩
theorem w2_ne {K : PySem.W.Frag} {d e : PyData} (h1 : SeqAt.shaped d = true) (h2 : SeqAt.shaped e = true) (q : Q (.bl (!PyData.eqv d e)) M) : W2 K (rNeD K) (.dat d) (.dat e) M Q := fun B H v w hS o1 o2 Q0 k =>
  ⟨d, e, dq_dp _ _ (dp_same hS.sub _ _ o1), dq_dp _ _ (dp_same hS.sub _ _ o2), h1, h2, k _ _ M B H q (Same.refl B) hS slok_bl⟩
/-- is None, is not None -/
def rIsN : R2 := fun u z H Q => z = .non ∧ Q (.bl (decide (u = .non))) H
def rNotN : R2 := fun u z H Q => z = .non ∧ Q (.bl (!decide (u = .non))) H
def isNon : PyData → Bool
  | .none => true
  | _ => false
theorem dp_non {K : PySem.W.Frag} {B : Hp} {v : V} {d : PyData} (h : Dq K B v d) : decide (v = .non) = isNon d := by
  cases h <;> first | rfl | exact decide_eq_false (fun e => nomatch e)
theorem w2_isN {K : PySem.W.Frag} {d : PyData} (q : Q (.bl (isNon d)) M) : W2 K rIsN (.dat d) .non M Q := fun B H v w hS o1 o2 Q0 k => ⟨of_non o2, by
  rw [dp_non o1]
  exact k _ _ M B H q (Same.refl B) hS slok_bl⟩
theorem w2_notN {K : PySem.W.Frag} {d : PyData} (q : Q (.bl (!isNon d)) M) : W2 K rNotN (.dat d) .non M Q := fun B H v w hS o1 o2 Q0 k => ⟨of_non o2, by
  rw [dp_non o1]
  exact k _ _ M B H q (Same.refl B) hS slok_bl⟩
/-- xs[i], t[i], s[i] -/
theorem atI_map {α β : Type} (f : α → β) (xs : List α) (i : Int) : atI (xs.map f) i = (atI xs i).map f := by
  unfold atI
  rw [List.length_map]
  cases ixN xs.length i with
  | none => rfl
  | some j => simp
theorem slall_atI {K : PySem.W.Frag} {B : Hp} {vs : List V} {ss : List Sl} {s : Sl} {i : Int} (h : SlAll K B vs ss) (e : atI ss i = some s) : ∃ v, atI vs i = some v ∧ SlOk K B v s := by
  unfold atI at e ⊢
  rw [SlAll.len h]
  cases hj : ixN ss.length i with
  | none => rw [hj] at e; cases e
  | some j =>
    rw [hj] at e
    exact SlAll.get h e
theorem w2_ixL {K : PySem.W.Frag} {s x : Sl} {xs : List Sl} {i : Int} (hs : LsV K s M xs) (hx : atI xs i = some x) (q : Q x M) : W2 K (rIxL K) s (.int i) M Q := fun B H v w hS o1 o2 Q0 k => by
  obtain ⟨a, vs, rfl, hq, ha⟩ := hs.get hS o1
  obtain ⟨z, hz, oz⟩ := slall_atI ha hx
  exact ⟨a, vs, i, z, rfl, of_int o2, hq, hz, k x z M B H q (Same.refl B) hS oz⟩
theorem w2_ixT {K : PySem.W.Frag} {d : PyData} {ds : List PyData} {i : Int} (hx : atI ds i = some d) (q : Q (.dat d) M) : W2 K (rIxT K) (.dat (.tuple ds)) (.int i) M Q := fun B H v w hS o1 o2 Q0 k => by
  obtain ⟨a, vs, rfl, hq, ha⟩ := (tpv_dat (ds := ds)).get hS o1
  obtain ⟨z, hz, oz⟩ := slall_atI (s := .dat d) ha (by rw [atI_map, hx]; rfl)
  exact ⟨a, vs, i, z, rfl, of_int o2, hq, hz, k _ z M B H q (Same.refl B) hS oz⟩
theorem w2_ixS {K : PySem.W.Frag} {z : Str} {i : Int} {c : Nat} (hz : z.length ≤ 1000000) (hx : atI z.cps.toList i = some c) (q : Q (.str ⟨#[c]⟩) M) : W2 K rIxS (.str z) (.int i) M Q := fun B H v w hS o1 o2 Q0 k =>
  ⟨z, i, c, of_str o1, of_int o2, Nat.le_trans hz (by decide), hx, k _ _ M B H q (Same.refl B) hS slok_str⟩
/-- xs + ys, lists that are read -/
def rCatL (K : PySem.W.Frag) : R2 := fun x y H Q => ∃ l b xs zs, x = .ref l ∧ y = .ref b ∧ SqL K H l xs ∧ SqL K H b zs ∧ xs.length + zs.length ≤ sizeLine ∧ ∀ p, H p = none → Q (.ref p) (upd H p (.lst (xs ++ zs)))
theorem op_catL {X : Cx} : OpR X (binaryOp .Add) (rCatL X.K) := fun pins s σ H x y v u Q I rx ry ⟨l, m, us, ws, e1, e2, hU, hW, hz, q⟩ => by
  subst e1 e2
  cases rx
  cases ry
  have sizes : us.length + ws.length ≤ sizeLine := hz
  obtain ⟨is, r, ⟨⟨_, _, _, sl⟩, n, ho, hc, hdn, hd⟩, _⟩ := I.list hU
  obtain ⟨js, r2, ⟨⟨_, _, _, sl2⟩, n2, ho2, hc2, hdn2, hd2⟩, _⟩ := I.list hW
  simp only at hc hd hdn hc2 hd2 hdn2
  subst hc hd hdn hc2 hd2 hdn2
  have k1 := r.length
  have k2 := r2.length
  refine concat_meets ⟨_, ho, rfl⟩ ⟨_, ho2, rfl⟩ PySem.noFill_list_add PySem.seq_list_add PySem.F.slot_list_add PySem.F.entry_list_add (PySem.F.args_list_add_2 _ _) (PyProof.Rows.list_addW l m is.toArray js.toArray n n2 none none sl sl2 (by simp; omega)) ⟨ho, ho2, ?_⟩
  rw [show is.toArray ++ js.toArray = (is ++ js).toArray by simp]
  exact ⟨.ref _, _, I.lnew (t' := s.toks) (r.append r2) (by simp; omega), rfl, q _ I.fresh⟩
theorem lst_ok {K : PySem.W.Frag} {B : Hp} {p : Addr} {vs : List V} {ds : List PyData} (h : DqAll K B vs ds) (hp : B p = none) : SlOk K (upd B p (.lst vs)) (.ref p) (.dat (.list ds)) := Dq.lst upd_same (dpa_same (same_new hp) _ _ h)
theorem tup_ok {K : PySem.W.Frag} {B : Hp} {p : Addr} {vs : List V} {ds : List PyData} (h : DqAll K B vs ds) (hp : B p = none) : SlOk K (upd B p (.tup vs)) (.ref p) (.dat (.tuple ds)) := Dq.tup (SqT.of upd_same) (dpa_same (same_new hp) _ _ h)
theorem w2_cat {K : PySem.W.Frag} {s t : Sl} {ds es : List PyData} (h1 : LsV K s M (ds.map .dat)) (h2 : LsV K t M (es.map .dat)) (hl : ds.length + es.length ≤ 1000000) (q : Q (.dat (.list (ds ++ es))) M) : W2 K (rCatL K) s t M Q := fun B H v w hS o1 o2 Q0 k => by
  obtain ⟨a, vs, rfl, hq, ha⟩ := h1.get hS o1
  obtain ⟨b, ws, rfl, hq2, ha2⟩ := h2.get hS o2
  have l1 := SlAll.len ha
  have l2 := SlAll.len ha2
  rw [List.length_map] at l1 l2
  refine ⟨a, b, vs, ws, rfl, rfl, hq, hq2, Nat.le_trans (by omega) (show 1000000 ≤ sizeLine by decide), fun p hp => ?_⟩
  exact k _ _ M (upd B p (.lst (vs ++ ws))) _ q (same_new (hS.freeB hp)) (hS.alloc hp) (lst_ok (DqAll.app (dpa_of ha) (dpa_of ha2)) (hS.freeB hp))
/-- [x] * n -/
def repD (ds : List PyData) (n : Nat) : List PyData := (List.replicate n ds).flatten
theorem dpa_rep {K : PySem.W.Frag} {B : Hp} {vs : List V} {ds : List PyData} (h : DqAll K B vs ds) : ∀ n : Nat, DqAll K B (List.replicate n vs).flatten (repD ds n)
  | 0 => .nil
  | n + 1 => by
    unfold repD
    simp only [List.replicate_succ, List.flatten_cons]
    exact DqAll.app h (dpa_rep h n)
/-- a list that is read, times an int -/
def rRepL : R2 := fun x y H Q => ∃ l k xs, x = .ref l ∧ y = .int k ∧ Rd H l (.lst xs) ∧ -(2 ^ 63) ≤ k ∧ k < 2 ^ 63 ∧ xs.length * k.toNat ≤ sizeLine ∧ ∀ p, H p = none → Q (.ref p) (upd H p (.lst (List.replicate k.toNat xs).flatten))
theorem rep_arr (r : List Value) (m : Nat) : (List.replicate (if r.toArray.isEmpty = true then 0 else m) r.toArray).foldl (· ++ ·) #[] = (List.replicate m r).flatten.toArray := by
  have all : (List.replicate m r.toArray).foldl (· ++ ·) #[] = (List.replicate m r).flatten.toArray := by simpa using foldl_rep r m []
  match r, all with
  | [], _ => simp
  | _ :: _, e => rw [if_neg (by simp)]; exact e
theorem op_repL {X : Cx} : OpR X (binaryOp .Mult) rRepL := fun pins s σ H x y v u Q I rx ry ⟨l, n, vs, e1, e2, hR, n1, n2, hn, q⟩ => by
  subst e1 e2
  cases rx
  obtain ⟨t, rfl⟩ := ry
  obtain ⟨_, rs, m, r, o⟩ := hR.ok I.hok
  have sz : rs.toArray.size * n.toNat ≤ sizeLine := by simpa [← r.length] using hn
  have big : (sizeLine : Nat) ≤ (2 ^ 63 - 1) / 8 := by decide
  have call := AutoListH.list___mul___list_int_3 l rs.toArray m n t (by rw [fitsIndex_both n1 n2]; simp) (by omega) (by rw [notLongL sz]; simp)
  refine wpAny_binaryOp_repeat_ref (T := "list") (U := "int") (by decide) ⟨_, o, rfl⟩ (fun z => typeIs_int z n t) PySem.noFill_list_mul F.fills_int_mul F.slot_int_rmul PySem.repeat_list F.slot_int_index.lookup ?_
  refine call_meets F.slot_int_rmul (typeIs_int s n t) F.entry_int_rmul (F.args_int_rmul_2 _ _) (int___rmul___int_list n t l rs.toArray m) ⟨o, rfl, ⟨_, o, rfl⟩, ?_⟩
  refine call_meets F.slot_list_mul ⟨_, o, rfl⟩ F.entry_list_mul (F.args_list_mul_2 _ _) call ⟨o, ?_⟩
  rw [show List.foldl (fun x1 x2 => x1 ++ x2) #[] (List.replicate (if rs.toArray.isEmpty = true then 0 else n.toNat) rs.toArray) = _ from rep_arr rs n.toNat]
  have fit : (List.replicate n.toNat vs).flatten.length ≤ sizeLine := by simpa [Nat.mul_comm] using hn
  exact ⟨.ref _, _, I.lnew (t' := s.toks) (r.rep n.toNat) fit, rfl, q _ I.fresh⟩
theorem w2_rep {K : PySem.W.Frag} {s : Sl} {ds : List PyData} {i : Int} (h : LsR s M (ds.map .dat)) (i1 : -(2 ^ 63) ≤ i) (i2 : i < 2 ^ 63) (hl : ds.length * i.toNat ≤ 1000000) (q : Q (.dat (.list (repD ds i.toNat))) M) : W2 K rRepL s (.int i) M Q := fun B H v w hS o1 o2 Q0 k => by
  obtain ⟨a, vs, rfl, hq, ha⟩ := h.get hS o1
  have l1 := SlAll.len ha
  rw [List.length_map] at l1
  refine ⟨a, i, vs, rfl, of_int o2, hq, i1, i2, Nat.le_trans (by rw [l1]; exact hl) (show 1000000 ≤ sizeLine by decide), fun p hp => ?_⟩
  exact k _ _ _ (upd B p (.lst (List.replicate i.toNat vs).flatten)) _ q (same_new (hS.freeB hp)) (hS.alloc hp) (lst_ok (dpa_rep (dpa_of ha) _) (hS.freeB hp))
/-- xs[lo:hi] -/
def cutG {α : Type} (xs : List α) (lo hi : Option Int) : List α := (xs.drop (HT.sIx xs.length 0 lo)).take (HT.sIx xs.length xs.length hi - HT.sIx xs.length 0 lo)
theorem cutG_map {α β : Type} (f : α → β) (xs : List α) (lo hi : Option Int) : cutG (xs.map f) lo hi = (cutG xs lo hi).map f := by
  unfold cutG
  rw [List.length_map, List.map_take, List.map_drop]
theorem dpa_cut {K : PySem.W.Frag} {B : Hp} {vs : List V} {ds : List PyData} (h : DqAll K B vs ds) (lo hi : Option Int) : DqAll K B (cutV vs lo hi) (cutG ds lo hi) := by
  unfold cutV cutG
  rw [DqAll.length h]
  exact DqAll.take _ (DqAll.drop _ h)
theorem wsl_lst {K : PySem.W.Frag} {s : Sl} {ds : List PyData} {lo hi : Option Int} (h : LsV K s M (ds.map .dat)) (q : Q (.dat (.list (cutG ds lo hi))) M) : WSl K (rSlL K) s lo hi M Q := fun B H v hS o Q0 k => by
  obtain ⟨a, vs, rfl, hq, ha⟩ := h.get hS o
  exact ⟨a, vs, rfl, hq, fun p hp => k _ _ M (upd B p (.lst (cutV vs lo hi))) _ q (same_new (hS.freeB hp)) (hS.alloc hp) (lst_ok (dpa_cut (dpa_of ha) lo hi) (hS.freeB hp))⟩
/-- built-ins -/
def rLenS (K : PySem.W.Frag) : List V → Hp → VK → Prop := fun us H Q => ∃ p zs, us = [.ref p] ∧ (SqL K H p zs ∨ SqT K H p zs) ∧ Q (.int zs.length) H
def rListS (K : PySem.W.Frag) : List V → Hp → VK → Prop := fun us H Q => ∃ p zs, us = [.ref p] ∧ (SqL K H p zs ∨ SqT K H p zs) ∧ ∀ l, H l = none → Q (.ref l) (upd H l (.lst zs))
def rTupS (K : PySem.W.Frag) : List V → Hp → VK → Prop := fun xs H Q => ∃ p ys, xs = [.ref p] ∧ ((SqL K H p ys ∧ ∀ l, H l = none → Q (.ref l) (upd H l (.tup ys))) ∨ (SqT K H p ys ∧ Q (.ref p) H))
def rInt1 : List V → Hp → VK → Prop := fun xs H Q => (∃ i, xs = [.int i] ∧ Q (.int i) H) ∨ ∃ k, xs = [.bl k] ∧ Q (.int (if k then 1 else 0)) H
theorem wl_len {K : PySem.W.Frag} {s : Sl} {xs : List Sl} (h : LsV K s M xs) (q : Q (.int (xs.length : Int)) M) : WL K (rLenS K) [s] M Q := fun B H vs hS o Q0 k => by
  cases o with
  | cons o1 o2 =>
    cases o2
    obtain ⟨a, ws, rfl, hq, ha⟩ := h.get hS o1
    refine ⟨a, ws, rfl, .inl hq, ?_⟩
    rw [SlAll.len ha]
    exact k _ _ M B H q (Same.refl B) hS slok_int
theorem wl_lenT {K : PySem.W.Frag} {s : Sl} {xs : List Sl} (h : TpV s xs) (q : Q (.int (xs.length : Int)) M) : WL K (rLenS K) [s] M Q := fun B H vs hS o Q0 k => by
  cases o with
  | cons o1 o2 =>
    cases o2
    obtain ⟨a, ws, rfl, hq, ha⟩ := h.get hS o1
    refine ⟨a, ws, rfl, .inr hq, ?_⟩
    rw [SlAll.len ha]
    exact k _ _ M B H q (Same.refl B) hS slok_int
theorem wl_list {K : PySem.W.Frag} {s : Sl} {ds : List PyData} (h : LsV K s M (ds.map .dat) ∨ TpV s (ds.map .dat)) (q : Q (.dat (.list ds)) M) : WL K (rListS K) [s] M Q := fun B H vs hS o Q0 k => by
  cases o with
  | cons o1 o2 =>
    cases o2
    rcases h with h | h
    · obtain ⟨a, ws, rfl, hq, ha⟩ := h.get hS o1
      exact ⟨a, ws, rfl, .inl hq, fun p hp => k _ _ M (upd B p (.lst ws)) _ q (same_new (hS.freeB hp)) (hS.alloc hp) (lst_ok (dpa_of ha) (hS.freeB hp))⟩
    · obtain ⟨a, ws, rfl, hq, ha⟩ := h.get hS o1
      exact ⟨a, ws, rfl, .inr hq, fun p hp => k _ _ M (upd B p (.lst ws)) _ q (same_new (hS.freeB hp)) (hS.alloc hp) (lst_ok (dpa_of ha) (hS.freeB hp))⟩
theorem wl_listM {K : PySem.W.Frag} {s : Sl} {xs : List Sl} (h : LsV K s M xs ∨ TpV s xs) (q : ∀ p, M p = none → Q (.raw (.ref p)) (um M p (.lst xs))) : WL K (rListS K) [s] M Q := fun B H vs hS o Q0 k => by
  cases o with
  | cons o1 o2 =>
    cases o2
    rcases h with h | h
    · obtain ⟨a, ws, rfl, hq, ha⟩ := h.get hS o1
      exact ⟨a, ws, rfl, .inl hq, fun p hp => k _ _ _ B _ (q p (hS.freeM hp)) (Same.refl B) (hS.new hp ⟨ws, rfl, ha⟩) rfl⟩
    · obtain ⟨a, ws, rfl, hq, ha⟩ := h.get hS o1
      exact ⟨a, ws, rfl, .inr hq, fun p hp => k _ _ _ B _ (q p (hS.freeM hp)) (Same.refl B) (hS.new hp ⟨ws, rfl, ha⟩) rfl⟩
theorem wl_tuple {K : PySem.W.Frag} {s : Sl} {ds : List PyData} (h : LsV K s M (ds.map .dat)) (q : Q (.dat (.tuple ds)) M) : WL K (rTupS K) [s] M Q := fun B H vs hS o Q0 k => by
  cases o with
  | cons o1 o2 =>
    cases o2
    obtain ⟨a, ws, rfl, hq, ha⟩ := h.get hS o1
    exact ⟨a, ws, rfl, .inl ⟨hq, fun p hp => k _ _ M (upd B p (.tup ws)) _ q (same_new (hS.freeB hp)) (hS.alloc hp) (tup_ok (dpa_of ha) (hS.freeB hp))⟩⟩
theorem wl_int {K : PySem.W.Frag} {i : Int} (q : Q (.int i) M) : WL K rInt1 [.int i] M Q := fun B H vs hS o Q0 k => by
  cases o with
  | cons o1 o2 =>
    cases o2
    exact .inl ⟨i, by rw [of_int o1], k _ _ M B H q (Same.refl B) hS slok_int⟩
theorem wl_intb {K : PySem.W.Frag} {b : Bool} (q : Q (.int (if b then 1 else 0)) M) : WL K rInt1 [.bl b] M Q := fun B H vs hS o Q0 k => by
  cases o with
  | cons o1 o2 =>
    cases o2
    exact .inr ⟨b, by rw [of_bl o1], k _ _ M B H q (Same.refl B) hS slok_int⟩
/-- isinstance of data, a built-in class -/
def tyD : PyData → String
  | .none => "NoneType"
  | .bool _ => "bool"
  | .int _ => "int"
  | .str _ => "str"
  | .list _ => "list"
  | .tuple _ => "tuple"
  | .dict _ => "dict"
theorem dp_ty {K : PySem.W.Frag} {B H : Hp} (S : Same B H) {v : V} {d : PyData} (h : Dq K B v d) : TyX K H v (.type (tyD d)) := by
  cases h with
  | non => exact .base .non
  | bl b => exact .base (.bl b)
  | int i => exact .base (.int i)
  | str x => exact .base (.str x)
  | lst hs _ => exact .base (.lst (S _ _ hs))
  | tup hs _ =>
    rcases hs with (h | ⟨o, h⟩) | ⟨o, _, _, hk, hc, _⟩
    · exact .base (.tup (S _ _ h))
    · exact .fTuple (S _ _ h)
    · exact .kTuple hk hc
theorem wl_isi {K : PySem.W.Frag} {d : PyData} {n : String} {b : Bool} (hb : kitB (tyD d) n = some b) (q : Q (.bl b) M) : WL K (rIsi K) [.dat d, .raw (.ty n)] M Q := fun B H vs hS o Q0 k => by
  cases o with
  | cons o1 o2 =>
    cases o2 with
    | cons o2 o3 =>
      cases o3
      obtain rfl : _ = V.ty n := o2
      exact ⟨_, .ty n, _, _, b, rfl, .ty n, dp_ty hS.sub o1, kit_ty hb, k _ _ M B H q (Same.refl B) hS slok_bl⟩
/-- xs.append(e) -/
theorem wm_append {K : PySem.W.Frag} {a : Addr} {xs : List Sl} {s : Sl} (h : M a = some (.lst xs)) (hl : xs.length < 1000000) (q : Q .non (um M a (.lst (xs ++ [s])))) : WM K rAppend (.raw (.ref a)) [s] M Q := fun B H v vs hS o1 o2 Q0 k => by
  cases o2 with
  | cons o2 o3 =>
    cases o3
    obtain ⟨_, u, hu, ws, rfl, ha⟩ := hS.has a _ h
    have hlen := SlAll.len ha
    obtain rfl : v = .ref a := o1
    exact ⟨a, ws, _, rfl, rfl, hu, Nat.lt_of_lt_of_le (by omega) (show 1000000 ≤ sizeLine by decide), k _ _ _ B _ q (Same.refl B) (hS.put h ⟨_, rfl, SlAll.app ha (.cons o2 .nil)⟩) slok_non⟩
end
end Ab
set_option Elab.async false
set_option linter.all false
set_option maxRecDepth 1000000
set_option  maxHeartbeats 4000000
namespace Ab
open PySem L2
section
variable {K : KX} {ρ : Rho} {M : MH} {Q Q' : Sl → MH → Prop} {ta tb te tc : TE} {r r' : R2} {nx bk ct : Rho → MH → Prop} {rt : Sl → MH → Prop}
structure ItOk (K : PySem.W.Frag) (B : Hp) (J : It) (n : Nat) (item : Nat → Sl) (stay : MH → Prop) : Prop where
  go : ∀ i B2 M2 H2, i < n → Same B B2 → Sep K B2 M2 H2 → stay M2 → J.go i H2
  yld : ∀ i B2 M2 H2 x H3, i < n → Same B B2 → Sep K B2 M2 H2 → stay M2 → J.yld i H2 x H3 → ∃ B3, Same B2 B3 ∧ Sep K B3 M2 H3 ∧ SlOk K B3 x (item i)
  stop : ∀ i B2 M2 H2, n ≤ i → Same B B2 → Sep K B2 M2 H2 → stay M2 → J.stop i H2
def WI (K : KX) (wi : TI) (ρ : Rho) (M : MH) (R : Nat → (Nat → Sl) → (MH → Prop) → MH → Prop) : Prop :=
  ∀ σ B H, Rl K B σ ρ → Sep K B M H → ∀ R0 : It → Hp → Prop, (∀ n item stay M' B' H' J, R n item stay M' → Same B B' → Sep K B' M' H' → ItOk K B' J n item stay → R0 J H') → wi σ H R0
theorem ws_for {wi : TI} {g : TG} {tb : TS} (h : WI K wi ρ M fun n item stay M1 => ∃ J : Nat → Rho → MH → Prop, J 0 ρ M1 ∧ (∀ i ρ' M', i ≤ n → J i ρ' M' → stay M') ∧
    (∀ i ρ' M', i < n → J i ρ' M' → WG K g (item i) ρ' M' fun ρ2 M2 => WS K tb ρ2 M2 ⟨J (i + 1), rt, nx, J (i + 1)⟩) ∧ ∀ ρ' M', J n ρ' M' → nx ρ' M') : WS K (tFor wi g tb) ρ M ⟨nx, rt, bk, ct⟩ := fun σ B H D hR hS a b c d =>
  h σ B H hR hS _ fun n item stay M1 B1 H1 It ⟨J, j0, js, jt, je⟩ e1 S1 ok => by
    refine ⟨fun i m σ' H' => m = n - i ∧ i ≤ n ∧ ∃ ρ' M' B', J i ρ' M' ∧ Same B1 B' ∧ Rl K B' σ' ρ' ∧ Sep K B' M' H', ⟨n, by simp, Nat.zero_le _, ρ, M1, B1, j0, Same.refl _, hR.mono e1, S1⟩, ?_⟩
    rintro i m σ' H' ⟨rfl, hi, ρ', M', B', hj, e2, R2, S2⟩
    by_cases hlt : i < n
    · refine .inr ⟨ok.go i B' M' H' hlt e2 S2 (js i ρ' M' hi hj), fun σ2 H2 => ∃ ρ2 M2 B2, J (i + 1) ρ2 M2 ∧ Same B1 B2 ∧ Rl K B2 σ2 ρ2 ∧ Sep K B2 M2 H2, fun σ2 H2 ⟨ρ2, M2, B2, q⟩ => ⟨n - (i + 1), by omega, rfl, hlt, ρ2, M2, B2, q⟩, fun x H3 y => ?_⟩
      obtain ⟨B3, e3, S3, o3⟩ := ok.yld i B' M' H' x H3 hlt e2 S2 (js i ρ' M' hi hj) y
      refine jt i ρ' M' hlt hj σ' B3 H3 x (R2.mono e3) S3 o3 _ fun ρ4 M4 σ4 B4 H4 q4 e4 R4 S4 => ?_
      have e14 : Same B1 B4 := (e2.trans e3).trans e4
      exact q4 σ4 B4 H4 _ R4 S4 (fun ρ5 M5 σ5 B5 H5 q5 e5 R5 S5 => ⟨ρ5, M5, B5, q5, e14.trans e5, R5, S5⟩) (fun s v M5 B5 H5 q5 e5 => b s v M5 B5 H5 q5 ((e1.trans e14).trans e5))
        (fun ρ5 M5 σ5 B5 H5 q5 e5 R5 S5 => a ρ5 M5 σ5 B5 H5 q5 ((e1.trans e14).trans e5) R5 S5) (fun ρ5 M5 σ5 B5 H5 q5 e5 R5 S5 => ⟨ρ5, M5, B5, q5, e14.trans e5, R5, S5⟩)
    · have ei : i = n := by omega
      subst ei
      exact .inl ⟨ok.stop i B' M' H' (Nat.le_refl _) e2 S2 (js i ρ' M' hi hj), a ρ' M' σ' B' H' (je ρ' M' hj) (e1.trans e2) R2 S2⟩
/-- a list -/
theorem wi_list {tl : TE} {R : Nat → (Nat → Sl) → (MH → Prop) → MH → Prop} (h : W K tl ρ M fun s M1 => ∃ xs, LsV K s M1 xs ∧ R xs.length (fun i => xs.getD i .non) (fun M2 => LsV K s M2 xs) M1) : WI K (iList K tl) ρ M R := fun σ B H hR hS R0 k =>
  h σ B H hR hS _ fun s v M1 B1 H1 ⟨xs, hl, q⟩ e1 S1 o1 => by
    obtain ⟨a, vs, rfl, hq, ha⟩ := hl.get S1 o1
    refine ⟨a, rfl, ⟨vs, hq⟩, k xs.length _ _ M1 B1 H1 _ q e1 S1 ⟨fun i B2 M2 H2 hi e2 S2 st => ?_, fun i B2 M2 H2 x H3 hi e2 S2 st y => ?_, fun i B2 M2 H2 hi e2 S2 st => ?_⟩⟩
    · obtain ⟨b, ws, eb, hq2, ha2⟩ := st.get S2 (o1.mono e2)
      cases eb
      obtain ⟨z, hz, _⟩ := SlAll.get ha2 (List.getElem?_eq_getElem hi)
      exact ⟨ws, z, hq2, hz⟩
    · obtain ⟨b, ws, eb, hq2, ha2⟩ := st.get S2 (o1.mono e2)
      cases eb
      obtain ⟨z, hz, oz⟩ := SlAll.get ha2 (List.getElem?_eq_getElem hi)
      obtain ⟨rfl, hy⟩ := y
      have ez : z = x := Option.some.inj (hz.symm.trans (hy ws hq2))
      subst ez
      refine ⟨B2, Same.refl _, S2, ?_⟩
      rw [List.getD_eq_getElem?_getD, List.getElem?_eq_getElem hi]
      exact oz
    · obtain ⟨b, ws, eb, hq2, ha2⟩ := st.get S2 (o1.mono e2)
      cases eb
      exact ⟨ws, hq2, by rw [SlAll.len ha2]; exact hi⟩
/-- a tuple -/
theorem wi_tup {tl : TE} {R : Nat → (Nat → Sl) → (MH → Prop) → MH → Prop} (h : W K tl ρ M fun s M1 => ∃ xs, TpV s xs ∧ R xs.length (fun i => xs.getD i .non) (fun _ => True) M1) : WI K (iTup K tl) ρ M R := fun σ B H hR hS R0 k =>
  h σ B H hR hS _ fun s v M1 B1 H1 ⟨xs, hl, q⟩ e1 S1 o1 => by
    obtain ⟨a, vs, rfl, hq, ha⟩ := hl.get S1 o1
    refine ⟨a, rfl, ⟨vs, hq⟩, k xs.length _ _ M1 B1 H1 _ q e1 S1 ⟨fun i B2 M2 H2 hi e2 S2 st => ?_, fun i B2 M2 H2 x H3 hi e2 S2 st y => ?_, fun i B2 M2 H2 hi e2 S2 st => ?_⟩⟩
    · obtain ⟨b, ws, eb, hq2, ha2⟩ := hl.get S2 (o1.mono e2)
      cases eb
      obtain ⟨z, hz, _⟩ := SlAll.get ha2 (List.getElem?_eq_getElem hi)
      exact ⟨ws, z, hq2, hz⟩
    · obtain ⟨b, ws, eb, hq2, ha2⟩ := hl.get S2 (o1.mono e2)
      cases eb
      obtain ⟨z, hz, oz⟩ := SlAll.get ha2 (List.getElem?_eq_getElem hi)
      obtain ⟨rfl, hy⟩ := y
      have ez : z = x := Option.some.inj (hz.symm.trans (hy ws hq2))
      subst ez
      refine ⟨B2, Same.refl _, S2, ?_⟩
      rw [List.getD_eq_getElem?_getD, List.getElem?_eq_getElem hi]
      exact oz
    · obtain ⟨b, ws, eb, hq2, ha2⟩ := hl.get S2 (o1.mono e2)
      cases eb
      exact ⟨ws, hq2, by rw [SlAll.len ha2]; exact hi⟩
/-- ranges -/
theorem wi_r1 {t : TA} {R : Nat → (Nat → Sl) → (MH → Prop) → MH → Prop} (h : WA K t ρ M fun xs M1 => ∃ n : Int, xs = [.int n] ∧ -(2 ^ 62) ≤ n ∧ n < 2 ^ 62 ∧ R n.toNat (fun i => .int (i : Int)) (fun _ => True) M1) : WI K (iRng1 t) ρ M R := fun σ B H hR hS R0 k =>
  h σ B H hR hS _ fun xs vs M1 B1 H1 ⟨n, e, h1, h2, q⟩ e1 S1 o1 => by
    subst e
    cases o1 with
    | cons o1 o2 =>
      cases o2
      refine ⟨n, by rw [of_int o1], h1, h2, k _ _ _ M1 B1 H1 _ q e1 S1 ⟨fun i B2 M2 H2 hi e2 S2 st => hi, fun i B2 M2 H2 x H3 hi e2 S2 st y => ?_, fun i B2 M2 H2 hi e2 S2 st => hi⟩⟩
      obtain ⟨rfl, rfl⟩ := y
      exact ⟨B2, Same.refl _, S2, by rw [Int.zero_add]; exact slok_int⟩
/-- for x in a list of data, by the part that was taken -/
theorem getD_map {α : Type} {enc : α → PyData} {xs : List α} {i : Nat} (h : i < xs.length) : ((xs.map enc).map Sl.dat).getD i .non = .dat (enc xs[i]) := by
  rw [List.getD_eq_getElem?_getD, List.getElem?_map, List.getElem?_map, List.getElem?_eq_getElem h]
  rfl
theorem split_at {α : Type} {xs : List α} {i : Nat} (h : i < xs.length) : xs = xs.take i ++ xs[i] :: xs.drop (i + 1) := by
  rw [List.getElem_cons_drop, List.take_append_drop]
theorem ws_forD {α : Type} {enc : α → PyData} {xs : List α} {tl : TE} {g : TG} {tb : TS} {M1 : MH} (hl : W K tl ρ M fun s M2 => s = .dat (.list (xs.map enc)) ∧ M2 = M1) (J : List α → Rho → MH → Prop) (h0 : J [] ρ M1)
    (hs : ∀ pre x post ρ' M', xs = pre ++ x :: post → J pre ρ' M' → WG K g (.dat (enc x)) ρ' M' fun ρ2 M2 => WS K tb ρ2 M2 ⟨J (pre ++ [x]), rt, nx, J (pre ++ [x])⟩) (hd : ∀ ρ' M', J xs ρ' M' → nx ρ' M') : WS K (tFor (iList K tl) g tb) ρ M ⟨nx, rt, bk, ct⟩ :=
  ws_for (wi_list (hl.imp fun s M2 ⟨e1, e2⟩ => by
    subst e1 e2
    refine ⟨_, lsv_dat, fun i => J (xs.take i), h0, fun _ _ _ _ _ => lsv_dat, fun i ρ' M' hi hj => ?_, fun ρ' M' hj => hd ρ' M' (by rwa [List.length_map, List.length_map, List.take_length] at hj)⟩
    have hi' : i < xs.length := by simpa using hi
    have q := hs (xs.take i) xs[i] (xs.drop (i + 1)) ρ' M' (split_at hi') hj
    rw [← List.take_succ_eq_append_getElem hi'] at q
    show WG K g (((xs.map enc).map Sl.dat).getD i .non) ρ' M' _
    rw [getD_map hi']
    exact q))
theorem ws_forR1 {n : Int} {t : TA} {g : TG} {tb : TS} {M1 : MH} (hl : WA K t ρ M fun xs M2 => xs = [.int n] ∧ M2 = M1) (hn : -(2 ^ 62) ≤ n ∧ n < 2 ^ 62) (J : Nat → Rho → MH → Prop) (h0 : J 0 ρ M1)
    (hs : ∀ (i : Nat) ρ' M', (i : Int) < n → J i ρ' M' → WG K g (.int (i : Int)) ρ' M' fun ρ2 M2 => WS K tb ρ2 M2 ⟨J (i + 1), rt, nx, J (i + 1)⟩) (hd : ∀ ρ' M', J n.toNat ρ' M' → nx ρ' M') : WS K (tFor (iRng1 t) g tb) ρ M ⟨nx, rt, bk, ct⟩ :=
  ws_for (wi_r1 fun σ B H hR hS Q0 k => hl σ B H hR hS Q0 fun ss vs M' B' H' ⟨e1, e2⟩ => by
    subst e1 e2
    exact k _ vs _ B' H' ⟨n, rfl, hn.1, hn.2, J, h0, fun _ _ _ _ _ => trivial, fun i ρ' M' hi hj => hs i ρ' M' (by omega) hj, hd⟩)
/-- [te for x in ..], x the slot j; J: how many, what was made, what else stands -/
theorem w_lc {wi : TI} {tt : TT} {j : Nat} {vs : List Nat} (hj : j ∈ vs) (h : WI K wi ρ M fun n item stay M1 => ∃ J : Nat → List PyData → MH → Prop, J 0 [] M1 ∧ (∀ i acc M', i ≤ n → J i acc M' → ∀ D o, M' D = none → stay (um M' D o)) ∧
    (∀ i acc M' D, i < n → J i acc M' → M' D = none → WT K tt ((wipeR ρ vs).set j (some (item i))) (um M' D (.lst (acc.map .dat))) fun b M3 =>
      if b = true then W K te ((wipeR ρ vs).set j (some (item i))) M3 fun s M4 => ∃ d M5, s = .dat d ∧ M4 = um M5 D (.lst (acc.map .dat)) ∧ M5 D = none ∧ acc.length < 1000000 ∧ J (i + 1) (acc ++ [d]) M5
      else ∃ M5, M3 = um M5 D (.lst (acc.map .dat)) ∧ M5 D = none ∧ J (i + 1) acc M5) ∧
    ∀ acc M', J n acc M' → Q (.dat (.list acc)) M') : W K (tLc wi (gName j) tt te vs) ρ M Q := fun σ B H hR hS Q0 k =>
  h σ B H hR hS _ fun n item stay M1 B1 H1 It ⟨J, j0, js, jt, je⟩ e1 S1 ok => fun D hD => by
    have hwp : ∀ x, wipe ((wipe σ vs).set j (some x)) vs = wipe σ vs := fun x => by rw [wipe_set _ _ _ _ hj, wipe_wipe]
    refine ⟨fun i m H' => m = n - i ∧ i ≤ n ∧ ∃ acc M' B', J i acc M' ∧ M' D = none ∧ Same B1 B' ∧ Sep K B' (um M' D (.lst (acc.map .dat))) H', ⟨n, by simp, Nat.zero_le _, [], M1, B1, j0, S1.freeM hD, Same.refl _, S1.new hD ⟨[], rfl, .nil⟩⟩, ?_⟩
    rintro i m H' ⟨rfl, hi, acc, M', B', hj', hMD, e2, S2⟩
    by_cases hlt : i < n
    · refine .inr ⟨ok.go i B' _ H' hlt e2 S2 (js i acc M' hi hj' D _ hMD), fun H2 => ∃ acc M2 B2, J (i + 1) acc M2 ∧ M2 D = none ∧ Same B1 B2 ∧ Sep K B2 (um M2 D (.lst (acc.map .dat))) H2, fun H2 ⟨acc, M2, B2, q⟩ => ⟨n - (i + 1), by omega, rfl, hlt, acc, M2, B2, q⟩, fun x H3 y => ?_⟩
      obtain ⟨B3, e3, S3, o3⟩ := ok.yld i B' _ H' x H3 hlt e2 S2 (js i acc M' hi hj' D _ hMD) y
      refine ⟨hwp x, ?_⟩
      have R3 : Rl K B3 ((wipe σ vs).set j (some x)) ((wipeR ρ vs).set j (some (item i))) := Rl.put o3 j ((hR.mono ((e1.trans e2).trans e3)).wiped vs)
      refine jt i acc M' D hlt hj' hMD _ B3 H3 R3 S3 _ fun b M4 B4 H4 q4 e4 S4 => ?_
      have e14 := (e2.trans e3).trans e4
      cases b with
      | true =>
        refine q4 _ B4 H4 (R3.mono e4) S4 _ fun s v M5 B5 H5 ⟨d, M6, es, em, hn6, hl6, hj6⟩ e5 S5 o5 => ?_
        subst es em
        obtain ⟨_, u, hu, ws, rfl, ha⟩ := S5.has D _ um_same
        have hlen := SlAll.len ha
        rw [List.length_map] at hlen
        refine ⟨ws, hu, Nat.lt_of_lt_of_le (by omega) (show 1000000 ≤ sizeLine by decide), acc ++ [d], M6, B5, hj6, hn6, e14.trans e5, ?_⟩
        have S6 := S5.put (u := .lst (ws ++ [v])) (o' := .lst ((acc ++ [d]).map .dat)) um_same ⟨_, rfl, by rw [List.map_append]; exact SlAll.app ha (.cons o5 .nil)⟩
        rw [um_um] at S6
        exact S6
      | false =>
        obtain ⟨M5, em, hn5, hj5⟩ := q4
        subst em
        exact ⟨acc, M5, B4, hj5, hn5, e14, S4⟩
    · have ei : i = n := by omega
      subst ei
      refine .inl ⟨ok.stop i B' _ H' (Nat.le_refl _) e2 S2 (js i acc M' hi hj' D _ hMD), ?_⟩
      obtain ⟨hB, u, hu, ws, rfl, ha⟩ := S2.has D _ um_same
      have S3 := S2.freeze um_same hu
      rw [del_um hMD] at S3
      exact k _ _ M' _ H' (je acc M' hj') ((e1.trans e2).trans (same_new hB)) S3 (lst_ok (dpa_of ha) hB)
theorem wt_yes {Q : Bool → MH → Prop} (q : Q true M) : WT K tYes ρ M Q := fun σ B H hR hS Q0 k => k true M B H q (Same.refl B) hS
/-- [f(x) for x in a list of data], nothing else is touched -/
theorem w_lcD {α : Type} {enc : α → PyData} {xs : List α} {tl : TE} {j : Nat} {vs : List Nat} {M1 : MH} (hj : j ∈ vs) (hl : W K tl ρ M fun s M2 => s = .dat (.list (xs.map enc)) ∧ M2 = M1) (hz : xs.length ≤ 1000000) (f : α → PyData)
    (he : ∀ x D o, x ∈ xs → M1 D = none → W K te ((wipeR ρ vs).set j (some (.dat (enc x)))) (um M1 D o) fun s M' => s = .dat (f x) ∧ M' = um M1 D o) (q : Q (.dat (.list (xs.map f))) M1) : W K (tLc (iList K tl) (gName j) tYes te vs) ρ M Q :=
  w_lc hj (wi_list (hl.imp fun s M2 ⟨e1, e2⟩ => by
    subst e1 e2
    refine ⟨_, lsv_dat, fun i acc M' => M' = M2 ∧ acc = (xs.take i).map f, ⟨rfl, by simp⟩, fun _ _ _ _ _ _ _ _ => lsv_dat, fun i acc M' D hi ⟨eM, ea⟩ hD => ?_, fun acc M' ⟨eM, ea⟩ => ?_⟩
    · subst eM ea
      have hi' : i < xs.length := by simpa using hi
      refine wt_yes ?_
      show W K te ((wipeR ρ vs).set j (some (((xs.map enc).map Sl.dat).getD i .non))) _ _
      rw [getD_map hi']
      refine (he xs[i] D _ (List.getElem_mem hi') hD).imp fun s M' ⟨e1, e2⟩ => ⟨f xs[i], _, e1, e2, hD, ?_, rfl, ?_⟩
      · rw [List.length_map, List.length_take]
        omega
      · rw [List.take_succ_eq_append_getElem hi', List.map_append]
        rfl
    · subst eM ea
      rw [List.length_map, List.length_map, List.take_length]
      exact q))
end
end Ab
set_option Elab.async false
set_option linter.all false
set_option maxRecDepth 1000000
set_option  maxHeartbeats 4000000
namespace Ab
open PySem PySem.Spec PyProof.Rows L2
/-- what a def makes of what it is given, and of what may change -/
abbrev ASp := List Sl → MH → (Sl → MH → Prop) → Prop
def conc (K : PySem.W.Frag) (A : ASp) : Sp := fun vs H Q _ => ∃ (B : Hp) (M : MH) (ss : List Sl) (QA : Sl → MH → Prop), Sep K B M H ∧ SlAll K B vs ss ∧ A ss M QA ∧ ∀ s v M' B' H', QA s M' → Same B B' → Sep K B' M' H' → SlOk K B' v s → Q v H'
section
variable {K : KX} {ρ : Rho} {M : MH} {Q Q' : Sl → MH → Prop} {ta tb te tc : TE} {P : AE}
theorem w_call {A : ASp} {E : XK} {t : TA} (h : WA K t ρ M fun ss M1 => A ss M1 Q) : W K (tCall (conc K A) [] E t) ρ M Q := fun σ B H hR hS Q0 k =>
  h σ B H hR hS _ fun ss vs M1 B1 H1 q e1 S1 o1 => ⟨B1, M1, ss, Q, S1, by rw [List.append_nil]; exact o1, q, fun s v M2 B2 H2 q2 e2 S2 o2 => k s v M2 B2 H2 q2 (e1.trans e2) S2 o2⟩
def rho0 (n : Nat) (ss : List Sl) : Rho := ss.map some ++ List.replicate (n - ss.length) none
theorem ab_ok {K : PySem.W.Frag} {P : Program} {w : World} {mg : Str → Option Value} {base : Heap} {x qual : Str} {st : Stmt} {f : Addr} {fd : FuncData} {N ps : List Str} {k : Nat} {A : ASp} (F : Fun K x qual st f fd) (S : FnScope N ps (defScope st))
    (hlen : ∀ ss M Q, A ss M Q → ss.length = ps.length)
    (hb : ∀ (cdv : Value) (Ar : Around) (outer : List Env) (s : Shared) (H : Hp) (E : XK), Room k (Ar.deeper (envOfC qual (defScope st) s.heap.objs.size f cdv)) →
      ∃ t, PSs (cxOf CX0 P w K mg base N qual (defScope st) f cdv Ar outer s H E).nox (defBody st) t ∧ ∀ ss M Q, A ss M Q → WS (KX.pure K) t (rho0 N.length ss) M ⟨fun _ M' => Q .non M', Q, NoR, NoR⟩) :
    FnOk P w K mg base CX0 (k + 1) f fd ps (conc K A) := by
  refine F.ok S (fun vs H Q E h => ?_) (fun cdv Ar outer s H vs Q E hr h => ?_)
  · obtain ⟨B, M, ss, QA, hS, hv, ha, _⟩ := h
    rw [SlAll.len hv]
    exact hlen ss M QA ha
  · obtain ⟨B, M, ss, QA, hS, hv, ha, hq⟩ := h
    obtain ⟨t, ht, hw⟩ := hb cdv Ar outer s H E hr
    refine ⟨t, ht, ?_⟩
    have hR : Rl (KX.pure K) B (L2.start N vs) (rho0 N.length ss) := by
      unfold L2.start rho0
      rw [SlAll.len hv]
      exact ⟨rl_start _ hv, fun _ _ _ _ _ _ _ q => q.elim⟩
    exact hw ss M QA ha (L2.start N vs) B H ⟨fun _ H' => Q .non H', Q, _, _⟩ hR hS (fun ρ' M' σ' B' H' q e _ S' => hq .non .non M' B' H' q e S' slok_non) (fun s v M' B' H' q e S' o => hq s v M' B' H' q e S' o) (fun _ _ _ _ _ z => z.elim) (fun _ _ _ _ _ z => z.elim)
end
end Ab
set_option Elab.async false
set_option linter.all false
set_option maxRecDepth 1000000
set_option  maxHeartbeats 4000000
namespace Ab
open PySem PyProof.Rows L2
def datsOf : List Sl → Option (List PyData)
  | [] => some []
  | .dat d :: r => match datsOf r with
    | some ds => some (d :: ds)
    | none => none
  | _ :: _ => none
theorem datsOf_eq : ∀ {xs : List Sl} {ds : List PyData}, datsOf xs = some ds → xs = ds.map .dat
  | [], _, h => by cases h; rfl
  | .dat d :: r, ds, h => by
    unfold datsOf at h
    cases e : datsOf r with
    | none => rw [e] at h; cases h
    | some es =>
      rw [e] at h
      cases h
      rw [datsOf_eq e]
      rfl
  | .raw _ :: _, _, h => by cases h
  | .abs _ _ :: _, _, h => by cases h
section
variable {K : KX} {ρ : Rho} {M : MH} {Q Q' : Sl → MH → Prop} {ta tb te tc : TE} {P : AE}
theorem w_tupD {t : TA} (h : WA K t ρ M fun xs M1 => ∃ ds, datsOf xs = some ds ∧ ds.length ≤ 1000000 ∧ Q (.dat (.tuple ds)) M1) : W K (tTup t) ρ M Q :=
  w_tup fun σ B H hR hS Q0 k => h σ B H hR hS Q0 fun ss vs M' B' H' ⟨ds, e, l, q⟩ => k ss vs M' B' H' ⟨ds, datsOf_eq e, l, q⟩
theorem w_lstD {t : TA} (h : WA K t ρ M fun xs M1 => ∃ ds, datsOf xs = some ds ∧ ds.length ≤ 1000000 ∧ Q (.dat (.list ds)) M1) : W K (tLst t) ρ M Q :=
  w_lst fun σ B H hR hS Q0 k => h σ B H hR hS Q0 fun ss vs M' B' H' ⟨ds, e, l, q⟩ => k ss vs M' B' H' ⟨ds, datsOf_eq e, l, q⟩
theorem ite_b {b : Bool} {A B : Prop} (h1 : b = true → A) (h2 : b = false → B) : if b = true then A else B := by
  cases b with
  | true => exact h1 rfl
  | false => exact h2 rfl
theorem ite_t {b : Bool} {A B : Prop} (e : b = true) (h : A) : if b = true then A else B := by
  rw [if_pos e]; exact h
theorem ite_f {b : Bool} {A B : Prop} (e : b = false) (h : B) : if b = true then A else B := by
  rw [if_neg (by rw [e]; decide)]; exact h
end
/-- a word between a statement and the rest -/
theorem ws_mid {K : KX} {ρ : Rho} {M : MH} {nx bk ct : Rho → MH → Prop} {rt : Sl → MH → Prop} {t u : TS} (Mid : Rho → MH → Prop) (h : WS K t ρ M ⟨Mid, rt, bk, ct⟩) (k : ∀ ρ' M', Mid ρ' M' → WS K u ρ' M' ⟨nx, rt, bk, ct⟩) : WS K (tSeq t u) ρ M ⟨nx, rt, bk, ct⟩ :=
  ws_seq (h.imp k (fun _ _ z => z) (fun _ _ z => z) (fun _ _ z => z))
theorem atI_ok {α : Type} {xs : List α} {i : Int} {x : α} (h0 : 0 ≤ i) (h : xs[i.toNat]? = some x) : atI xs i = some x := by
  obtain ⟨n, rfl⟩ := Int.eq_ofNat_of_zero_le h0
  exact atI_nat (by simpa using h)
theorem get_two {α : Type} {f : α → PyData} {xs : List α} {i : Nat} {x : α} (h : xs[i]? = some x) : ((xs.map f).map Sl.dat)[i]? = some (.dat (f x)) := by
  rw [List.getElem?_map, List.getElem?_map, h]
  rfl
/-- data of small depth whose texts are texts -/
theorem shaped_int (i : Int) : SeqAt.shaped (.int i) = true := by simp [SeqAt.shaped, PyData.canLay0, PyData.depth]
theorem shaped_bool (b : Bool) : SeqAt.shaped (.bool b) = true := by simp [SeqAt.shaped, PyData.canLay0, PyData.depth]
theorem shaped_none : SeqAt.shaped .none = true := by simp [SeqAt.shaped, PyData.canLay0, PyData.depth]
theorem eqv_int (i j : Int) : PyData.eqv (.int i) (.int j) = decide (i = j) := by
  simp only [PyData.eqv]
  by_cases e : i = j
  · subst e; simp
  · rw [decide_eq_false e]; exact beq_eq_false_iff_ne.mpr e
mutual
/-- depth below n, texts that are texts -/
def okD : Nat → PyData → Bool
  | _, .none => true
  | _, .bool _ => true
  | _, .int _ => true
  | _, .str x => PyData.strOk x
  | 0, _ => false
  | n + 1, .list xs => decide (xs.length ≤ 1000000) && okAll n xs
  | n + 1, .tuple xs => decide (xs.length ≤ 1000000) && okAll n xs
  | _, .dict _ => false
def okAll : Nat → List PyData → Bool
  | _, [] => true
  | n, x :: xs => okD n x && okAll n xs
end
mutual
theorem okD_lay : ∀ (n : Nat) (d : PyData), okD n d = true → d.canLay0 = true ∧ d.depth ≤ n + 1
  | n, .none, _ => by simp [PyData.canLay0, PyData.depth]
  | n, .bool _, _ => by simp [PyData.canLay0, PyData.depth]
  | n, .int _, _ => by simp [PyData.canLay0, PyData.depth]
  | n, .str x, h => by
    have h' : PyData.strOk x = true := by cases n <;> simpa [okD] using h
    simp [PyData.canLay0, PyData.depth, h']
  | 0, .list xs, h => by simp [okD] at h
  | 0, .tuple xs, h => by simp [okD] at h
  | n + 1, .list xs, h => by
    have h' : xs.length ≤ 1000000 ∧ okAll n xs = true := by simpa [okD] using h
    have q := okAll_lay n xs h'.2
    simp only [PyData.canLay0, PyData.depth]
    exact ⟨q.1, by omega⟩
  | n + 1, .tuple xs, h => by
    have h' : xs.length ≤ 1000000 ∧ okAll n xs = true := by simpa [okD] using h
    have q := okAll_lay n xs h'.2
    simp only [PyData.canLay0, PyData.depth]
    exact ⟨q.1, by omega⟩
  | n, .dict _, h => by cases n <;> simp [okD] at h
theorem okAll_lay : ∀ (n : Nat) (ds : List PyData), okAll n ds = true → PyData.canLayAll0 ds = true ∧ PyData.depthAll ds ≤ n + 1
  | n, [], _ => by simp [PyData.canLayAll0, PyData.depthAll]
  | n, d :: ds, h => by
    have h' : okD n d = true ∧ okAll n ds = true := by
      simp only [okAll, Bool.and_eq_true] at h
      exact h
    have q1 := okD_lay n d h'.1
    have q2 := okAll_lay n ds h'.2
    simp only [PyData.canLayAll0, PyData.depthAll, Bool.and_eq_true]
    exact ⟨⟨q1.1, q2.1⟩, by omega⟩
end
theorem okD_shaped {n : Nat} {d : PyData} (h : okD n d = true) (hn : n ≤ 60) : SeqAt.shaped d = true := by
  obtain ⟨h1, h2⟩ := okD_lay n d h
  unfold SeqAt.shaped
  rw [h1, decide_eq_true (by omega)]
  rfl
theorem okAll_of {n : Nat} : ∀ {ds : List PyData}, (∀ d ∈ ds, okD n d = true) → okAll n ds = true
  | [], _ => rfl
  | d :: ds, h => by
    show (okD n d && okAll n ds) = true
    rw [h d List.mem_cons_self, okAll_of fun e he => h e (List.mem_cons_of_mem _ he)]
    rfl
theorem okD_mem {n : Nat} : ∀ {ds : List PyData} {d : PyData}, okAll n ds = true → d ∈ ds → okD n d = true
  | [], _, _, h => by cases h
  | x :: xs, d, h, hm => by
    have h' : okD n x = true ∧ okAll n xs = true := by
      simp only [okAll, Bool.and_eq_true] at h
      exact h
    rcases List.mem_cons.mp hm with rfl | hm
    · exact h'.1
    · exact okD_mem h'.2 hm
theorem okD_up : ∀ {n : Nat} {d : PyData}, okD n d = true → okD (n + 1) d = true
  | n, .none, _ => by cases n <;> rfl
  | n, .bool _, _ => by cases n <;> rfl
  | n, .int _, _ => by cases n <;> rfl
  | n, .str x, h => by cases n <;> simpa [okD] using h
  | 0, .list _, h => by simp [okD] at h
  | 0, .tuple _, h => by simp [okD] at h
  | n + 1, .list xs, h => by
    have h' : xs.length ≤ 1000000 ∧ okAll n xs = true := by simpa [okD] using h
    show (decide (xs.length ≤ 1000000) && okAll (n + 1) xs) = true
    rw [decide_eq_true h'.1, okAll_of fun d hd => okD_up (okD_mem h'.2 hd)]
    rfl
  | n + 1, .tuple xs, h => by
    have h' : xs.length ≤ 1000000 ∧ okAll n xs = true := by simpa [okD] using h
    show (decide (xs.length ≤ 1000000) && okAll (n + 1) xs) = true
    rw [decide_eq_true h'.1, okAll_of fun d hd => okD_up (okD_mem h'.2 hd)]
    rfl
  | n, .dict _, h => by cases n <;> simp [okD] at h
termination_by n => n
theorem okD_list {n : Nat} {xs : List PyData} (h : okD (n + 1) (.list xs) = true) : xs.length ≤ 1000000 ∧ okAll n xs = true := by simpa [okD] using h
theorem okD_tuple {n : Nat} {xs : List PyData} (h : okD (n + 1) (.tuple xs) = true) : xs.length ≤ 1000000 ∧ okAll n xs = true := by simpa [okD] using h
theorem okD_mkL {n : Nat} {xs : List PyData} (h : xs.length ≤ 1000000) (h2 : okAll n xs = true) : okD (n + 1) (.list xs) = true := by simp [okD, h, h2]
theorem okD_mkT {n : Nat} {xs : List PyData} (h : xs.length ≤ 1000000) (h2 : okAll n xs = true) : okD (n + 1) (.tuple xs) = true := by simp [okD, h, h2]
@[reducible] def isB : PyData → Bool
  | .bool _ => true
  | _ => false
@[reducible] def isI : PyData → Bool
  | .bool _ => true
  | .int _ => true
  | _ => false
@[reducible] def isS : PyData → Bool
  | .str _ => true
  | _ => false
@[reducible] def isT : PyData → Bool
  | .tuple _ => true
  | _ => false
@[reducible] def isL : PyData → Bool
  | .list _ => true
  | _ => false
theorem isi_bool (d : PyData) : kitB (tyD d) "bool" = some (isB d) := by cases d <;> (simp only [tyD, isB]; decide +kernel)
theorem isi_int (d : PyData) : kitB (tyD d) "int" = some (isI d) := by cases d <;> (simp only [tyD, isI]; decide +kernel)
theorem isi_str (d : PyData) : kitB (tyD d) "str" = some (isS d) := by cases d <;> (simp only [tyD, isS]; decide +kernel)
theorem isi_tuple (d : PyData) : kitB (tyD d) "tuple" = some (isT d) := by cases d <;> (simp only [tyD, isT]; decide +kernel)
theorem isi_list (d : PyData) : kitB (tyD d) "list" = some (isL d) := by cases d <;> (simp only [tyD, isL]; decide +kernel)
section
variable {K : KX} {ρ : Rho} {M : MH} {Q : Sl → MH → Prop}
/-- x[i] of a list, a tuple of data -/
theorem w2_ixDL {K : PySem.W.Frag} {d : PyData} {ds : List PyData} {i : Int} (hx : atI ds i = some d) (q : Q (.dat d) M) : W2 K (rIx K) (.dat (.list ds)) (.int i) M Q := fun B H v w hS o1 o2 Q0 k =>
  .inl (w2_ixL lsv_dat (by rw [atI_map, hx]; rfl) q B H v w hS o1 o2 Q0 k)
theorem w2_ixDT {K : PySem.W.Frag} {d : PyData} {ds : List PyData} {i : Int} (hx : atI ds i = some d) (q : Q (.dat d) M) : W2 K (rIx K) (.dat (.tuple ds)) (.int i) M Q := fun B H v w hS o1 o2 Q0 k =>
  .inr (.inl (w2_ixT hx q B H v w hS o1 o2 Q0 k))
end
end Ab
set_option Elab.async false
set_option linter.all false
set_option maxRecDepth 1000000
set_option  maxHeartbeats 4000000
namespace Ab
open PySem PyProof.Rows L2
abbrev lsm {α : Type} (f : α → PyData) (xs : List α) : Sl := .dat (.list (xs.map f))
def itemsI : List Sl → Option (List Int)
  | [] => some []
  | .dat (.int i) :: r => match itemsI r with
    | some ds => some (i :: ds)
    | none => none
  | _ :: _ => none
theorem itemsI_eq : ∀ {xs : List Sl} {ns : List Int}, itemsI xs = some ns → xs = (ns.map PyData.int).map .dat
  | [], _, h => by cases h; rfl
  | .dat (.int i) :: r, ns, h => by
    unfold itemsI at h
    cases e : itemsI r with
    | none => rw [e] at h; cases h
    | some es =>
      rw [e] at h
      cases h
      rw [itemsI_eq e]
      rfl
  | .dat .none :: _, _, h => by cases h
  | .dat (.bool _) :: _, _, h => by cases h
  | .dat (.str _) :: _, _, h => by cases h
  | .dat (.list _) :: _, _, h => by cases h
  | .dat (.tuple _) :: _, _, h => by cases h
  | .dat (.dict _) :: _, _, h => by cases h
  | .raw _ :: _, _, h => by cases h
  | .abs _ _ :: _, _, h => by cases h
section
variable {K : KX} {ρ : Rho} {M : MH} {Q Q' : Sl → MH → Prop} {ta tb te tc : TE} {α : Type} {f : α → PyData}
theorem w_lstI {t : TA} (h : WA K t ρ M fun xs M1 => ∃ ns, itemsI xs = some ns ∧ ns.length ≤ 1000000 ∧ Q (lsm .int ns) M1) : W K (tLst t) ρ M Q :=
  w_lst fun σ B H hR hS Q0 k => h σ B H hR hS Q0 fun ss vs M' B' H' ⟨ns, e, l, q⟩ => k ss vs M' B' H' ⟨_, itemsI_eq e, by rw [List.length_map]; exact l, q⟩
theorem wl_lenE {K : PySem.W.Frag} {xs : List α} (q : Q (.int (xs.length : Int)) M) : WL K (rLenS K) [lsm f xs] M Q := wl_len lsv_dat (by rw [List.length_map, List.length_map]; exact q)
theorem wl_lenD {K : PySem.W.Frag} {ds : List PyData} (q : Q (.int (ds.length : Int)) M) : WL K (rLenS K) [.dat (.list ds)] M Q := wl_len lsv_dat (by rw [List.length_map]; exact q)
theorem wl_lenTD {K : PySem.W.Frag} {ds : List PyData} (q : Q (.int (ds.length : Int)) M) : WL K (rLenS K) [.dat (.tuple ds)] M Q := wl_lenT tpv_dat (by rw [List.length_map]; exact q)
theorem wsl_E {K : PySem.W.Frag} {xs : List α} {lo hi : Option Int} (q : Q (lsm f (cutG xs lo hi)) M) : WSl K (rSlL K) (lsm f xs) lo hi M Q := wsl_lst lsv_dat (by rw [cutG_map]; exact q)
theorem w2_catE {K : PySem.W.Frag} {xs ys : List α} (hl : xs.length + ys.length ≤ 1000000) (q : Q (lsm f (xs ++ ys)) M) : W2 K (rCatL K) (lsm f xs) (lsm f ys) M Q := w2_cat lsv_dat lsv_dat (by rw [List.length_map, List.length_map]; exact hl) (by rw [← List.map_append]; exact q)
theorem repD_map (xs : List α) (n : Nat) : repD (xs.map f) n = ((List.replicate n xs).flatten).map f := by
  unfold repD
  rw [List.map_flatten, List.map_replicate]
theorem w2_repE {K : PySem.W.Frag} {xs : List α} {i : Int} (i1 : -(2 ^ 63) ≤ i) (i2 : i < 2 ^ 63) (hl : xs.length * i.toNat ≤ 1000000) (q : Q (lsm f (List.replicate i.toNat xs).flatten) M) : W2 K rRepL (lsm f xs) (.int i) M Q := w2_rep lsr_dat i1 i2 (by rw [List.length_map]; exact hl) (by rw [repD_map]; exact q)
theorem rep_one {α : Type} (x : α) : ∀ n : Nat, (List.replicate n [x]).flatten = List.replicate n x
  | 0 => rfl
  | n + 1 => by rw [List.replicate_succ, List.flatten_cons, rep_one x n]; rfl
theorem w2_rep1 {K : PySem.W.Frag} {x : α} {i : Int} (i1 : -(2 ^ 63) ≤ i) (i2 : i ≤ 1000000) (q : Q (lsm f (List.replicate i.toNat x)) M) : W2 K rRepL (lsm f [x]) (.int i) M Q := w2_repE i1 (by omega) (by show 1 * i.toNat ≤ 1000000; omega) (by rw [rep_one]; exact q)
theorem wl_listE {K : PySem.W.Frag} {xs : List α} (q : Q (lsm f xs) M) : WL K (rListS K) [lsm f xs] M Q := wl_list (.inl lsv_dat) q
end
section
variable {K : KX} {ρ : Rho} {M : MH} {Q Q' : Sl → MH → Prop} {ta tb te tc : TE}
/-- xs + ys, a list that will be changed -/
theorem w2_catM {K : PySem.W.Frag} {s t : Sl} {xs ys : List Sl} (h1 : LsV K s M xs) (h2 : LsV K t M ys) (hl : xs.length + ys.length ≤ 1000000) (q : ∀ p, M p = none → Q (.ref p) (um M p (.lst (xs ++ ys)))) : W2 K (rCatL K) s t M Q := fun B H v w hS o1 o2 Q0 k => by
  obtain ⟨a, vs, rfl, hq, ha⟩ := h1.get hS o1
  obtain ⟨b, ws, rfl, hq2, ha2⟩ := h2.get hS o2
  have l1 := SlAll.len ha
  have l2 := SlAll.len ha2
  refine ⟨a, b, vs, ws, rfl, rfl, hq, hq2, Nat.le_trans (by omega) (show 1000000 ≤ sizeLine by decide), fun p hp => ?_⟩
  exact k _ _ _ B _ (q p (hS.freeM hp)) (Same.refl B) (hS.new hp ⟨_, rfl, SlAll.app ha ha2⟩) rfl
end
theorem cutG_len {α : Type} (xs : List α) (lo hi : Option Int) : (cutG xs lo hi).length ≤ xs.length := by
  unfold cutG
  rw [List.length_take, List.length_drop]
  omega
theorem cutG_hi {α : Type} (xs : List α) {hi : Int} (h2 : 0 ≤ hi) : cutG xs none (some hi) = xs.take hi.toNat := by
  obtain ⟨h, rfl⟩ := Int.eq_ofNat_of_zero_le h2
  unfold cutG
  rw [HT.sIx_none, HT.sIx_nat, Int.toNat_natCast, List.drop_zero, Nat.sub_zero]
  apply List.ext_getElem?
  intro i
  simp only [List.getElem?_take]
  by_cases c1 : i < xs.length
  · by_cases c2 : i < h
    · rw [if_pos (by omega), if_pos c2]
    · rw [if_neg (by omega), if_neg c2]
  · rw [if_neg (by omega), List.getElem?_eq_none (by omega)]
    split <;> rfl
theorem cutG_lo {α : Type} (xs : List α) {lo : Int} (h1 : 0 ≤ lo) : cutG xs (some lo) none = xs.drop lo.toNat := by
  obtain ⟨l, rfl⟩ := Int.eq_ofNat_of_zero_le h1
  unfold cutG
  rw [HT.sIx_none, HT.sIx_nat, Int.toNat_natCast]
  apply List.ext_getElem?
  intro i
  simp only [List.getElem?_take, List.getElem?_drop]
  by_cases c1 : l + i < xs.length
  · rw [show min l xs.length = l by omega, if_pos (by omega)]
  · rw [if_neg (by omega), List.getElem?_eq_none (by omega)]
def scriptA (K : PySem.W.Frag) : Sp := conc K fun ss M Q => ∃ (s : Sl) (ns : List Int), ss = [s] ∧ ns.length ≤ 63 ∧ (∀ z ∈ ns, Builtin.Int.intBits z ≤ 1048576) ∧ (∀ M, LsV K s M ((ns.map PyData.int).map .dat)) ∧ ∀ M', Q (.bl true) M'
theorem slall_ints {K : PySem.W.Frag} {B : Hp} : ∀ ns : List Int, SlAll K B (ns.map V.int) ((ns.map PyData.int).map .dat)
  | [] => .nil
  | _ :: ns => .cons slok_int (slall_ints ns)
theorem script_in {K : PySem.W.Frag} {H : Hp} {a : Addr} {ns : List Int} (hl : ns.length ≤ 63) (hb : ∀ z ∈ ns, Builtin.Int.intBits z ≤ 1048576) (hS : SqL K H a (ns.map V.int)) : scriptA K [.ref a] H (fun v _ => v = .bl true) fun _ _ _ => False := by
  have S : Sep K H (fun _ => none) H := ⟨Same.refl H, fun a o e => by cases e⟩
  rcases hS with h | h
  · refine ⟨H, _, [.abs (fun B v => v = .ref a ∧ Rd B a (.lst (ns.map V.int))) fun _ _ _ e z => ⟨z.1, same_rd e z.2⟩], fun s _ => s = .bl true, S, .cons ⟨rfl, h⟩ .nil, ⟨_, ns, rfl, hl, hb, fun M => .inr (.inr fun B H v e o => ⟨a, _, o.1, .inl (same_rd e o.2), slall_ints ns⟩), fun _ => rfl⟩, fun s v M' B' H' e _ _ o => by subst e; exact of_bl o⟩
  · exact ⟨H, _, [.raw (.ref a)], fun s _ => s = .bl true, S, .cons rfl .nil, ⟨_, ns, rfl, hl, hb, fun M => .inr (.inr fun B H v _ o => ⟨a, _, o, .inr h, slall_ints ns⟩), fun _ => rfl⟩, fun s v M' B' H' e _ _ o => by subst e; exact of_bl o⟩
end Ab
set_option Elab.async false
set_option linter.all false
set_option maxRecDepth 1000000
set_option  maxHeartbeats 4000000
namespace Ab
open PySem PySem.SeqAt
open PySem.AutoSeq1 (wpAny_loadPart')
open PySem.MeetsSeq PySem.MeetsSeq2 PySem.MeetsSeq3
def cmpN (op : CmpOp) (a b : Nat) : Bool := match op with
  | .Lt => decide (a < b) | .Gt => decide (a > b) | .LtE => decide (a ≤ b) | .GtE => decide (a ≥ b) | _ => false
def cmpI (op : CmpOp) (a b : Int) : Bool := match op with
  | .Lt => decide (a < b) | .Gt => decide (b < a) | .LtE => decide (a ≤ b) | .GtE => decide (b ≤ a) | _ => false
def cmpS (op : CmpOp) (x y : Str) : Bool := match op with
  | .Lt => decide (x.cps.toList < y.cps.toList) | .Gt => decide (y.cps.toList < x.cps.toList) | .LtE => !decide (y.cps.toList < x.cps.toList) | .GtE => !decide (x.cps.toList < y.cps.toList) | _ => false
mutual
/-- what Python's op answers -/
def cmpV (op : CmpOp) : PyData → PyData → Bool
  | .int a, .int b => cmpI op a b
  | .str a, .str b => cmpS op a b
  | .tuple xs, .tuple ys => cmpVs op (cmpN op xs.length ys.length) xs ys
  | _, _ => false
def cmpVs (op : CmpOp) (z : Bool) : List PyData → List PyData → Bool
  | x :: xs, y :: ys => if PyData.eqv x y then cmpVs op z xs ys else cmpV op x y
  | [], _ => z
  | _ :: _, [] => z
end
mutual
/-- whether Python compares the two -/
def cmpOk : PyData → PyData → Bool
  | .int _, .int _ => true
  | .str _, .str _ => true
  | .tuple xs, .tuple ys => cmpOks xs ys
  | _, _ => false
def cmpOks : List PyData → List PyData → Bool
  | x :: xs, y :: ys => if PyData.eqv x y then cmpOks xs ys else cmpOk x y
  | [], _ => true
  | _ :: _, [] => true
end
/-- y op x answers k, and nothing changes -/
def Rc (op : CmpOp) (A : Around) (s : Shared) (y x : Value) (k : Bool) : Prop :=
  ∀ (prog : Program) (w : World) (E : Value → Shared → Prop) (Q : Value → Shared → Prop), Q (.bool k) s → wpAny (model prog w) A (richCompare op y x) Q E s
/-- pair by pair up to the first that differs -/
inductive Cmp (A : Around) (s : Shared) (op : CmpOp) (z : Bool) : List (Value × Value) → Bool → Prop
  | nil : Cmp A s op z [] z
  | same {y x : Value} {r : List (Value × Value)} {k : Bool} : EqAt A s y x true → Cmp A s op z r k → Cmp A s op z ((y, x) :: r) k
  | stop {y x : Value} {r : List (Value × Value)} {k : Bool} : EqAt A s y x false → Rc op A s y x k → Cmp A s op z ((y, x) :: r) k
section
theorem tup_lt (l b : Addr) (us ws : Array Value) (n m : Nat) (dd dd2 : Option Addr) (sl sl2 : Array (Option Value)) (k : Bool) :
    Meets (Builtin.«tuple.__lt__» ⟨[.ref l, .ref b], []⟩)
      (fun A R s => s.heap.get? l = some { cls := .type "tuple", dict := dd, data := .seq us n, slots := sl } ∧ s.heap.get? b = some { cls := .type "tuple", dict := dd2, data := .seq ws m, slots := sl2 } ∧
        Cmp A.in1 s .Lt (cmpN .Lt us.size ws.size) (us.toList.zip ws.toList) k ∧ R (.ok (.ret (.bool k))) s) := .of_wp fun prog w A R s h => by
  obtain ⟨hp, g, d, tk, os⟩ := s; obtain ⟨hl, hb, hc, h⟩ := h
  have sub := AutoSeq1.sub_tuple_tuple
  wp_walk using wpAny_loadPart' hl, wpAny_loadPart' hb, wpAny_forIn_list _ (fun rest b s' => b.1 = none ∧ s' = ⟨hp, g, d, tk, os⟩ ∧ Cmp A.in1 ⟨hp, g, d, tk, os⟩ .Lt (cmpN .Lt us.size ws.size) rest k) _
  case turn =>
    rintro ⟨y, x⟩ rest b s' ⟨hb', rfl, hc⟩
    cases hc with
    | same he hr =>
      refine wpAny_bind (he prog w _ _ ?_)
      wp_walk
      exact ⟨rfl, rfl, hr⟩
    | stop he hr =>
      refine wpAny_bind (he prog w _ _ ?_)
      refine wpAny_bind (wpAny_rule ?_)
      refine wpAny_bind (hr prog w _ _ ?_)
      wp_walk
      exact ⟨_, rfl, h⟩
  case fin =>
    rintro ⟨b1, b2⟩ s' ⟨hb', rfl, hc⟩
    simp only at hb'
    subst hb'
    cases hc
    wp_walk
    exact ⟨_, rfl, by simpa [Builtin.Tuple.tupleCompareSizes, cmpN] using h⟩
  case h => exact ⟨rfl, rfl, hc⟩
theorem rc_tup_lt {A : Around} {s : Shared} {l b : Addr} {us ws : Array Value} {k : Bool} (hl : s.heap.IsTuple l us) (hb : s.heap.IsTuple b ws) (hu : A.units < cLine) (hc : Cmp A.in1 s .Lt (cmpN .Lt us.size ws.size) (us.toList.zip ws.toList) k) : Rc .Lt A s (.ref l) (.ref b) k := fun prog w E Q h => by
  obtain ⟨⟨_, dd, _, sl⟩, ho, c1, n, d1⟩ := id hl
  obtain ⟨⟨_, dd2, _, sl2⟩, ho2, c2, m, d2⟩ := id hb
  simp only at c1 d1 c2 d2
  subst c1 d1 c2 d2
  exact richCompare_meets_room (op := .Lt) ⟨_, ho, rfl⟩ ⟨_, ho2, rfl⟩ F.slot_tuple_lt F.entry_tuple_lt (F.args_tuple_lt_2 _ _) (tup_lt l b us ws n m dd dd2 sl sl2 k)
    ⟨ho, ho2, hc, show Value.bool k ≠ Value.notImplemented ∧ Q (.bool k) s from ⟨(fun x => nomatch x), h⟩⟩ hu
theorem tup_gt (l b : Addr) (us ws : Array Value) (n m : Nat) (dd dd2 : Option Addr) (sl sl2 : Array (Option Value)) (k : Bool) :
    Meets (Builtin.«tuple.__gt__» ⟨[.ref l, .ref b], []⟩)
      (fun A R s => s.heap.get? l = some { cls := .type "tuple", dict := dd, data := .seq us n, slots := sl } ∧ s.heap.get? b = some { cls := .type "tuple", dict := dd2, data := .seq ws m, slots := sl2 } ∧
        Cmp A.in1 s .Gt (cmpN .Gt us.size ws.size) (us.toList.zip ws.toList) k ∧ R (.ok (.ret (.bool k))) s) := .of_wp fun prog w A R s h => by
  obtain ⟨hp, g, d, tk, os⟩ := s; obtain ⟨hl, hb, hc, h⟩ := h
  have sub := AutoSeq1.sub_tuple_tuple
  wp_walk using wpAny_loadPart' hl, wpAny_loadPart' hb, wpAny_forIn_list _ (fun rest b s' => b.1 = none ∧ s' = ⟨hp, g, d, tk, os⟩ ∧ Cmp A.in1 ⟨hp, g, d, tk, os⟩ .Gt (cmpN .Gt us.size ws.size) rest k) _
  case turn =>
    rintro ⟨y, x⟩ rest b s' ⟨hb', rfl, hc⟩
    cases hc with
    | same he hr =>
      refine wpAny_bind (he prog w _ _ ?_)
      wp_walk
      exact ⟨rfl, rfl, hr⟩
    | stop he hr =>
      refine wpAny_bind (he prog w _ _ ?_)
      refine wpAny_bind (wpAny_rule ?_)
      refine wpAny_bind (hr prog w _ _ ?_)
      wp_walk
      exact ⟨_, rfl, h⟩
  case fin =>
    rintro ⟨b1, b2⟩ s' ⟨hb', rfl, hc⟩
    simp only at hb'
    subst hb'
    cases hc
    wp_walk
    exact ⟨_, rfl, by simpa [Builtin.Tuple.tupleCompareSizes, cmpN] using h⟩
  case h => exact ⟨rfl, rfl, hc⟩
theorem rc_tup_gt {A : Around} {s : Shared} {l b : Addr} {us ws : Array Value} {k : Bool} (hl : s.heap.IsTuple l us) (hb : s.heap.IsTuple b ws) (hu : A.units < cLine) (hc : Cmp A.in1 s .Gt (cmpN .Gt us.size ws.size) (us.toList.zip ws.toList) k) : Rc .Gt A s (.ref l) (.ref b) k := fun prog w E Q h => by
  obtain ⟨⟨_, dd, _, sl⟩, ho, c1, n, d1⟩ := id hl
  obtain ⟨⟨_, dd2, _, sl2⟩, ho2, c2, m, d2⟩ := id hb
  simp only at c1 d1 c2 d2
  subst c1 d1 c2 d2
  exact richCompare_meets_room (op := .Gt) ⟨_, ho, rfl⟩ ⟨_, ho2, rfl⟩ F.slot_tuple_gt F.entry_tuple_gt (F.args_tuple_gt_2 _ _) (tup_gt l b us ws n m dd dd2 sl sl2 k)
    ⟨ho, ho2, hc, show Value.bool k ≠ Value.notImplemented ∧ Q (.bool k) s from ⟨(fun x => nomatch x), h⟩⟩ hu
theorem tup_le (l b : Addr) (us ws : Array Value) (n m : Nat) (dd dd2 : Option Addr) (sl sl2 : Array (Option Value)) (k : Bool) :
    Meets (Builtin.«tuple.__le__» ⟨[.ref l, .ref b], []⟩)
      (fun A R s => s.heap.get? l = some { cls := .type "tuple", dict := dd, data := .seq us n, slots := sl } ∧ s.heap.get? b = some { cls := .type "tuple", dict := dd2, data := .seq ws m, slots := sl2 } ∧
        Cmp A.in1 s .LtE (cmpN .LtE us.size ws.size) (us.toList.zip ws.toList) k ∧ R (.ok (.ret (.bool k))) s) := .of_wp fun prog w A R s h => by
  obtain ⟨hp, g, d, tk, os⟩ := s; obtain ⟨hl, hb, hc, h⟩ := h
  have sub := AutoSeq1.sub_tuple_tuple
  wp_walk using wpAny_loadPart' hl, wpAny_loadPart' hb, wpAny_forIn_list _ (fun rest b s' => b.1 = none ∧ s' = ⟨hp, g, d, tk, os⟩ ∧ Cmp A.in1 ⟨hp, g, d, tk, os⟩ .LtE (cmpN .LtE us.size ws.size) rest k) _
  case turn =>
    rintro ⟨y, x⟩ rest b s' ⟨hb', rfl, hc⟩
    cases hc with
    | same he hr =>
      refine wpAny_bind (he prog w _ _ ?_)
      wp_walk
      exact ⟨rfl, rfl, hr⟩
    | stop he hr =>
      refine wpAny_bind (he prog w _ _ ?_)
      refine wpAny_bind (wpAny_rule ?_)
      refine wpAny_bind (hr prog w _ _ ?_)
      wp_walk
      exact ⟨_, rfl, h⟩
  case fin =>
    rintro ⟨b1, b2⟩ s' ⟨hb', rfl, hc⟩
    simp only at hb'
    subst hb'
    cases hc
    wp_walk
    exact ⟨_, rfl, by simpa [Builtin.Tuple.tupleCompareSizes, cmpN] using h⟩
  case h => exact ⟨rfl, rfl, hc⟩
theorem rc_tup_le {A : Around} {s : Shared} {l b : Addr} {us ws : Array Value} {k : Bool} (hl : s.heap.IsTuple l us) (hb : s.heap.IsTuple b ws) (hu : A.units < cLine) (hc : Cmp A.in1 s .LtE (cmpN .LtE us.size ws.size) (us.toList.zip ws.toList) k) : Rc .LtE A s (.ref l) (.ref b) k := fun prog w E Q h => by
  obtain ⟨⟨_, dd, _, sl⟩, ho, c1, n, d1⟩ := id hl
  obtain ⟨⟨_, dd2, _, sl2⟩, ho2, c2, m, d2⟩ := id hb
  simp only at c1 d1 c2 d2
  subst c1 d1 c2 d2
  exact richCompare_meets_room (op := .LtE) ⟨_, ho, rfl⟩ ⟨_, ho2, rfl⟩ F.slot_tuple_le F.entry_tuple_le (F.args_tuple_le_2 _ _) (tup_le l b us ws n m dd dd2 sl sl2 k)
    ⟨ho, ho2, hc, show Value.bool k ≠ Value.notImplemented ∧ Q (.bool k) s from ⟨(fun x => nomatch x), h⟩⟩ hu
theorem tup_ge (l b : Addr) (us ws : Array Value) (n m : Nat) (dd dd2 : Option Addr) (sl sl2 : Array (Option Value)) (k : Bool) :
    Meets (Builtin.«tuple.__ge__» ⟨[.ref l, .ref b], []⟩)
      (fun A R s => s.heap.get? l = some { cls := .type "tuple", dict := dd, data := .seq us n, slots := sl } ∧ s.heap.get? b = some { cls := .type "tuple", dict := dd2, data := .seq ws m, slots := sl2 } ∧
        Cmp A.in1 s .GtE (cmpN .GtE us.size ws.size) (us.toList.zip ws.toList) k ∧ R (.ok (.ret (.bool k))) s) := .of_wp fun prog w A R s h => by
  obtain ⟨hp, g, d, tk, os⟩ := s; obtain ⟨hl, hb, hc, h⟩ := h
  have sub := AutoSeq1.sub_tuple_tuple
  wp_walk using wpAny_loadPart' hl, wpAny_loadPart' hb, wpAny_forIn_list _ (fun rest b s' => b.1 = none ∧ s' = ⟨hp, g, d, tk, os⟩ ∧ Cmp A.in1 ⟨hp, g, d, tk, os⟩ .GtE (cmpN .GtE us.size ws.size) rest k) _
  case turn =>
    rintro ⟨y, x⟩ rest b s' ⟨hb', rfl, hc⟩
    cases hc with
    | same he hr =>
      refine wpAny_bind (he prog w _ _ ?_)
      wp_walk
      exact ⟨rfl, rfl, hr⟩
    | stop he hr =>
      refine wpAny_bind (he prog w _ _ ?_)
      refine wpAny_bind (wpAny_rule ?_)
      refine wpAny_bind (hr prog w _ _ ?_)
      wp_walk
      exact ⟨_, rfl, h⟩
  case fin =>
    rintro ⟨b1, b2⟩ s' ⟨hb', rfl, hc⟩
    simp only at hb'
    subst hb'
    cases hc
    wp_walk
    exact ⟨_, rfl, by simpa [Builtin.Tuple.tupleCompareSizes, cmpN] using h⟩
  case h => exact ⟨rfl, rfl, hc⟩
theorem rc_tup_ge {A : Around} {s : Shared} {l b : Addr} {us ws : Array Value} {k : Bool} (hl : s.heap.IsTuple l us) (hb : s.heap.IsTuple b ws) (hu : A.units < cLine) (hc : Cmp A.in1 s .GtE (cmpN .GtE us.size ws.size) (us.toList.zip ws.toList) k) : Rc .GtE A s (.ref l) (.ref b) k := fun prog w E Q h => by
  obtain ⟨⟨_, dd, _, sl⟩, ho, c1, n, d1⟩ := id hl
  obtain ⟨⟨_, dd2, _, sl2⟩, ho2, c2, m, d2⟩ := id hb
  simp only at c1 d1 c2 d2
  subst c1 d1 c2 d2
  exact richCompare_meets_room (op := .GtE) ⟨_, ho, rfl⟩ ⟨_, ho2, rfl⟩ F.slot_tuple_ge F.entry_tuple_ge (F.args_tuple_ge_2 _ _) (tup_ge l b us ws n m dd dd2 sl sl2 k)
    ⟨ho, ho2, hc, show Value.bool k ≠ Value.notImplemented ∧ Q (.bool k) s from ⟨(fun x => nomatch x), h⟩⟩ hu
end
/-- the four orders -/
inductive IsCmp : CmpOp → Prop
  | lt : IsCmp .Lt
  | gt : IsCmp .Gt
  | le : IsCmp .LtE
  | ge : IsCmp .GtE
theorem rc_tup {op : CmpOp} (ho : IsCmp op) {A : Around} {s : Shared} {l b : Addr} {us ws : Array Value} {k : Bool} (hl : s.heap.IsTuple l us) (hb : s.heap.IsTuple b ws) (hu : A.units < cLine) (hc : Cmp A.in1 s op (cmpN op us.size ws.size) (us.toList.zip ws.toList) k) : Rc op A s (.ref l) (.ref b) k := by
  cases ho
  · exact rc_tup_lt hl hb hu hc
  · exact rc_tup_gt hl hb hu hc
  · exact rc_tup_le hl hb hu hc
  · exact rc_tup_ge hl hb hu hc
theorem rc_int {op : CmpOp} (ho : IsCmp op) {A : Around} {s : Shared} (i j : Int) (t u : Tok) : Rc op A s (.int i t) (.int j u) (cmpI op i j) := fun prog w E Q h => by
  cases ho
  · exact PySem.P.lt_int h
  · exact PyProof.Rows.gt_int h
  · exact PyProof.Rows.le_int h
  · exact PyProof.Rows.ge_int h
theorem rc_str {op : CmpOp} (ho : IsCmp op) {A : Around} {s : Shared} (x y : Str) (t u : Tok) : Rc op A s (.str x t) (.str y u) (cmpS op x y) := fun prog w E Q h => by
  cases ho
  · exact PySem.P.lt_str h
  · exact PySem.P.gt_str h
  · exact PySem.P.le_str h
  · exact PySem.P.ge_str h
mutual
theorem rc_data {op : CmpOp} (ho : IsCmp op) : ∀ (d e : PyData) (A : Around) (s : Shared) (a b : Value) (as bs : List Addr), Reads s.heap a d as → Reads s.heap b e bs → cmpOk d e = true → d.canLay0 = true → e.canLay0 = true → A.units + min d.depth e.depth < cLine → Rc op A s a b (cmpV op d e)
  | .int i, .int j, A, s, _, _, _, _, ra, rb, _, _, _, _ => by
    cases ra with
    | int _ t => cases rb with
      | int _ u => exact rc_int ho i j t u
  | .str x, .str y, A, s, _, _, _, _, ra, rb, _, _, _, _ => by
    cases ra with
    | str _ t => cases rb with
      | str _ u => exact rc_str ho x y t u
  | .tuple xs, .tuple ys, A, s, _, _, _, _, ra, rb, hc, ha, hb, hu => by
    cases ra with
    | @tuple l o vs n _ as₁ h1 h2 h3 h4 =>
      cases rb with
      | @tuple l' o' vs' n' _ bs₁ k1 k2 k3 k4 =>
        have n1 : vs.size = xs.length := by simpa using ReadsAll.length _ _ _ h4
        have n2 : vs'.size = ys.length := by simpa using ReadsAll.length _ _ _ k4
        refine rc_tup ho ⟨_, h1, h2, _, h3⟩ ⟨_, k1, k2, _, k3⟩ (room_here hu) ?_
        rw [n1, n2]
        exact rc_datas ho xs ys A.in1 s _ _ _ _ _ h4 k4 hc ha hb (room_in hu)
  | .none, _, _, _, _, _, _, _, _, _, h, _, _, _ => by simp [cmpOk] at h
  | .bool _, _, _, _, _, _, _, _, _, _, h, _, _, _ => by simp [cmpOk] at h
  | .list _, _, _, _, _, _, _, _, _, _, h, _, _, _ => by simp [cmpOk] at h
  | .dict _, _, _, _, _, _, _, _, _, _, h, _, _, _ => by simp [cmpOk] at h
  | .int _, .none, _, _, _, _, _, _, _, _, h, _, _, _ => by simp [cmpOk] at h
  | .int _, .bool _, _, _, _, _, _, _, _, _, h, _, _, _ => by simp [cmpOk] at h
  | .int _, .str _, _, _, _, _, _, _, _, _, h, _, _, _ => by simp [cmpOk] at h
  | .int _, .list _, _, _, _, _, _, _, _, _, h, _, _, _ => by simp [cmpOk] at h
  | .int _, .tuple _, _, _, _, _, _, _, _, _, h, _, _, _ => by simp [cmpOk] at h
  | .int _, .dict _, _, _, _, _, _, _, _, _, h, _, _, _ => by simp [cmpOk] at h
  | .str _, .none, _, _, _, _, _, _, _, _, h, _, _, _ => by simp [cmpOk] at h
  | .str _, .bool _, _, _, _, _, _, _, _, _, h, _, _, _ => by simp [cmpOk] at h
  | .str _, .int _, _, _, _, _, _, _, _, _, h, _, _, _ => by simp [cmpOk] at h
  | .str _, .list _, _, _, _, _, _, _, _, _, h, _, _, _ => by simp [cmpOk] at h
  | .str _, .tuple _, _, _, _, _, _, _, _, _, h, _, _, _ => by simp [cmpOk] at h
  | .str _, .dict _, _, _, _, _, _, _, _, _, h, _, _, _ => by simp [cmpOk] at h
  | .tuple _, .none, _, _, _, _, _, _, _, _, h, _, _, _ => by simp [cmpOk] at h
  | .tuple _, .bool _, _, _, _, _, _, _, _, _, h, _, _, _ => by simp [cmpOk] at h
  | .tuple _, .int _, _, _, _, _, _, _, _, _, h, _, _, _ => by simp [cmpOk] at h
  | .tuple _, .str _, _, _, _, _, _, _, _, _, h, _, _, _ => by simp [cmpOk] at h
  | .tuple _, .list _, _, _, _, _, _, _, _, _, h, _, _, _ => by simp [cmpOk] at h
  | .tuple _, .dict _, _, _, _, _, _, _, _, _, h, _, _, _ => by simp [cmpOk] at h
theorem rc_datas {op : CmpOp} (ho : IsCmp op) : ∀ (xs ys : List PyData) (A : Around) (s : Shared) (z : Bool) (vs ws : List Value) (as bs : List Addr), ReadsAll s.heap vs xs as → ReadsAll s.heap ws ys bs → cmpOks xs ys = true → PyData.canLayAll0 xs = true → PyData.canLayAll0 ys = true →
    A.units + min (PyData.depthAll xs) (PyData.depthAll ys) < cLine → Cmp A s op z (vs.zip ws) (cmpVs op z xs ys)
  | [], _, A, s, z, _, _, _, _, ra, _, _, _, _, _ => by cases ra; simp only [List.zip_nil_left, cmpVs]; exact .nil
  | _ :: _, [], A, s, z, _, _, _, _, ra, rb, _, _, _, _ => by cases rb; simp only [List.zip_nil_right, cmpVs]; exact .nil
  | x :: xs, y :: ys, A, s, z, _, _, _, _, ra, rb, hc, ha, hb, hu => by
    cases ra with
    | cons r rs =>
      cases rb with
      | cons r' rs' =>
        rw [PyData.canLayAll0, Bool.and_eq_true] at ha hb
        rw [List.zip_cons_cons]
        have he := eqAt_reads x y A s _ _ _ _ r r' ha.1 hb.1 (room_head hu)
        rw [cmpOks] at hc
        cases hx : PyData.eqv x y with
        | true =>
          rw [hx] at he hc
          rw [cmpVs, hx, if_pos rfl]
          exact .same he (rc_datas ho xs ys A s z _ _ _ _ rs rs' hc ha.2 hb.2 (room_tail hu))
        | false =>
          rw [hx] at he hc
          rw [cmpVs, hx, if_neg Bool.false_ne_true]
          exact .stop he (rc_data ho x y A s _ _ _ _ r r' hc ha.1 hb.1 (room_head hu))
end
end Ab
namespace Ab
open PySem L2
/-- x op y, data that Python can compare -/
def rCmp (op : CmpOp) (K : PySem.W.Frag) : R2 := fun x y H Q => ∃ d e, Dp K H x d ∧ Dp K H y e ∧ cmpOk d e = true ∧ SeqAt.shaped d = true ∧ SeqAt.shaped e = true ∧ Q (.bl (cmpV op d e)) H
theorem op_cmp {X : Cx} {op : CmpOp} (hu : X.A.units + 64 < cLine) (ho : IsCmp op) : OpR X (compareOp op) (rCmp op X.K) := fun pins s σ H x y v u Q I rx ry ⟨d, e, hd, he, hc, sd, se, q⟩ => by
  obtain ⟨_, r1⟩ := Dp.reads I d x v hd rx
  obtain ⟨_, r2⟩ := Dp.reads I e y u he ry
  have z := rc_data ho d e X.A s v u _ _ r1 r2 hc (SeqAt.canLay_of_shaped sd) (SeqAt.canLay_of_shaped se) (SeqAt.room_of_shaped sd hu)
  cases ho <;> exact z _ _ _ _ ⟨.bl _, H, I, rfl, q⟩
theorem op_ltD {X : Cx} (hu : X.A.units + 64 < cLine) : OpR X (compareOp .Lt) (rCmp .Lt X.K) := op_cmp hu .lt
section
variable {K : KX} {M : MH} {Q : Sl → MH → Prop}
theorem w2_cmp {K : PySem.W.Frag} {op : CmpOp} {d e : PyData} (hc : cmpOk d e = true) (h1 : SeqAt.shaped d = true) (h2 : SeqAt.shaped e = true) (q : Q (.bl (cmpV op d e)) M) : W2 K (rCmp op K) (.dat d) (.dat e) M Q := fun B H v w hS o1 o2 Q0 k =>
  ⟨d, e, dq_dp _ _ (dp_same hS.sub _ _ o1), dq_dp _ _ (dp_same hS.sub _ _ o2), hc, h1, h2, k _ _ M B H q (Same.refl B) hS slok_bl⟩
end
end Ab
set_option Elab.async false
set_option linter.all false
set_option maxRecDepth 1000000
set_option  maxHeartbeats 4000000
namespace Ab
open PySem L2
theorem room65 {k : Nat} {A : Around} (r : Room k A) : A.units + 65 < cLine := by
  have := r.un
  omega
/-- the state of the draws: the script, how far it is read, a number in hand, the seed -/
def DrawL (xs : List Sl) : Prop := ∃ (sc : List Int) (pos cur seed : Int), xs = [.dat (.list (sc.map .int)), .int pos, .int cur, .int seed] ∧ 0 ≤ pos
def A_next : ASp := fun ss M Q => ∃ (p : Addr) (n : Int) (xs : List Sl), ss = [.ref p, .int n] ∧ M p = some (.lst xs) ∧ DrawL xs ∧ 0 < n ∧ n ≤ 10 ^ 40 ∧ ∀ (v : Int) (ys : List Sl), 0 ≤ v → v < n → DrawL ys → Q (.int v) (um M p (.lst ys))
/-- a def that draws something of a sort -/
def A_gen (R : List PyData → Prop) (P : List PyData → PyData → Prop) : ASp := fun ss M Q => ∃ (p : Addr) (xs : List Sl) (ds : List PyData), ss = .ref p :: ds.map .dat ∧ R ds ∧ M p = some (.lst xs) ∧ DrawL xs ∧ ∀ d ys, P ds d → DrawL ys → Q (.dat d) (um M p (.lst ys))
theorem a_next {M : MH} {p : Addr} {n : Int} {ys : List Sl} {Q : Sl → MH → Prop} (hD : DrawL ys) (h0 : 0 < n) (h1 : n ≤ 10 ^ 40) (q : ∀ (v : Int) (zs : List Sl), 0 ≤ v → v < n → DrawL zs → Q (.int v) (um M p (.lst zs))) : A_next [.ref p, .int n] (um M p (.lst ys)) Q :=
  ⟨p, n, ys, rfl, um_same, hD, h0, h1, fun v zs a b c => by rw [um_um]; exact q v zs a b c⟩
theorem a_gen {R : List PyData → Prop} {P : List PyData → PyData → Prop} {M : MH} {p : Addr} {ys : List Sl} {Q : Sl → MH → Prop} (hD : DrawL ys) (ds : List PyData) (hR : R ds) (q : ∀ d zs, P ds d → DrawL zs → Q (.dat d) (um M p (.lst zs))) : A_gen R P (.ref p :: ds.map .dat) (um M p (.lst ys)) Q :=
  ⟨p, ys, ds, rfl, hR, um_same, hD, fun d zs a b => by rw [um_um]; exact q d zs a b⟩
/-- a draw with no more to be told -/
theorem a_gen0 {R : List PyData → Prop} {P : List PyData → PyData → Prop} {M : MH} {p : Addr} {ys : List Sl} {Q : Sl → MH → Prop} (hD : DrawL ys) (hR : R []) (q : ∀ d zs, P [] d → DrawL zs → Q (.dat d) (um M p (.lst zs))) : A_gen R P [.ref p] (um M p (.lst ys)) Q := a_gen hD [] hR q
theorem a_gen1 {R : List PyData → Prop} {P : List PyData → PyData → Prop} {M : MH} {p : Addr} {ys : List Sl} {Q : Sl → MH → Prop} {x : PyData} (hD : DrawL ys) (hR : R [x]) (q : ∀ d zs, P [x] d → DrawL zs → Q (.dat d) (um M p (.lst zs))) : A_gen R P [.ref p, .dat x] (um M p (.lst ys)) Q := a_gen hD [x] hR q
section
variable {K : KX} {ρ : Rho} {M : MH} {Q Q' : Sl → MH → Prop} {ta tb te tc to : TE}
/-- [te for _ in range(n)], te a draw -/
theorem w_lcGen {t : TA} {j : Nat} {vs : List Nat} {p : Addr} (hj : j ∈ vs) (P : PyData → Prop)
    (hl : WA K t ρ M fun ss M1 => ∃ (n : Int) (M0 : MH) (ys : List Sl), ss = [.int n] ∧ M1 = um M0 p (.lst ys) ∧ DrawL ys ∧ n ≤ 1000000 ∧ -1000000 ≤ n ∧
      (∀ (i : Nat) M2 zs, (i : Int) < n → DrawL zs → W K te ((wipeR ρ vs).set j (some (.int (i : Int)))) (um M2 p (.lst zs)) fun s M4 => ∃ d us, s = .dat d ∧ M4 = um M2 p (.lst us) ∧ DrawL us ∧ P d) ∧
      ∀ ds zs, DrawL zs → ds.length = n.toNat → (∀ d ∈ ds, P d) → Q (.dat (.list ds)) (um M0 p (.lst zs))) : W K (tLc (iRng1 t) (gName j) tYes te vs) ρ M Q :=
  w_lc hj (wi_r1 fun σ B H hR hS Q0 k => hl σ B H hR hS Q0 fun ss ws M' B' H' ⟨n, M0, ys, e1, e2, hD, hn, hn', hs, q⟩ => by
    subst e1 e2
    refine k _ ws _ B' H' ⟨n, rfl, by omega, by omega, fun i acc M2 => ∃ zs, M2 = um M0 p (.lst zs) ∧ DrawL zs ∧ acc.length = i ∧ ∀ d ∈ acc, P d, ⟨ys, rfl, hD, rfl, fun d hd => (nomatch hd)⟩, fun _ _ _ _ _ _ _ _ => trivial, ?_, ?_⟩
    · rintro i acc M2 D hi ⟨zs, rfl, hz, hl, hP⟩ hDn
      refine wt_yes ?_
      have hne : p ≠ D := fun e => by rw [← e, um_same] at hDn; cases hDn
      rw [um_comm hne]
      refine (hs i _ zs (by omega) hz).imp fun s M4 ⟨d, us, e1, e2, hu, hp⟩ => ⟨d, um M0 p (.lst us), e1, ?_, ?_, by omega, us, rfl, hu, by rw [List.length_append, hl]; rfl, fun d' hd' => ?_⟩
      · rw [e2, um_comm hne.symm]
      · rw [um_ne hne.symm] at hDn ⊢
        exact hDn
      · rcases List.mem_append.mp hd' with h | h
        · exact hP d' h
        · rw [List.mem_singleton.mp h]; exact hp
    · rintro acc M2 ⟨zs, rfl, hz, hl, hP⟩
      exact q acc zs hz hl hP)
theorem w_lcT {α : Type} {enc : α → PyData} {xs : List α} {tl : TE} {j : Nat} {vs : List Nat} {M1 : MH} (hj : j ∈ vs) (hl : W K tl ρ M fun s M2 => s = .dat (.tuple (xs.map enc)) ∧ M2 = M1) (hz : xs.length ≤ 1000000) (f : α → PyData)
    (he : ∀ x D o, x ∈ xs → M1 D = none → W K te ((wipeR ρ vs).set j (some (.dat (enc x)))) (um M1 D o) fun s M' => s = .dat (f x) ∧ M' = um M1 D o) (q : Q (.dat (.list (xs.map f))) M1) : W K (tLc (iTup K tl) (gName j) tYes te vs) ρ M Q :=
  w_lc hj (wi_tup (hl.imp fun s M2 ⟨e1, e2⟩ => by
    subst e1 e2
    refine ⟨_, tpv_dat, fun i acc M' => M' = M2 ∧ acc = (xs.take i).map f, ⟨rfl, by simp⟩, fun _ _ _ _ _ _ _ _ => trivial, fun i acc M' D hi ⟨eM, ea⟩ hD => ?_, fun acc M' ⟨eM, ea⟩ => ?_⟩
    · subst eM ea
      have hi' : i < xs.length := by simpa using hi
      refine wt_yes ?_
      show W K te ((wipeR ρ vs).set j (some (((xs.map enc).map Sl.dat).getD i .non))) _ _
      rw [getD_map hi']
      refine (he xs[i] D _ (List.getElem_mem hi') hD).imp fun s M' ⟨e1, e2⟩ => ⟨f xs[i], _, e1, e2, hD, ?_, rfl, ?_⟩
      · rw [List.length_map, List.length_take]
        omega
      · rw [List.take_succ_eq_append_getElem hi', List.map_append]
        rfl
    · subst eM ea
      rw [List.length_map, List.length_map, List.take_length]
      exact q))
/-- for _ in range(n), n found on the way -/
theorem ws_forRn {nx bk ct : Rho → MH → Prop} {rt : Sl → MH → Prop} {t : TA} {g : TG} {tb : TS} (h : WA K t ρ M fun xs M1 => ∃ n : Int, xs = [.int n] ∧ -(2 ^ 62) ≤ n ∧ n < 2 ^ 62 ∧ ∃ J : Nat → Rho → MH → Prop, J 0 ρ M1 ∧
    (∀ (i : Nat) ρ' M', (i : Int) < n → J i ρ' M' → WG K g (.int (i : Int)) ρ' M' fun ρ2 M2 => WS K tb ρ2 M2 ⟨J (i + 1), rt, nx, J (i + 1)⟩) ∧ ∀ ρ' M', J n.toNat ρ' M' → nx ρ' M') : WS K (tFor (iRng1 t) g tb) ρ M ⟨nx, rt, bk, ct⟩ :=
  ws_for (wi_r1 fun σ B H hR hS Q0 k => h σ B H hR hS Q0 fun ss vs M' B' H' ⟨n, e1, h1, h2, J, j0, js, je⟩ => by
    subst e1
    exact k _ vs _ B' H' ⟨n, rfl, h1, h2, J, j0, fun _ _ _ _ _ => trivial, fun i ρ' M' hi hj => js i ρ' M' (by omega) hj, je⟩)
theorem w2_ixAny {K : PySem.W.Frag} {ds : List PyData} {i : Int} (h0 : 0 ≤ i) (h : i < ds.length) (q : ∀ d ∈ ds, Q (.dat d) M) : W2 K (rIxL K) (.dat (.list ds)) (.int i) M Q := by
  have hi : i.toNat < ds.length := by omega
  refine w2_ixL (x := .dat ds[i.toNat]) lsv_dat ?_ (q _ (List.getElem_mem hi))
  rw [atI_map, atI_ok h0 (List.getElem?_eq_getElem hi)]
  rfl
theorem cutG_all {α : Type} {xs : List α} {lo hi : Option Int} (h : HT.sIx xs.length 0 lo = 0 ∧ HT.sIx xs.length xs.length hi = xs.length) : cutG xs lo hi = xs := by
  unfold cutG
  rw [h.1, h.2]
  simp
theorem wsl_tup {K : PySem.W.Frag} {ds : List PyData} {lo hi : Option Int} (q : Q (.dat (.tuple (cutG ds lo hi))) M) : WSl K (rSlA K) (.dat (.tuple ds)) lo hi M Q := fun B H v hS o Q0 k => by
  obtain ⟨a, vs, rfl, hq, ha⟩ := (tpv_dat (ds := ds)).get hS o
  have hl := DqAll.length (dpa_of ha)
  refine ⟨a, vs, rfl, hq, fun hw => ?_, fun hw p hp => ?_⟩
  · rw [hl] at hw
    rw [cutG_all hw] at q
    exact k _ _ M B H q (Same.refl B) hS o
  · exact k _ _ M (upd B p (.tup (cutV vs lo hi))) _ q (same_new (hS.freeB hp)) (hS.alloc hp) (tup_ok (dpa_cut (dpa_of ha) lo hi) (hS.freeB hp))
theorem w2_catT {K : PySem.W.Frag} {ds es : List PyData} (hl : ds.length + es.length ≤ 1000000) (q : Q (.dat (.tuple (ds ++ es))) M) : W2 K (rCatA K) (.dat (.tuple ds)) (.dat (.tuple es)) M Q := fun B H v w hS o1 o2 Q0 k => by
  obtain ⟨a, vs, rfl, hq, ha⟩ := (tpv_dat (ds := ds)).get hS o1
  obtain ⟨b, ws, rfl, hq2, ha2⟩ := (tpv_dat (ds := es)).get hS o2
  have l1 := DqAll.length (dpa_of ha)
  have l2 := DqAll.length (dpa_of ha2)
  refine ⟨a, b, vs, ws, rfl, rfl, hq, hq2, Nat.le_trans (by omega) (show 1000000 ≤ sizeLine by decide), fun e => ?_, fun _ e => ?_, fun _ _ p hp => ?_⟩
  · subst e
    cases ds with
    | nil => exact k _ _ M B H q (Same.refl B) hS o2
    | cons _ _ => cases l1
  · subst e
    cases es with
    | nil => rw [List.append_nil] at q; exact k _ _ M B H q (Same.refl B) hS o1
    | cons _ _ => cases l2
  · exact k _ _ M (upd B p (.tup (vs ++ ws))) _ q (same_new (hS.freeB hp)) (hS.alloc hp) (tup_ok (DqAll.app (dpa_of ha) (dpa_of ha2)) (hS.freeB hp))
theorem wl_min {K : PySem.W.Frag} {i j : Int} (q : Q (.int (if j < i then j else i)) M) : WL K (fun xs H Q => ∃ i j, xs = [.int i, .int j] ∧ Q (.int (if j < i then j else i)) H) [.dat (.int i), .dat (.int j)] M Q := fun B H vs hS o Q0 k => by
  cases o with
  | cons o1 o2 => cases o2 with
    | cons o2 o3 =>
      cases o3
      exact ⟨i, j, by rw [of_int o1, of_int o2], k _ _ M B H q (Same.refl B) hS slok_int⟩
theorem dpa_strs {K : PySem.W.Frag} {B : Hp} : ∀ {vs : List V} {ys : List Str}, DqAll K B vs (ys.map .str) → vs = ys.map V.str
  | _, [], .nil => rfl
  | _, _ :: _, .cons h t => by
    cases h
    rw [dpa_strs t]
    rfl
abbrev rJoin (K : PySem.W.Frag) : V → List V → Hp → VK → Prop := fun x xs H Q => ∃ a p, ∃ ys : List Str, x = .str a ∧ xs = [.ref p] ∧ (SqL K H p (ys.map V.str) ∨ SqT K H p (ys.map V.str)) ∧ (ys.map (·.length)).sum + ys.length * a.length ≤ 16777216 ∧ Q (.str (Txt.join a ys)) H
theorem w_join (h : W K to ρ M fun s M1 => ∃ a, s = .str a ∧ W K te ρ M1 fun x M2 => ∃ ys : List Str, x = .dat (.list (ys.map .str)) ∧ (ys.map (·.length)).sum + ys.length * a.length ≤ 16777216 ∧ Q (.str (Txt.join a ys)) M2) : W K (tM1 (rJoin K) to te) ρ M Q := fun σ B H hR hS Q0 k =>
  h σ B H hR hS _ fun s v M1 B1 H1 ⟨a, es, h1⟩ e1 S1 o1 => by
    subst es
    refine ⟨⟨a, of_str o1⟩, h1 σ B1 H1 (hR.mono e1) S1 _ fun x w M2 B2 H2 ⟨ys, ex, hl, q⟩ e2 S2 o2 => ?_⟩
    subst ex
    obtain ⟨p, vs, rfl, hq, ha⟩ := (lsv_dat (K := K) (ds := ys.map .str) (M := M2)).get S2 o2
    have ev := dpa_strs (dpa_of ha)
    subst ev
    exact ⟨a, p, ys, of_str o1, rfl, .inl hq, hl, k _ _ M2 B2 H2 q (e1.trans e2) S2 slok_str⟩
abbrev rTIndex (K : PySem.W.Frag) : V → List V → Hp → VK → Prop := fun x xs H Q => ∃ p, ∃ ys : List Str, ∃ z j, x = .ref p ∧ xs = [.str z] ∧ SqT K H p (ys.map V.str) ∧ ys[j]? = some z ∧ (∀ m, m < j → ys[m]? ≠ some z) ∧ Q (.int (j : Nat)) H
/-- a tuple of texts of the module -/
def TupC (K : PySem.W.Frag) (c : Addr) (ys : List Str) : Prop := (∃ o, K.lookup c = some o ∧ o.cls = .type "tuple" ∧ o.dict = none) ∧ ∀ H, SqT K H c (ys.map V.str)
theorem wm_tindex {K : PySem.W.Frag} {ys : List Str} {z : Str} {j : Nat} {c : Addr} (hc : TupC K c ys) (h1 : ys[j]? = some z) (h2 : ∀ m, m < j → ys[m]? ≠ some z) (q : Q (.int (j : Nat)) M) : WM K (rTIndex K) (.raw (.ref c)) [.str z] M Q := fun B H v vs hS o1 o2 Q0 k => by
  cases o2 with
  | cons a b =>
    cases b
    exact ⟨c, ys, z, j, o1, by rw [of_str a], hc.2 H, h1, h2, k _ _ M B H q (Same.refl B) hS slok_int⟩
theorem ty_tupC {K : PySem.W.Frag} {ys : List Str} {c : Addr} (hc : TupC K c ys) : ∀ B H v, Sep K B M H → SlOk K B v (.raw (.ref c)) → tyV K "tuple" v H := fun B H v S o => by
  obtain ⟨ob, h⟩ := hc.1
  have e : v = .ref c := o
  subst e
  exact .inr (.inl ⟨rfl, ob, h⟩)
theorem wm_index {K : PySem.W.Frag} {ds : List PyData} {d z : PyData} {j : Nat} (s1 : SeqAt.shaped (.list ds) = true) (s2 : SeqAt.shaped d = true) (h1 : ds[j]? = some z) (h2 : PyData.eqv z d = true) (h3 : ∀ (m : Nat) (z' : PyData), m < j → ds[m]? = some z' → PyData.eqv z' d = false) (q : Q (.int (j : Nat)) M) : WM K (rIndexD K) (.dat (.list ds)) [.dat d] M Q := fun B H v vs hS o1 o2 Q0 k => by
  obtain ⟨a, us, rfl, hq, ha⟩ := (lsv_dat (K := K) (ds := ds) (M := M)).get hS o1
  cases o2 with
  | cons x y =>
    cases y
    exact ⟨a, _, d, ds, j, z, rfl, rfl, dq_dp _ _ (dp_same hS.sub _ _ o1), dq_dp _ _ (dp_same hS.sub _ _ x), s1, s2, h1, h2, h3, k _ _ M B H q (Same.refl B) hS slok_int⟩
end
end Ab
set_option Elab.async false
set_option linter.all false
set_option maxRecDepth 1000000
set_option  maxHeartbeats 4000000
namespace L2
open PySem PySem.Spec PyProof.Rows
section
variable {X : Cx} {CX : CXT} {k : Nat} {f C : Addr} {fd : FuncData} {ps : List Str} {sp : Sp} {dvs : List V} {ds : List Value} {E : St → XK} {x m : Str} {p pos apos : Pos} {e o : Expr} {es : List Expr} {ta : TE} {t : TA}
/-- what stands behind o.m(..), as the model reads it -/
def IsMCall (X : Cx) (o : Expr) (m : Str) (es : List Expr) (apos pos : Pos) (pl : Sem Bool) : Prop :=
  eval (.Call (.Attribute o m apos) es [] pos) X.env = (do let ov ← eval o X.env; standAt apos.atName; let (f, first) ← holding [ov] (getMethod ov m pl); callWith pos f first (backTo pos (starEach es X.env)) (backToKw pos (keywordEach [] X.env)))
/-- o.m(..): what it lets out may hang on the slots -/
def tMethD (C : Addr) (m : Str) (sp : Sp) (dvs : List V) (E : St → XK) (ta : TE) (t : TA) : TE := fun σ H Q =>
  ta σ H fun x H1 => ∃ a dx fs, x = .ref a ∧ H1 a = some (.ins C dx fs) ∧ fs.lookup m = none ∧ t σ H1 fun vs H2 => sp (x :: (vs ++ dvs)) H2 Q (E σ)
theorem pe_methD {pl : Sem Bool} (he : PE X o ta) (c : Cls X.K C) (hm : Meth X.K C m f) (F : FnOk X.prog X.w X.K X.mg X.base CX k f fd ps sp) (hr : Room k X.A) (hb : Binds X.K fd ps ds) (hd : Vals dvs ds) (hx : ∀ σ, PassesAt CX X σ (E σ)) (ha : PA X (e :: es) t)
    (h1 : starEach (e :: es) X.env = (false, eval e X.env) :: starEach es X.env := by rfl) (h2 : (backTo pos (starEach es X.env)).any (·.1) = false := by rfl) (h3 : IsMCall X o m (e :: es) apos pos pl := by rfl) : PE X (.Call (.Attribute o m apos) (e :: es) [] pos) (tMethD C m sp dvs E ta t) :=
  ⟨fun pins s σ H Q I h => PySem.W.methodCall_KW (pl := pl) (thn (he.run pins s σ H _ I h) fun u s1 ⟨_, H1, I1, rx, a, dx, fs, ex, ea, l, q⟩ => by
    cases ex
    cases rx
    exact getmeth_ok I1 ea c hm l (PySem.W.callWith_K (first := [.ref a]) (h₀ := X.base) I.ok.mod.kin hm.kp (thn (ha.run pos pins s1 σ H1 _ I1 q) fun us s2 ⟨vs, H2, I2, r, q2⟩ => ⟨I2.kIn, run_fnSD (us := .ref a :: us) (vs := .ref a :: vs) F hr hb hd (hx σ) I2 (.cons rfl r) q2⟩) h1 h2)) h3⟩
theorem pe_methD0 {pl : Sem Bool} (he : PE X o ta) (c : Cls X.K C) (hm : Meth X.K C m f) (F : FnOk X.prog X.w X.K X.mg X.base CX k f fd ps sp) (hr : Room k X.A) (hb : Binds X.K fd ps ds) (hd : Vals dvs ds) (hx : ∀ σ, PassesAt CX X σ (E σ))
    (h3 : IsMCall X o m [] apos pos pl := by rfl) : PE X (.Call (.Attribute o m apos) [] [] pos) (tMethD C m sp dvs E ta tNil) :=
  ⟨fun pins s σ H Q I h => PySem.W.methodCall_KW (pl := pl) (thn (he.run pins s σ H _ I h) fun u s1 ⟨_, H1, I1, rx, a, dx, fs, ex, ea, l, q⟩ => by
    cases ex
    cases rx
    exact getmeth_ok I1 ea c hm l (PySem.W.callWith_K0 (first := [.ref a]) I1.kIn hm.kp (run_fnSD (us := [.ref a]) (vs := [.ref a]) F hr hb hd (hx σ) I1 (.cons rfl .nil) q))) h3⟩
end
end L2
namespace Ab
open PySem PySem.Spec PyProof.Rows L2
abbrev ASpX := List Sl → MH → (Sl → MH → Prop) → (Value → Option Addr → MH → Prop) → Prop
def concX (K : PySem.W.Frag) (A : ASpX) : Sp := fun vs H Q E => ∃ (B : Hp) (M : MH) (ss : List Sl) (QA : Sl → MH → Prop) (XA : Value → Option Addr → MH → Prop), Sep K B M H ∧ SlAll K B vs ss ∧ A ss M QA XA ∧
  (∀ s v M' B' H', QA s M' → Same B B' → Sep K B' M' H' → SlOk K B' v s → Q v H') ∧ ∀ C d M' B' H', XA C d M' → Same B B' → Sep K B' M' H' → E C d H'
section
variable {K : KX} {ρ : Rho} {M : MH} {Q Q' : Sl → MH → Prop} {ta tb te tc : TE} {P : AE} {nx bk ct : Rho → MH → Prop} {rt : Sl → MH → Prop}
theorem conc_x {F : PySem.W.Frag} {A : ASpX} {vs : List V} {H : Hp} {Q0 : VK} {E : XK} {B : Hp} {M : MH} {ss : List Sl} {QA : Sl → MH → Prop} {XA : Value → Option Addr → MH → Prop} (S : Sep F B M H) (o : SlAll F B vs ss) (h : A ss M QA XA)
    (k : ∀ s v M' B' H', QA s M' → Same B B' → Sep F B' M' H' → SlOk F B' v s → Q0 v H') (x : ∀ C d M' B' H', XA C d M' → Same B B' → Sep F B' M' H' → E C d H') : concX F A vs H Q0 E := ⟨B, M, ss, QA, XA, S, o, h, k, x⟩
theorem w_callX {A : ASpX} {t : TA} (h : WA K t ρ M fun ss M1 => A ss M1 Q fun C d M2 => K.X C d ρ M2) : W K (tCallSD (concX K.K A) [] (WE K.W) t) ρ M Q := fun σ B H hR hS Q0 k =>
  h σ B H hR hS _ fun ss vs M1 B1 H1 q e1 S1 o1 => conc_x S1 (by rw [List.append_nil]; exact o1) q (fun s v M2 B2 H2 q2 e2 S2 o2 => k s v M2 B2 H2 q2 (e1.trans e2) S2 o2)
    (fun C d M2 B2 H2 x e2 S2 => hR.x C d ρ M2 σ B2 H2 x (e1.trans e2) (hR.r.mono (e1.trans e2)) S2)
theorem slks_get {F : PySem.W.Frag} {B : Hp} {f : Str} {s : Sl} : ∀ {vs : List (Str × V)} {fs : List (Str × Sl)}, SlKs F B vs fs → fs.lookup f = some s → ∃ v, vs.lookup f = some v ∧ SlOk F B v s
  | _, _, .nil, e => nomatch e
  | (g, v) :: vs, (g', s') :: fs, .cons ⟨h1, h2⟩ t, e => by
    cases h1
    rw [List.lookup_cons] at e ⊢
    cases hb : f == g with
    | true => rw [hb] at e; cases e; exact ⟨v, rfl, h2⟩
    | false => rw [hb] at e; exact slks_get t e
theorem slks_none {F : PySem.W.Frag} {B : Hp} {f : Str} : ∀ {vs : List (Str × V)} {fs : List (Str × Sl)}, SlKs F B vs fs → fs.lookup f = none → vs.lookup f = none
  | _, _, .nil, _ => rfl
  | (g, v) :: vs, (g', s') :: fs, .cons ⟨h1, h2⟩ t, e => by
    cases h1
    rw [List.lookup_cons] at e ⊢
    cases hb : f == g with
    | true => rw [hb] at e; cases e
    | false => rw [hb] at e; exact slks_none t e
def putS (f : Str) (s : Sl) : List (Str × Sl) → List (Str × Sl)
  | [] => [(f, s)]
  | (g, x) :: r => if g = f then (g, s) :: r else (g, x) :: putS f s r
theorem slks_put {F : PySem.W.Frag} {B : Hp} {f : Str} {s : Sl} {v : V} (o : SlOk F B v s) : ∀ {vs : List (Str × V)} {fs : List (Str × Sl)}, SlKs F B vs fs → SlKs F B (putF f v vs) (putS f s fs)
  | _, _, .nil => .cons ⟨rfl, o⟩ .nil
  | (g, x) :: vs, (g', y) :: fs, .cons ⟨h1, h2⟩ t => by
    cases h1
    unfold putF putS
    by_cases e : g = f
    · rw [if_pos e, if_pos e]; exact .cons ⟨rfl, o⟩ t
    · rw [if_neg e, if_neg e]; exact .cons ⟨rfl, h2⟩ (slks_put o t)
theorem w_fld {f : Str} (h : W K ta ρ M fun s M1 => ∃ a C dx fs x, s = .raw (.ref a) ∧ M1 a = some (.ins C dx fs) ∧ Cls K.K C ∧ NoAttr K.K C f ∧ fs.lookup f = some x ∧ Q x M1) : W K (tFld K.K ta f) ρ M Q := fun σ B H hR hS Q0 k =>
  h σ B H hR hS _ fun s v M1 B1 H1 ⟨a, C, dx, fs, x, es, hM, c, n, l, q⟩ e1 S1 o1 => by
    subst es
    have ev : v = .ref a := o1
    subst ev
    obtain ⟨_, u, hu, vs, rfl, hv⟩ := S1.has a _ hM
    obtain ⟨y, hy, oy⟩ := slks_get hv l
    exact ⟨a, C, dx, vs, y, rfl, hu, c, n, hy, k x y M1 B1 H1 q e1 S1 oy⟩
theorem ws_fld {f : Str} (h : W K te ρ M fun s M1 => W K ta ρ M1 fun o M2 => ∃ a C dx fs, o = .raw (.ref a) ∧ M2 a = some (.ins C dx fs) ∧ Cls K.K C ∧ NoAttr K.K C f ∧ fs.length < 1000 ∧ nx ρ (um M2 a (.ins C dx (putS f s fs)))) : WS K (sFld K.K ta te f) ρ M ⟨nx, rt, bk, ct⟩ := fun σ B H D hR hS p1 p2 p3 p4 =>
  h σ B H hR hS _ fun s v M1 B1 H1 h1 e1 S1 o1 => h1 σ B1 H1 (hR.mono e1) S1 _ fun o w M2 B2 H2 ⟨a, C, dx, fs, eo, hM, c, n, hl, q⟩ e2 S2 o2 => by
    subst eo
    have ev : w = .ref a := o2
    subst ev
    obtain ⟨_, u, hu, vs, rfl, hv⟩ := S2.has a _ hM
    refine ⟨a, C, dx, vs, rfl, hu, c, n, by rw [Paired.length hv]; exact hl, ?_⟩
    exact p1 ρ _ σ B2 _ q (e1.trans e2) (hR.mono (e1.trans e2)) (S2.put hM ⟨_, rfl, slks_put (o1.mono e2) hv⟩)
theorem w_meth {C : Addr} {m : Str} {A : ASp} {E : XK} {t : TA} (h : W K ta ρ M fun s M1 => ∃ a dx fs, s = .raw (.ref a) ∧ M1 a = some (.ins C dx fs) ∧ fs.lookup m = none ∧ WA K t ρ M1 fun ss M2 => A (.raw (.ref a) :: ss) M2 Q) : W K (tMeth C m (conc K.K A) [] E ta t) ρ M Q := fun σ B H hR hS Q0 k =>
  h σ B H hR hS _ fun s v M1 B1 H1 ⟨a, dx, fs, es, hM, l, h1⟩ e1 S1 o1 => by
    subst es
    have ev : v = .ref a := o1
    subst ev
    obtain ⟨_, u, hu, vs, rfl, hv⟩ := S1.has a _ hM
    refine ⟨a, dx, vs, rfl, hu, slks_none hv l, ?_⟩
    exact h1 σ B1 H1 (hR.mono e1) S1 _ fun ss ws M2 B2 H2 q e2 S2 o2 => ⟨B2, M2, _, Q, S2, by rw [List.append_nil]; exact .cons rfl o2, q, fun s v M3 B3 H3 q3 e3 S3 o3 => k s v M3 B3 H3 q3 ((e1.trans e2).trans e3) S3 o3⟩
theorem w_methX {C : Addr} {m : Str} {A : ASpX} {t : TA} (h : W K ta ρ M fun s M1 => ∃ a dx fs, s = .raw (.ref a) ∧ M1 a = some (.ins C dx fs) ∧ fs.lookup m = none ∧ WA K t ρ M1 fun ss M2 => A (.raw (.ref a) :: ss) M2 Q fun C d M3 => K.X C d ρ M3) : W K (tMethD C m (concX K.K A) [] (WE K.W) ta t) ρ M Q := fun σ B H hR hS Q0 k =>
  h σ B H hR hS _ fun s v M1 B1 H1 ⟨a, dx, fs, es, hM, l, h1⟩ e1 S1 o1 => by
    subst es
    have ev : v = .ref a := o1
    subst ev
    obtain ⟨_, u, hu, vs, rfl, hv⟩ := S1.has a _ hM
    refine ⟨a, dx, vs, rfl, hu, slks_none hv l, ?_⟩
    exact h1 σ B1 H1 (hR.mono e1) S1 _ fun ss ws M2 B2 H2 q e2 S2 o2 => conc_x S2 (by rw [List.append_nil]; exact .cons rfl o2) q (fun s v M3 B3 H3 q3 e3 S3 o3 => k s v M3 B3 H3 q3 ((e1.trans e2).trans e3) S3 o3)
      (fun C d M3 B3 H3 x e3 S3 => hR.x C d ρ M3 σ B3 H3 x ((e1.trans e2).trans e3) (hR.r.mono ((e1.trans e2).trans e3)) S3)
/-- a new instance -/
theorem sep_make {F : PySem.W.Frag} {B H : Hp} {M : MH} {x dx C : Addr} (S : Sep F B M H) (h1 : H x = none) (h2 : H dx = none) (hne : dx ≠ x) : Sep F (upd B dx (.own x)) (um M x (.ins C dx [])) (upd (upd H dx (.own x)) x (.ins C dx [])) :=
  (S.alloc h2).new (by rw [upd_ne hne.symm]; exact h1) ⟨[], rfl, .nil⟩
theorem w_make {C : Addr} {A : ASp} {E : XK} {t : TA} (h : WA K t ρ M fun ss M1 => ∀ x dx, M1 x = none → A (.raw (.ref x) :: ss) (um M1 x (.ins C dx [])) fun s M2 => s = .non ∧ Q (.raw (.ref x)) M2) : W K (tMake C (conc K.K A) [] E t) ρ M Q := fun σ B H hR hS Q0 k =>
  h σ B H hR hS _ fun ss vs M1 B1 H1 q e1 S1 o1 x dx hx hdx hne =>
    have e2 : Same B1 (upd B1 dx (.own x)) := same_new (S1.freeB hdx)
    ⟨_, _, _, _, sep_make S1 hx hdx hne, by rw [List.append_nil]; exact .cons rfl (o1.mono e2), q x dx (S1.freeM hx), fun s v M2 B2 H2 ⟨es, q2⟩ e3 S2 o2 => by
      subst es
      exact ⟨of_non o2, k _ _ M2 B2 H2 q2 ((e1.trans e2).trans e3) S2 slok_ref⟩⟩
theorem ws_raise {C : Value} (h : K.X C none ρ M) : WS K (fun _ σ H => K.W C none σ H) ρ M P := fun σ B H D hR hS _ _ _ _ => hR.x C none ρ M σ B H h (Same.refl B) hR.r hS
theorem ws_tryOnly {c : Value} {tb : WX → TS} {ts : Addr → Value → Option Addr → TS} (X : Value → Option Addr → Rho → MH → Prop) (hb : ∀ W, WS ⟨K.K, W, X⟩ (tb W) ρ M ⟨nx, rt, bk, ct⟩)
    (hx : ∀ C d ρ' M', X C d ρ' M' → ∃ b, PySem.W.exmOne K.K C c = some b ∧ (b = true → ∀ a, WS K (ts a C d) ρ' M' ⟨nx, rt, bk, ct⟩) ∧ (b = false → K.X C d ρ' M')) :
    WS K (fun D σ H => tb (wOnly K.K c ts K.W D) D σ H) ρ M ⟨nx, rt, bk, ct⟩ := fun σ B H D hR hS p1 p2 p3 p4 => by
  refine hb _ σ B H D ⟨hR.r, fun C d ρ' M' σ' B' H' x e r S => ?_⟩ hS (fun ρ2 M2 σ2 B2 H2 q e2 R2 S2 => p1 ρ2 M2 σ2 B2 H2 q e2 ⟨R2.r, (hR.mono e2).x⟩ S2) p2 (fun ρ2 M2 σ2 B2 H2 q e2 R2 S2 => p3 ρ2 M2 σ2 B2 H2 q e2 ⟨R2.r, (hR.mono e2).x⟩ S2) (fun ρ2 M2 σ2 B2 H2 q e2 R2 S2 => p4 ρ2 M2 σ2 B2 H2 q e2 ⟨R2.r, (hR.mono e2).x⟩ S2)
  obtain ⟨b, h1, h2, h3⟩ := hx C d ρ' M' x
  refine ⟨b, h1, fun e1 a _ => ?_, fun e1 => hR.x C d ρ' M' σ' B' H' (h3 e1) e r S⟩
  exact h2 e1 a σ' B' H' D ⟨r, (hR.mono e).x⟩ S (fun ρ2 M2 σ2 B2 H2 q e2 => p1 ρ2 M2 σ2 B2 H2 q (e.trans e2)) (fun s v M2 B2 H2 q e2 => p2 s v M2 B2 H2 q (e.trans e2)) (fun ρ2 M2 σ2 B2 H2 q e2 => p3 ρ2 M2 σ2 B2 H2 q (e.trans e2)) (fun ρ2 M2 σ2 B2 H2 q e2 => p4 ρ2 M2 σ2 B2 H2 q (e.trans e2))
end
theorem ab_okX {K : PySem.W.Frag} {P : Program} {w : World} {mg : Str → Option Value} {base : Heap} {x qual : Str} {st : Stmt} {f : Addr} {fd : FuncData} {N ps : List Str} {k : Nat} {A : ASpX} (F : Fun K x qual st f fd) (S : FnScope N ps (defScope st))
    (hlen : ∀ ss M Q X, A ss M Q X → ss.length = ps.length)
    (hb : ∀ (cdv : Value) (Ar : Around) (outer : List Env) (s : Shared) (H : Hp) (E : XK), Room k (Ar.deeper (envOfC qual (defScope st) s.heap.objs.size f cdv)) →
      ∃ t, PSs (cxOf (L2.CX P w) P w K mg base N qual (defScope st) f cdv Ar outer s H E) (defBody st) t ∧
        ∀ ss M Q X, A ss M Q X → WS ⟨K, fun cls d _ H => E cls d H, fun C d _ M' => X C d M'⟩ t (rho0 N.length ss) M ⟨fun _ M' => Q .non M', Q, NoR, NoR⟩) :
    FnOk P w K mg base (L2.CX P w) (k + 1) f fd ps (concX K A) := by
  refine F.okX S (fun vs H Q E h => ?_) (fun cdv Ar outer s H vs Q E hr h => ?_)
  · obtain ⟨B, M, ss, QA, XA, hS, hv, ha, _⟩ := h
    rw [SlAll.len hv]
    exact hlen ss M QA XA ha
  · obtain ⟨B, M, ss, QA, XA, hS, hv, ha, hq, hxx⟩ := h
    obtain ⟨t, ht, hw⟩ := hb cdv Ar outer s H E hr
    refine ⟨t, ht, ?_⟩
    have hR : Rl0 K B (L2.start N vs) (rho0 N.length ss) := by
      unfold L2.start rho0
      rw [SlAll.len hv]
      exact rl_start _ hv
    exact hw ss M QA XA ha (L2.start N vs) B H ⟨fun _ H' => Q .non H', Q, _, _⟩ ⟨hR, fun C d _ M' _ B' H' q e _ S' => hxx C d M' B' H' q e S'⟩ hS (fun ρ' M' σ' B' H' q e _ S' => hq .non .non M' B' H' q e S' slok_non) (fun s v M' B' H' q e S' o => hq s v M' B' H' q e S' o) (fun _ _ _ _ _ z => z.elim) (fun _ _ _ _ _ z => z.elim)
end Ab
set_option Elab.async false
set_option linter.all false
set_option maxRecDepth 1000000
set_option  maxHeartbeats 4000000
namespace Ab
open PySem PySem.Spec PyProof.Rows L2
section
variable {κ β γ : Type} [DecidableEq κ]
def valG (kvs : List (κ × β)) (k : κ) : Option β := (kvs.find? fun kv => decide (kv.1 = k)).map (·.2)
def putG (kvs : List (κ × β)) (k : κ) (v : β) : List (κ × β) := if (kvs.any fun kv => decide (kv.1 = k)) = true then kvs.map (fun kv => if kv.1 = k then (kv.1, v) else kv) else kvs ++ [(k, v)]
def mergeG (kvs more : List (κ × β)) : List (κ × β) := more.foldl (fun acc kv => putG acc kv.1 kv.2) kvs
theorem valG_cons (k g : κ) (v : β) (r : List (κ × β)) : valG ((g, v) :: r) k = if g = k then some v else valG r k := by
  unfold valG
  rw [List.find?_cons]
  by_cases e : g = k <;> simp [e]
theorem valG_put (kvs : List (κ × β)) (k g : κ) (v : β) : valG (putG kvs k v) g = if k = g then some v else valG kvs g := by
  have key : ∀ l : List (κ × β), valG (l.map fun kv => if kv.1 = k then (kv.1, v) else kv) g = if k = g ∧ (l.any fun kv => decide (kv.1 = k)) = true then some v else valG l g := by
    intro l
    induction l with
    | nil => simp [valG]
    | cons p r ih =>
      obtain ⟨a, x⟩ := p
      rw [List.map_cons]
      by_cases e : a = k
      · subst e
        rw [if_pos rfl, valG_cons, ih, valG_cons]
        by_cases e2 : a = g <;> simp [e2]
      · rw [if_neg e, valG_cons, ih, valG_cons]
        by_cases e2 : a = g
        · subst e2
          have : ¬ k = a := fun q => e q.symm
          simp [this]
        · have ek : decide (a = k) = false := decide_eq_false e
          rw [List.any_cons, ek, Bool.false_or, if_neg e2, if_neg e2]
  have app : ∀ l : List (κ × β), (l.any fun kv => decide (kv.1 = k)) = false → valG (l ++ [(k, v)]) g = if k = g then some v else valG l g := by
    intro l
    induction l with
    | nil => intro _; rw [List.nil_append, valG_cons]
    | cons p r ih =>
      obtain ⟨a, x⟩ := p
      intro h
      rw [List.any_cons, Bool.or_eq_false_iff] at h
      have e : ¬ a = k := of_decide_eq_false h.1
      rw [List.cons_append, valG_cons, ih h.2, valG_cons]
      by_cases e2 : a = g
      · subst e2
        have : ¬ k = a := fun q => e q.symm
        simp [this]
      · simp [e2]
  unfold putG
  cases h : kvs.any fun kv => decide (kv.1 = k) with
  | true => rw [if_pos rfl, key, h]; simp
  | false => rw [if_neg Bool.false_ne_true, app kvs h]
end
section
variable {F : PySem.W.Frag} {B : Hp}
theorem slks_any {k : Key} : ∀ {vs : List (Key × V)} {kvs : List (Key × Sl)}, SlKs F B vs kvs → (vs.any fun kv => decide (kv.1 = k)) = kvs.any fun kv => decide (kv.1 = k)
  | _, _, .nil => rfl
  | _, _, .cons ⟨h, _⟩ t => by rw [List.any_cons, List.any_cons, slks_any t, h]
theorem slks_val {k : Key} : ∀ {vs : List (Key × V)} {kvs : List (Key × Sl)}, SlKs F B vs kvs → (∀ s, valG kvs k = some s → ∃ v, valV vs k = some v ∧ SlOk F B v s) ∧ (valG kvs k = none → valV vs k = none)
  | _, _, .nil => ⟨fun _ e => (nomatch e), fun _ => rfl⟩
  | (g, v) :: vs, (g', s') :: kvs, .cons ⟨h1, h2⟩ t => by
    cases h1
    obtain ⟨i1, i2⟩ := slks_val (k := k) t
    rw [valG_cons]
    by_cases e : g = k
    · rw [if_pos e, valV_pos e]
      exact ⟨fun s q => (by cases q; exact ⟨v, rfl, h2⟩), fun q => nomatch q⟩
    · rw [if_neg e, valV_neg e]
      exact ⟨i1, i2⟩
theorem slks_app {κ : Type} : ∀ {vs ws : List (κ × V)} {kvs lws : List (κ × Sl)}, SlKs F B vs kvs → SlKs F B ws lws → SlKs F B (vs ++ ws) (kvs ++ lws)
  | _, _, _, _, .nil, h => h
  | _, _, _, _, .cons h t, h' => .cons h (slks_app t h')
theorem slks_in {k : Key} {v : V} {s : Sl} (o : SlOk F B v s) : ∀ {vs : List (Key × V)} {kvs : List (Key × Sl)}, SlKs F B vs kvs → SlKs F B (vs.map fun kv => if kv.1 = k then (kv.1, v) else kv) (kvs.map fun kv => if kv.1 = k then (kv.1, s) else kv)
  | _, _, .nil => .nil
  | (g, x) :: vs, (g', y) :: kvs, .cons ⟨h1, h2⟩ t => by
    cases h1
    rw [List.map_cons, List.map_cons]
    refine .cons ?_ (slks_in o t)
    by_cases e : g = k
    · rw [if_pos e, if_pos e]; exact ⟨rfl, o⟩
    · rw [if_neg e, if_neg e]; exact ⟨rfl, h2⟩
theorem slks_putK {k : Key} {v : V} {s : Sl} (o : SlOk F B v s) {vs : List (Key × V)} {kvs : List (Key × Sl)} (h : SlKs F B vs kvs) : SlKs F B (putK vs k v) (putG kvs k s) := by
  unfold putK putG
  rw [slks_any h]
  split
  · exact slks_in o h
  · exact slks_app h (.cons ⟨rfl, o⟩ .nil)
end
def kS : Key → Sl
  | .inl i => .int i
  | .inr x => .str x
theorem of_kS {F : PySem.W.Frag} {B : Hp} {v : V} : ∀ {k : Key}, SlOk F B v (kS k) → v = kV k
  | .inl _, h => of_int h
  | .inr _, h => of_str h
def dicS (F : PySem.W.Frag) (kvs : List (Key × Sl)) : Sl := .abs (fun B v => ∃ a vs, v = .ref a ∧ Rd B a (.dK vs) ∧ SlKs F B vs kvs) fun _ _ _ e ⟨a, vs, h1, h2, h3⟩ => ⟨a, vs, h1, same_rd e h2, Paired.mapP h3 fun _ _ q => ⟨q.1, q.2.mono e⟩⟩
/-- a dict: one that changes, one that is walked, one that nobody changes -/
def DcV (F : PySem.W.Frag) (s : Sl) (M : MH) (kvs : List (Key × Sl)) : Prop := (∃ a, s = .raw (.ref a) ∧ (M a = some (.dK kvs) ∨ ∃ ob v, M a = some (.frz ob v (.dK kvs)))) ∨ s = dicS F kvs
theorem dcv_ref {F : PySem.W.Frag} {a : Addr} {M : MH} {kvs : List (Key × Sl)} (h : M a = some (.dK kvs)) : DcV F (.raw (.ref a)) M kvs := .inl ⟨a, rfl, .inl h⟩
theorem dcv_frz {F : PySem.W.Frag} {a : Addr} {ob : Obj} {v : HO} {M : MH} {kvs : List (Key × Sl)} (h : M a = some (.frz ob v (.dK kvs))) : DcV F (.raw (.ref a)) M kvs := .inl ⟨a, rfl, .inr ⟨ob, v, h⟩⟩
theorem DcV.get {F : PySem.W.Frag} {s : Sl} {M : MH} {kvs : List (Key × Sl)} {B H : Hp} {v : V} (h : DcV F s M kvs) (S : Sep F B M H) (o : SlOk F B v s) : ∃ a vs, v = .ref a ∧ Rd H a (.dK vs) ∧ SlKs F B vs kvs := by
  rcases h with ⟨a, rfl, h | ⟨ob, w, h⟩⟩ | rfl
  · obtain ⟨_, u, hu, vs, rfl, hv⟩ := S.has a _ h
    exact ⟨a, vs, o, .inl hu, hv⟩
  · obtain ⟨_, u, hu, rfl, vs, rfl, hv⟩ := S.has a _ h
    exact ⟨a, vs, o, .inr ⟨ob, hu⟩, hv⟩
  · obtain ⟨a, vs, e, h1, h2⟩ := (show ∃ a vs, v = .ref a ∧ Rd B a (.dK vs) ∧ SlKs F B vs kvs from o)
    exact ⟨a, vs, e, same_rd S.sub h1, h2⟩
section
variable {K : KX} {ρ : Rho} {M : MH} {Q Q' : Sl → MH → Prop} {ta tb te tc td ty tx tv : TE} {P : AE} {nx bk ct : Rho → MH → Prop} {rt : Sl → MH → Prop}
theorem isD_of {H : Hp} {a : Addr} {vs : List (Key × V)} (h : Rd H a (.dK vs)) : IsD H a := .inl ⟨vs, h⟩
theorem w_dnew (q : ∀ p, M p = none → Q (.raw (.ref p)) (um M p (.dK []))) : W K tDNewK ρ M Q := fun σ B H hR hS Q0 k p hp => k _ _ _ B _ (q p (hS.freeM hp)) (Same.refl B) (hS.new hp ⟨[], rfl, .nil⟩) slok_ref
/-- d[k] -/
theorem w_dget (h : W K td ρ M fun s M1 => W K ty ρ M1 fun y M2 => ∃ kvs k x, DcV K.K s M2 kvs ∧ y = kS k ∧ valG kvs k = some x ∧ Q x M2) : W K (tDGet td ty) ρ M Q := fun σ B H hR hS Q0 q0 =>
  h σ B H hR hS _ fun s v M1 B1 H1 h1 e1 S1 o1 => h1 σ B1 H1 (hR.mono e1) S1 _ fun y w M2 B2 H2 ⟨kvs, k, x, hd, ey, hv, q⟩ e2 S2 o2 => by
    subst ey
    obtain ⟨a, vs, rfl, hr, hk⟩ := hd.get S2 (o1.mono e2)
    obtain ⟨z, hz, oz⟩ := (slks_val hk).1 _ hv
    exact ⟨a, z, rfl, .inl ⟨vs, k, hr, of_kS o2, hz.symm⟩, q0 x z M2 B2 H2 q (e1.trans e2) S2 oz⟩
/-- d.get(k, x) -/
theorem w_dget2 (h : W K td ρ M fun s M1 => (∃ kvs, DcV K.K s M1 kvs) ∧ W K ty ρ M1 fun y M2 => W K tx ρ M2 fun z M3 => ∃ kvs k, DcV K.K s M3 kvs ∧ y = kS k ∧ Q ((valG kvs k).getD z) M3) : W K (tDGet2 td ty tx) ρ M Q := fun σ B H hR hS Q0 q0 =>
  h σ B H hR hS _ fun s v M1 B1 H1 ⟨⟨kvs0, hd0⟩, h1⟩ e1 S1 o1 => by
    obtain ⟨a, vs0, rfl, hr0, _⟩ := hd0.get S1 o1
    refine ⟨a, rfl, isD_of hr0, h1 σ B1 H1 (hR.mono e1) S1 _ fun y w M2 B2 H2 h2 e2 S2 o2 => h2 σ B2 H2 (hR.mono (e1.trans e2)) S2 _ fun z u M3 B3 H3 ⟨kvs, k, hd, ey, q⟩ e3 S3 o3 => ?_⟩
    subst ey
    obtain ⟨a', vs, ea, hr, hk⟩ := hd.get S3 (o1.mono (e2.trans e3))
    cases ea
    refine ⟨valV vs k, .inl ⟨vs, k, hr, of_kS (o2.mono e3), rfl⟩, ?_⟩
    obtain ⟨i1, i2⟩ := slks_val (k := k) hk
    cases hv : valG kvs k with
    | none => rw [hv] at q; rw [i2 hv]; exact q0 z u M3 B3 H3 q ((e1.trans e2).trans e3) S3 o3
    | some s => rw [hv] at q; obtain ⟨t, ht, ot⟩ := i1 s hv; rw [ht]; exact q0 s t M3 B3 H3 q ((e1.trans e2).trans e3) S3 ot
/-- d[k] = v -/
theorem ws_dput (h : W K tv ρ M fun s M1 => W K td ρ M1 fun o M2 => W K ty ρ M2 fun y M3 => ∃ a kvs k, o = .raw (.ref a) ∧ y = kS k ∧ M3 a = some (.dK kvs) ∧ kvs.length < 1000000 ∧ nx ρ (um M3 a (.dK (putG kvs k s)))) : WS K (sDPut td ty tv) ρ M ⟨nx, rt, bk, ct⟩ := fun σ B H D hR hS p1 p2 p3 p4 =>
  h σ B H hR hS _ fun s v M1 B1 H1 h1 e1 S1 o1 => h1 σ B1 H1 (hR.mono e1) S1 _ fun o w M2 B2 H2 h2 e2 S2 o2 => h2 σ B2 H2 (hR.mono (e1.trans e2)) S2 _ fun y u M3 B3 H3 ⟨a, kvs, k, eo, ey, hM, hl, q⟩ e3 S3 o3 => by
    subst eo ey
    have ew : w = .ref a := o2
    subst ew
    obtain ⟨_, t, ht, vs, rfl, hv⟩ := S3.has a _ hM
    refine ⟨a, _, rfl, .inl ⟨vs, k, ht, of_kS o3, by rw [Paired.length hv]; exact Nat.lt_of_lt_of_le hl (show 1000000 ≤ sizeLine by decide), rfl⟩, ?_⟩
    exact p1 ρ _ σ B3 _ q ((e1.trans e2).trans e3) (hR.mono ((e1.trans e2).trans e3)) (S3.put hM ⟨_, rfl, slks_putK (o1.mono (e2.trans e3)) hv⟩)
/-- d.setdefault(k, x) -/
theorem w_dsetd (h : W K td ρ M fun s M1 => ∃ a, s = .raw (.ref a) ∧ (∃ kvs, M1 a = some (.dK kvs)) ∧ W K ty ρ M1 fun y M2 => W K tx ρ M2 fun z M3 => ∃ kvs k, M3 a = some (.dK kvs) ∧ y = kS k ∧ kvs.length < 1000000 ∧
    (∀ x, valG kvs k = some x → Q x M3) ∧ (valG kvs k = none → Q z (um M3 a (.dK (putG kvs k z))))) : W K (tDSetd td ty tx) ρ M Q := fun σ B H hR hS Q0 q0 =>
  h σ B H hR hS _ fun s v M1 B1 H1 ⟨a, es, ⟨kvs0, hM0⟩, h1⟩ e1 S1 o1 => by
    subst es
    have ev : v = .ref a := o1
    subst ev
    obtain ⟨_, t0, ht0, vs0, rfl, _⟩ := S1.has a _ hM0
    refine ⟨a, rfl, isD_of (.inl ht0), h1 σ B1 H1 (hR.mono e1) S1 _ fun y w M2 B2 H2 h2 e2 S2 o2 => h2 σ B2 H2 (hR.mono (e1.trans e2)) S2 _ fun z u M3 B3 H3 ⟨kvs, k, hM, ey, hl, q1, q2⟩ e3 S3 o3 => ?_⟩
    subst ey
    obtain ⟨_, t, ht, vs, rfl, hv⟩ := S3.has a _ hM
    obtain ⟨i1, i2⟩ := slks_val (k := k) hv
    have e13 := (e1.trans e2).trans e3
    refine ⟨vs, k, ht, of_kS (o2.mono e3), by rw [Paired.length hv]; exact Nat.lt_of_lt_of_le hl (show 1000000 ≤ sizeLine by decide), fun x hx => ?_, fun hn => ?_⟩
    · cases hg : valG kvs k with
      | none => rw [i2 hg] at hx; cases hx
      | some s =>
        obtain ⟨x', hx', ox⟩ := i1 s hg
        rw [hx] at hx'
        cases hx'
        exact q0 s x M3 B3 H3 (q1 s hg) e13 S3 ox
    · cases hg : valG kvs k with
      | none => exact q0 z u _ B3 _ (q2 hg) e13 (S3.put hM ⟨_, rfl, slks_putK o3 hv⟩) o3
      | some s => obtain ⟨x', hx', _⟩ := i1 s hg; rw [hn] at hx'; cases hx'
end
end Ab
set_option Elab.async false
set_option linter.all false
set_option maxRecDepth 1000000
set_option  maxHeartbeats 4000000
namespace L2
open PySem PySem.Spec PyProof.Rows
end L2
namespace Ab
open PySem PySem.Spec PyProof.Rows L2
/-- a tuple of anything that nobody changes -/
def tupS (F : PySem.W.Frag) (xs : List Sl) : Sl := .abs (fun B v => ∃ a vs, v = .ref a ∧ SqT F B a vs ∧ SlAll F B vs xs) fun _ _ _ e ⟨a, vs, h1, h2, h3⟩ => ⟨a, vs, h1, same_t e h2, h3.mono e⟩
section
variable {K : KX} {ρ : Rho} {M : MH} {Q Q' : Sl → MH → Prop} {ta tb te tc td ty tx tv : TE} {P : AE} {nx bk ct : Rho → MH → Prop} {rt : Sl → MH → Prop}
/-- o.f += e -/
theorem ws_fldaug {rd : V → V → Hp → VK → Prop} {g : Int → Int → Int} {f : Str} (hrd : ∀ (i j : Int) H (Q : VK), Q (.int (g i j)) H → rd (.int i) (.int j) H Q) (h : W K ta ρ M fun o M1 => ∃ a C dx fs i, o = .raw (.ref a) ∧ M1 a = some (.ins C dx fs) ∧ Cls K.K C ∧ NoAttr K.K C f ∧ fs.lookup f = some (.int i) ∧ W K tv ρ M1 fun s M3 => ∃ j, s = .int j ∧ M3 a = some (.ins C dx fs) ∧ fs.length < 1000 ∧ nx ρ (um M3 a (.ins C dx (putS f (.int (g i j)) fs)))) :
    WS K (sFldAug K.K ta tv rd f) ρ M ⟨nx, rt, bk, ct⟩ := fun σ B H D hR hS p1 p2 p3 p4 =>
  h σ B H hR hS _ fun o v M1 B1 H1 ⟨a, C, dx, fs, i, eo, hM, c, n, hl, h1⟩ e1 S1 o1 => by
    subst eo
    have ev : v = .ref a := o1
    subst ev
    obtain ⟨_, t, ht, vs, rfl, hv⟩ := S1.has a _ hM
    obtain ⟨z, hz, oz⟩ := slks_get hv hl
    have ez := of_int oz
    subst ez
    refine ⟨a, C, dx, vs, _, rfl, ht, c, n, hz, h1 σ B1 H1 (hR.mono e1) S1 _ fun s u M3 B3 H3 ⟨j, es, hM3, hl3, q⟩ e3 S3 o3 => ?_⟩
    subst es
    obtain ⟨_, t3, ht3, vs3, rfl, hv3⟩ := S3.has a _ hM3
    have eu := of_int o3
    subst eu
    refine hrd i j H3 _ ⟨dx, vs3, ht3, by rw [Paired.length hv3]; exact hl3, ?_⟩
    exact p1 ρ _ σ B3 _ q (e1.trans e3) (hR.mono (e1.trans e3)) (S3.put hM3 ⟨_, rfl, slks_put slok_int hv3⟩)
theorem rd_add (i j : Int) (H : Hp) (Q : VK) (q : Q (.int (i + j)) H) : rAdd (.int i) (.int j) H Q := ⟨i, j, rfl, rfl, q⟩
/-- what the target makes of an item, the comprehension's own slots being vs -/
def LcT (F : PySem.W.Frag) (g : TG) (vs : List Nat) (s : Sl) (f : Rho → Rho) : Prop :=
  ∀ B H v σ ρ M, Sep F B M H → SlOk F B v s → Rl0 F B σ ρ → ∀ Q0 : L2.St → Hp → Prop, (∀ σ2, wipe σ2 vs = wipe σ vs → Rl0 F B σ2 (f ρ) → Q0 σ2 H) → g v σ H Q0
theorem lct_name {F : PySem.W.Frag} {j : Nat} {vs : List Nat} {s : Sl} (hj : j ∈ vs) : LcT F (gName j) vs s (fun ρ => ρ.set j (some s)) := fun B H v σ ρ M S o r Q0 k => k _ (wipe_set _ _ _ _ hj) (r.put o j)
/-- a list that was just made will not be changed any more -/
theorem w_frz (h : W K te ρ M fun s M1 => ∃ a ds, s = .raw (.ref a) ∧ M1 a = some (.lst (ds.map .dat)) ∧ Q (.dat (.list ds)) (del M1 a)) : W K te ρ M Q := fun σ B H hR hS Q0 k =>
  h σ B H hR hS _ fun s v M1 B1 H1 ⟨a, ds, es, hM, q⟩ e1 S1 o1 => by
    subst es
    have ev : v = .ref a := o1
    subst ev
    obtain ⟨hB, u, hu, vs, rfl, ha⟩ := S1.has a _ hM
    exact k _ _ _ _ H1 q (e1.trans (same_new hB)) (S1.freeze hM hu) (lst_ok (dpa_of ha) hB)
end
end Ab
set_option Elab.async false
set_option linter.all false
set_option maxRecDepth 1000000
set_option  maxHeartbeats 4000000
namespace L2
open PySem PySem.Spec PyProof.Rows
/-- isinstance(e, C) in a suite: the reading tells what class the caught one has -/
theorem pe_isE {X : Cx} {a : Addr} {oe : Obj} {pn : List (Addr × Obj)} {cls : Value} {dd : Option Addr} {p pos : Pos} {e : Expr} {es : List Expr} {t : TA} (hz : Zc cls dd oe) (hf : ∃ vs, oe.data = .fields vs) (hg : Gl (X.suite a ((a, oe) :: pn)) "isinstance") (hm : (X.suite a ((a, oe) :: pn)).mg "isinstance" = none)
    (ha : PA (X.suite a ((a, oe) :: pn)) (e :: es) t) (h1 : starEach (e :: es) (X.suite a ((a, oe) :: pn)).env = (false, eval e (X.suite a ((a, oe) :: pn)).env) :: starEach es (X.suite a ((a, oe) :: pn)).env := by rfl) (h2 : (backTo pos (starEach es (X.suite a ((a, oe) :: pn)).env)).any (·.1) = false := by rfl) :
    PE (X.suite a ((a, oe) :: pn)) (.Call (.Name "isinstance" p) (e :: es) [] pos) (fun σ H Q => ∃ D, cls = .ref D ∧ dd = none ∧ ExcC X.K D ∧ tCB (rIsE X.K D a) t σ H Q) :=
  ⟨fun pins s σ H Q I ⟨D, e1, e2, hC, h⟩ => by
    subst e1 e2
    exact (pe_callB (call_isE hC hz hf) hg hm (by decide +kernel) ha (he := h1) (hpl := h2)).run pins s σ H Q I h⟩
/-- try .. except, the body's reading kept apart -/
def tTryAs (K : PySem.W.Frag) (c : Value) (i : Nat) (ts : Addr → Value → Option Addr → TS) (Wout : WX) (tb : WX → TS) : TS := fun D σ H => tb (wAs K c i ts Wout D) D σ H
def tTryOnly (K : PySem.W.Frag) (c : Value) (ts : Addr → Value → Option Addr → TS) (Wout : WX) (tb : WX → TS) : TS := fun D σ H => tb (wOnly K c ts Wout D) D σ H
section
variable {X : Cx} {x n : Str} {c : Value} {i : Nat} {body suite : List Stmt} {b₀ : Stmt} {np pos pos' : Pos} {tb : WX → TS} {ts : Addr → Value → Option Addr → TS} {Wout : WX}
theorem ps_tryAs (hs : X.stack = X.env :: X.outer) (hf : X.env.frame = some X.env.locals) (hN : X.N.Nodup) (hi : X.N[i]? = some n) (hln : X.env.kindOf n = some .local) (hc : Names X x c) (tk : Takes X Wout)
    (hb : ∀ (W : WX) (pn : List (Addr × Obj)) (xe : Value → Shared → Prop), Takes (X.tr pn xe) W → PassesOwn (model X.prog X.w) X.A X.env xe → PSs (X.tr pn xe) body (tb W))
    (hu : ∀ (a : Addr) (oe : Obj) (cls : Value) (d : Option Addr) (pn : List (Addr × Obj)), Zc cls d oe → (∃ vs, oe.data = .fields vs) → PSs (X.suite a ((a, oe) :: pn)) (b₀ :: suite) (ts a cls d)) : PS X (.Try body [.ExceptHandler (some (.Name x np)) (some n) (b₀ :: suite) pos'] [] [] pos) (tTryAs X.K c i ts Wout tb) := ps_try_as hs hf hN hi hln hc tk hb hu
theorem ps_tryOnly (hs : X.stack = X.env :: X.outer) (hf : X.env.frame = some X.env.locals) (hc : Names X x c) (tk : Takes X Wout)
    (hb : ∀ (W : WX) (pn : List (Addr × Obj)) (xe : Value → Shared → Prop), Takes (X.tr pn xe) W → PassesOwn (model X.prog X.w) X.A X.env xe → PSs (X.tr pn xe) body (tb W))
    (hu : ∀ (a : Addr) (oe : Obj) (cls : Value) (d : Option Addr) (pn : List (Addr × Obj)), Zc cls d oe → (∃ vs, oe.data = .fields vs) → PSs (X.suite a ((a, oe) :: pn)) (b₀ :: suite) (ts a cls d)) : PS X (.Try body [.ExceptHandler (some (.Name x np)) none (b₀ :: suite) pos'] [] [] pos) (tTryOnly X.K c ts Wout tb) := ps_try_only hs hf hc tk hb hu
end
end L2
namespace Ab
open PySem PySem.Spec PyProof.Rows L2
section
variable {K : KX} {ρ : Rho} {M : MH} {Q Q' : Sl → MH → Prop} {ta tb te tc td ty tx tv : TE} {P : AE} {nx bk ct : Rho → MH → Prop} {rt : Sl → MH → Prop}
/-- x.f, x a name -/
theorem w_fldI {i : Nat} {f : Str} {a C dx : Addr} {fs : List (Str × Sl)} {x : Sl} (hv : ρ[i]? = some (some (.raw (.ref a)))) (hM : M a = some (.ins C dx fs)) (c : Cls K.K C) (n : NoAttr K.K C f) (l : fs.lookup f = some x) (q : Q x M) : W K (tFld K.K (tVar i) f) ρ M Q :=
  w_fld (w_var hv ⟨a, C, dx, fs, x, rfl, hM, c, n, l, q⟩)
/-- x.f = e, x a name -/
theorem ws_fldI {i : Nat} {f : Str} {a C : Addr} (hv : ρ[i]? = some (some (.raw (.ref a)))) (c : Cls K.K C) (n : NoAttr K.K C f) (h : W K te ρ M fun s M1 => ∃ dx fs, M1 a = some (.ins C dx fs) ∧ fs.length < 1000 ∧ nx ρ (um M1 a (.ins C dx (putS f s fs)))) : WS K (sFld K.K (tVar i) te f) ρ M ⟨nx, rt, bk, ct⟩ :=
  ws_fld (h.imp fun s M1 ⟨dx, fs, hM, hl, q⟩ => w_var hv ⟨a, C, dx, fs, rfl, hM, c, n, hl, q⟩)
theorem ws_tryAs {c : Value} {i : Nat} {tb : WX → TS} {ts : Addr → Value → Option Addr → TS} (X : Value → Option Addr → Rho → MH → Prop) (hb : ∀ W, WS ⟨K.K, W, X⟩ (tb W) ρ M ⟨nx, rt, bk, ct⟩)
    (hx : ∀ C d ρ' M', X C d ρ' M' → ∃ b, PySem.W.exmOne K.K C c = some b ∧ (b = true → ∀ a, WS K (ts a C d) (ρ'.set i (some (.raw (.ref a)))) M' ⟨fun ρ2 M2 => nx (ρ2.set i none) M2, rt, fun ρ2 M2 => bk (ρ2.set i none) M2, fun ρ2 M2 => ct (ρ2.set i none) M2⟩) ∧ (b = false → K.X C d ρ' M')) :
    WS K (tTryAs K.K c i ts K.W tb) ρ M ⟨nx, rt, bk, ct⟩ := fun σ B H D hR hS p1 p2 p3 p4 => by
  refine hb _ σ B H D ⟨hR.r, fun C d ρ' M' σ' B' H' x e r S => ?_⟩ hS (fun ρ2 M2 σ2 B2 H2 q e2 R2 S2 => p1 ρ2 M2 σ2 B2 H2 q e2 ⟨R2.r, (hR.mono e2).x⟩ S2) p2 (fun ρ2 M2 σ2 B2 H2 q e2 R2 S2 => p3 ρ2 M2 σ2 B2 H2 q e2 ⟨R2.r, (hR.mono e2).x⟩ S2) (fun ρ2 M2 σ2 B2 H2 q e2 R2 S2 => p4 ρ2 M2 σ2 B2 H2 q e2 ⟨R2.r, (hR.mono e2).x⟩ S2)
  obtain ⟨b, h1, h2, h3⟩ := hx C d ρ' M' x
  refine ⟨b, h1, fun e1 a _ => ?_, fun e1 => hR.x C d ρ' M' σ' B' H' (h3 e1) e r S⟩
  exact h2 e1 a _ B' H' _ (Rl.put slok_ref i ⟨r, (hR.mono e).x⟩) S (fun ρ2 M2 σ2 B2 H2 q e2 R2 S2 => p1 _ M2 _ B2 H2 q (e.trans e2) (R2.non i) S2) (fun s v M2 B2 H2 q e2 => p2 s v M2 B2 H2 q (e.trans e2)) (fun ρ2 M2 σ2 B2 H2 q e2 R2 S2 => p3 _ M2 _ B2 H2 q (e.trans e2) (R2.non i) S2) (fun ρ2 M2 σ2 B2 H2 q e2 R2 S2 => p4 _ M2 _ B2 H2 q (e.trans e2) (R2.non i) S2)
/-- isinstance(e, C) of a caught one -/
theorem w_isE {cls : Value} {dd : Option Addr} {D a : Addr} {t : TA} (e1 : cls = .ref D) (e2 : dd = none) (hC : ExcC K.K D) (h : WA K t ρ M fun ss M1 => ∃ (c : V) (cv : Value) (b : Bool), ss = [.raw (.ref a), .raw c] ∧ (∀ u, RelV c u → u = cv) ∧ PySem.W.kitOne K.K (.ref D) cv = some b ∧ Q (.bl b) M1) :
    W K (fun σ H Q => ∃ D, cls = .ref D ∧ dd = none ∧ ExcC K.K D ∧ tCB (rIsE K.K D a) t σ H Q) ρ M Q := fun σ B H hR hS Q0 k =>
  ⟨D, e1, e2, hC, h σ B H hR hS _ fun ss vs M1 B1 H1 ⟨c, cv, b, es, hc, hk, q⟩ e S o => by
    subst es
    cases o with
    | cons o1 o => cases o with
      | cons o2 o =>
        cases o
        have a1 : _ = V.ref a := o1
        have a2 : _ = c := o2
        subst a1 a2
        exact ⟨_, cv, b, rfl, hc, hk, k _ _ M1 B1 H1 q e S slok_bl⟩⟩
theorem ws_tryO {c : Value} {tb : WX → TS} {ts : Addr → Value → Option Addr → TS} (X : Value → Option Addr → Rho → MH → Prop) (hb : ∀ W, WS ⟨K.K, W, X⟩ (tb W) ρ M ⟨nx, rt, bk, ct⟩)
    (hx : ∀ C d ρ' M', X C d ρ' M' → ∃ b, PySem.W.exmOne K.K C c = some b ∧ (b = true → ∀ a, WS K (ts a C d) ρ' M' ⟨nx, rt, bk, ct⟩) ∧ (b = false → K.X C d ρ' M')) : WS K (tTryOnly K.K c ts K.W tb) ρ M ⟨nx, rt, bk, ct⟩ := ws_tryOnly X hb hx
/-- d["k"], d a name -/
theorem w_dgetI {i : Nat} {z : Str} {g : Addr} {kvs : List (Key × Sl)} {x : Sl} (hv : ρ[i]? = some (some (.raw (.ref g)))) (hM : M g = some (.dK kvs)) (hx : valG kvs (.inr z) = some x) (q : Q x M) : W K (tDGet (tVar i) (tC (.str z))) ρ M Q :=
  w_dget (w_var hv (w_str ⟨kvs, .inr z, x, dcv_ref hM, rfl, hx, q⟩))
end
end Ab
set_option Elab.async false
set_option linter.all false
set_option maxRecDepth 1000000
set_option  maxHeartbeats 4000000
namespace L2
open PySem PySem.Spec PyProof.Rows PyProof
/-- a tuple target, the module's part named -/
theorem pg_tupK {X : Cx} {K : PySem.W.Frag} {es : List Expr} {k : Nat} {t : TGs} {n : Nat} {pos : Pos} (hK : X.K = K) (hc : X.calm = true) (h : PGs X es t)
    (hn : (assignEach es X.env).length = n := by rfl) (hst : (assignEach es X.env).findIdx? (·.1) = none := by rfl) : PG X (.Tuple es k pos) (gTup K n t) := by
  subst hK
  exact pg_tup hc h hn hst
theorem kit_self {K : PySem.W.Frag} {c : Addr} : PySem.W.kitOne K (.ref c) (.ref c) = some true := by
  unfold PySem.W.kitOne
  rw [if_pos (beq_self_eq_true _)]
end L2
namespace Ab
open PySem PySem.Spec PyProof.Rows L2
variable {M : MH} {Q : Sl → MH → Prop}
theorem w2_isB {K : PySem.W.Frag} {a b : Bool} (q : Q (.bl (decide (a = b))) M) : W2 K rIsB (.bl a) (.bl b) M Q := fun B H v w hS o1 o2 Q0 k => ⟨a, b, of_bl o1, of_bl o2, k _ _ M B H q (Same.refl B) hS slok_bl⟩
theorem w2_notB {K : PySem.W.Frag} {a b : Bool} (q : Q (.bl (!decide (a = b))) M) : W2 K rNotB (.bl a) (.bl b) M Q := fun B H v w hS o1 o2 Q0 k => ⟨a, b, of_bl o1, of_bl o2, k _ _ M B H q (Same.refl B) hS slok_bl⟩
theorem hu1 {n : Nat} (h : n + 64 < cLine) : n + 1 < cLine := by omega
end Ab
set_option Elab.async false
set_option linter.all false
set_option maxRecDepth 1000000
set_option  maxHeartbeats 4000000
namespace L2
open PySem PySem.Spec PySem.Calls PyProof.Rows
section
variable {prog : Program} {w : World} {A : Around} {E : Value → Shared → Prop} {s : Shared} {a kS : Addr} {vs : List Value} {keys : Array Value} {e e1 : Nat} {P : PySem.Fin → Shared → Prop}
def freed (o : Obj) : Obj := { o with data := .freed }
theorem freed_none {h : Heap} {k : Addr} {o : Obj} (ho : h.get? k = some o) : (h.update k freed).get? k = none := by
  have h1 := ((Heap.get?_eq_some h k _).mp ho).1
  unfold Heap.get?
  rw [Heap.objs_update_self, h1]
  rfl
/-- behind the keys: nothing but the two lists changes -/
theorem srt_end {κ : PyProof.Rows.KeyKind} (nk : s.heap.get? kS = some (seqObj "list" keys e)) (na : s.heap.get? a = some (seqObj "list" #[] e1)) (hka : kS ≠ a) (S : PySem.W.SortsAt prog w A s κ keys.toList) (hsz : keys.size = vs.length) (hZ : vs.length ≤ sizeLine)
    (h : ∀ h' tk c, (∀ b o, b ≠ a → b ≠ kS → s.heap.get? b = some o → h'.get? b = some o) → h'.get? a = some (seqObj "list" (PySem.W.sortVals κ false keys.toList vs).toArray c) → P (.done (.ret .none)) { s with heap := h', toks := tk }) :
    wpAny (model prog w) A (ksk_end a false vs.toArray e1 (.ref kS) keys) P E s := by
  have gk := freed_none nk
  have go : ∀ b, b ≠ kS → (s.heap.update kS freed).get? b = s.heap.get? b := fun b hb => Heap.get?_update_ne _ _ _ _ hb
  have kp : PySem.W.KeepsBut a (s.heap.update kS freed) s.heap := fun b o _ q => by
    have hb : b ≠ kS := fun z => by rw [z, gk] at q; cases q
    rw [← go b hb]
    exact q
  exact PySem.W.keyH_end (κ := κ) kp gk nk na hka S hsz hZ fun h' tk c k' hD => h h' tk c (fun b o n1 n2 q => k' b o n1 (by rw [go b n2]; exact q)) hD
end
end L2
namespace L2
open PySem PySem.Spec PySem.Calls PyProof.Rows
section
variable {prog : Program} {w : World} {A : Around} {E : Value → Shared → Prop} {s : Shared} {a kS : Addr} {vs : List Value} {e1 : Nat} {P : PySem.Fin → Shared → Prop}
/-- the keys, one by one; L: what holds behind so many of them -/
theorem srt_rest {f : Value} (hka : kS ≠ a) (hZ : vs.length ≤ sizeLine) (L : Nat → List Value → Shared → Prop) (h0 : L 0 [] s)
    (hat : ∀ i ks s', L i ks s' → ks.length = i ∧ (∃ e, s'.heap.get? kS = some (seqObj "list" ks.toArray e)) ∧ s'.heap.get? a = some (seqObj "list" #[] e1))
    (turn : ∀ i v ks s', vs[i]? = some v → L i ks s' → wpAny (model prog w) A (call f [v]) (fun k s2 => (∃ e, s2.heap.get? kS = some (seqObj "list" ks.toArray e)) ∧ L (i + 1) (ks ++ [k]) { s2 with heap := s2.heap.update kS (Obj.mapSeq (·.push k)) }) (fun _ _ => False) s')
    (fin : ∀ ks s', L vs.length ks s' → ∃ κ, PySem.W.SortsAt prog w A s' κ ks ∧ ∀ h' tk c, (∀ b o, b ≠ a → b ≠ kS → s'.heap.get? b = some o → h'.get? b = some o) → h'.get? a = some (seqObj "list" (PySem.W.sortVals κ false ks vs).toArray c) → P (.done (.ret .none)) { s' with heap := h', toks := tk }) :
    wpAny (model prog w) A (ksk_rest a f false vs.toArray e1 (.ref kS)) P E s := by
  unfold ksk_rest
  refine wpAny_bind (wpAny_rule ?_)
  rw [List.forIn_toArray]
  refine wpAny_bind (ksk_fold (fun i s' => ∃ ks, L i ks s') vs 0 s ⟨[], h0⟩ (fun j x s' hx ⟨ks, hL⟩ => ?_) fun s' ⟨ks, hL⟩ => ?_)
  · rw [Nat.zero_add] at hL ⊢
    obtain ⟨hl, ⟨e, hk⟩, _⟩ := hat _ _ _ hL
    have hj := (List.getElem?_eq_some_iff.mp hx).1
    refine wpAny_bind (wpAny_attempt (wpAny_mono (turn j x ks s' hx hL) (fun k s2 ⟨⟨e2, q1⟩, q2⟩ => ?_) fun _ _ z => z.elim))
    refine wpAny_bind (listUpdate_at q1 rfl ?_ (by rw [List.size_toArray, hl]; omega) (by rw [Array.size_push, List.size_toArray, hl]; omega))
    exact wpAny_pure ⟨rfl, _, q2⟩
  · rw [Nat.zero_add] at hL
    obtain ⟨hl, ⟨e, hk⟩, ha⟩ := hat _ _ _ hL
    obtain ⟨κ, hS, q⟩ := fin ks s' hL
    refine wpAny_bind (listItems_at hk rfl ?_)
    exact srt_end (κ := κ) hk ha hka hS (by rw [List.size_toArray]; exact hl) hZ q
end
end L2
namespace L2
open PySem PySem.Spec PySem.Calls PyProof.Rows
section
variable {prog : Program} {w : World} {A : Around} {E : Value → Shared → Prop} {s : Shared} {a : Addr} {vs : List Value} {P : PySem.Fin → Shared → Prop}
/-- list.sort with a key: the list is emptied, a list of the keys is laid -/
theorem srt_tree {f : Value} {n : Nat} (ho : s.heap.get? a = some (seqObj "list" vs.toArray n)) (hZ : vs.length ≤ sizeLine)
    (h : ∀ e1 h1 kS, s.heap.objs.size ≤ kS → kS ≠ a → (∀ b o, b ≠ a → s.heap.get? b = some o → h1.get? b = some o) → h1.get? a = some (seqObj "list" #[] e1) → h1.get? kS = some (seqObj "list" #[] 0) →
      wpAny (model prog w) A (ksk_rest a f false vs.toArray e1 (.ref kS)) P E { s with heap := h1 }) : wpAny (model prog w) A (ksk_tree a f false) P E s := by
  have hlt := Heap.lt_size ho
  have hone := get?_update_seq ho fun _ => (#[] : Array Value)
  generalize he : (if ((#[] : Array Value).size == vs.toArray.size) = true then n else n + 1) = e1 at hone
  have hsz : ((s.heap.update a (Obj.mapSeq fun _ => (#[] : Array Value))).push (seqObj "tuple" vs.toArray 0)).objs.size = s.heap.objs.size + 1 := by rw [size_push', Heap.size_update]
  have kp : ∀ b o, b ≠ a → s.heap.get? b = some o → (PySem.W.sortingHeap s.heap a vs).get? b = some o := fun b o hb q => PySem.W.sortingHeap_old hb q
  have fin := h e1 (PySem.W.sortingHeap s.heap a vs) (s.heap.objs.size + 1) (Nat.le_succ _) (Nat.ne_of_gt (Nat.lt_succ_of_lt hlt)) kp (Heap.get?_push_of_some _ (Heap.get?_push_of_some _ hone)) (by rw [← hsz]; exact Heap.get?_push_size _ rfl)
  unfold ksk_tree
  refine wpAny_bind (listItems_at ho rfl (wpAny_bind (listUpdate_at ho rfl ?_ (by rw [List.size_toArray]; exact hZ) (Nat.zero_le _))))
  refine wpAny_bind (seqEpoch_at hone rfl (wpAny_bind (wpAny_newTuple ?_ (show vs.length ≤ _ from hZ))))
  refine wpAny_bind (wpAny_newList (wpAny_holding ?_) (Nat.zero_le _))
  rw [← hsz] at fin
  exact fin
/-- sorted with a key -/
theorem srt_call {l : Addr} {f : Addr} {Q : Value → Shared → Prop} (hl : s.heap.IsList l vs.toArray) (hZ : vs.length ≤ sizeLine)
    (h : ∀ e1 h1 a kS E', s.heap.objs.size ≤ a → s.heap.objs.size ≤ kS → kS ≠ a → (∀ b o, s.heap.get? b = some o → h1.get? b = some o) → h1.get? a = some (seqObj "list" #[] e1) → h1.get? kS = some (seqObj "list" #[] 0) →
      wpAny (model prog w) A.in1.in1 (ksk_rest a (.ref f) false vs.toArray e1 (.ref kS)) (fun r s' => r = .done (.ret .none) ∧ Q (.ref a) s') E' { s with heap := h1 }) :
    wpAny (model prog w) A (call (.builtin "sorted") [.ref l] [(Str.ofString "key", .ref f)]) Q E s := by
  refine PySem.W.sorted_of_sort hl hZ (ksk_s1 _ _) (fun _ => ksk_l1 _ _) fun E' => ?_
  rw [ksk_t1]
  have up : s.heap.objs.size ≤ (PySem.W.copyHeap s.heap vs).objs.size := Nat.le_trans (Nat.le_succ _) (Nat.le_of_lt (Heap.lt_size (PySem.W.copyHeap_at s.heap vs)))
  refine srt_tree (s := { s with heap := PySem.W.copyHeap s.heap vs }) (PySem.W.copyHeap_at s.heap vs) hZ fun e1 h1 kS k1 k2 k3 k4 k5 => ?_
  exact h e1 h1 _ kS E' (Nat.le_succ _) (Nat.le_trans up k1) k2 (fun b o q => k3 b o (Nat.ne_of_lt (Nat.lt_succ_of_lt (Heap.lt_size q))) (PySem.W.copyHeap_old q)) k4 k5
end
end L2
namespace Ab
open PySem PySem.Spec PySem.Calls PyProof.Rows PySem.SeqAt
/-- pair by pair, as list.sort compares keys that are tuples -/
theorem kat_datas {prog : Program} {w : World} {A : Around} {s : Shared} {b z : Bool} {Q : Bool → Shared → Prop} : ∀ (xs ys : List PyData) (i : Nat) (vs ws : List Value) (as bs : List Addr), ReadsAll s.heap vs xs as → ReadsAll s.heap ws ys bs → cmpOks xs ys = true → PyData.canLayAll0 xs = true → PyData.canLayAll0 ys = true →
    A.units + min (PyData.depthAll xs) (PyData.depthAll ys) < cLine → (b = true → i = 0 → ∀ x r, xs = x :: r → ∃ n, x = .int n) → Q (cmpVs .Lt z xs ys) s → PySem.W.KatLex prog w A b z Q (vs.zip ws) i s
  | [], ys, i, vs, ws, _, _, ra, rb, _, _, _, _, _, hq => by
    cases ra
    rw [List.zip_nil_left]
    have hq' : Q z s := by cases ys <;> simpa [cmpVs] using hq
    exact PySem.W.kat_nil hq'
  | x :: xs, [], i, vs, ws, _, _, ra, rb, _, _, _, _, _, hq => by
    cases rb
    rw [List.zip_nil_right]
    exact PySem.W.kat_nil (by simpa [cmpVs] using hq)
  | x :: xs, y :: ys, i, _, _, _, _, ra, rb, hc, ha, hb, hu, hi, hq => by
    cases ra with
    | cons r rs =>
      cases rb with
      | cons r' rs' =>
        rw [PyData.canLayAll0, Bool.and_eq_true] at ha hb
        rw [List.zip_cons_cons]
        have he := eqAt_reads x y A s _ _ _ _ r r' ha.1 hb.1 (room_head hu)
        rw [cmpOks] at hc
        refine PySem.W.kat_cons (he prog w _ _ ?_)
        cases hx : PyData.eqv x y with
        | true =>
          rw [hx, if_pos rfl] at hc
          rw [cmpVs, hx, if_pos rfl] at hq
          exact PySem.W.kat_yes (kat_datas xs ys (i + 1) _ _ _ _ rs rs' hc ha.2 hb.2 (room_tail hu) (fun _ z => nomatch z) hq)
        | false =>
          rw [hx, if_neg Bool.false_ne_true] at hc
          rw [cmpVs, hx, if_neg Bool.false_ne_true] at hq
          refine PySem.W.kat_no ?_
          cases hf : (b && i == 0) with
          | false =>
            rw [oneLt'_eq]
            simp only [Bool.false_eq_true, if_false]
            exact wpAny_bind (rc_data .lt x y A s _ _ _ _ r r' hc ha.1 hb.1 (room_head hu) prog w _ _ (wpAny_truthy_bool hq))
          | true =>
            rw [Bool.and_eq_true] at hf
            obtain ⟨n, rfl⟩ := hi hf.1 (by simpa using hf.2) x xs rfl
            cases y with
            | int m =>
              cases r with
              | int _ t => cases r' with
                | int _ u => exact oneLt_int (by simpa [cmpV, cmpI] using hq)
            | none => simp [cmpOk] at hc
            | bool _ => simp [cmpOk] at hc
            | str _ => simp [cmpOk] at hc
            | list _ => simp [cmpOk] at hc
            | tuple _ => simp [cmpOk] at hc
            | dict _ => simp [cmpOk] at hc
/-- keys that have an order of their own -/
noncomputable def ownKind (O : KeyOrd) (kf : O.α → PyData) (h : Heap) (rs : List O.α) (d : O.α) : PyProof.Rows.KeyKind where
  toKeyOrd := O
  keyOf v := open Classical in if q : ∃ r, r ∈ rs ∧ ∃ as, Reads h v (kf r) as then some q.choose else none
  dflt := d
theorem ownKind_inv {O : KeyOrd} {kf : O.α → PyData} {h : Heap} {rs : List O.α} {d : O.α} {v : Value} {r : O.α} (e : (ownKind O kf h rs d).keyOf v = some r) : r ∈ rs ∧ ∃ as, Reads h v (kf r) as := by
  by_cases q : ∃ r, r ∈ rs ∧ ∃ as, Reads h v (kf r) as
  · have e' : (ownKind O kf h rs d).keyOf v = some q.choose := by
      show (open Classical in if q : ∃ r, r ∈ rs ∧ ∃ as, Reads h v (kf r) as then some q.choose else none) = _
      rw [dif_pos q]
    rw [e'] at e
    cases e
    exact q.choose_spec
  · have e' : (ownKind O kf h rs d).keyOf v = none := by
      show (open Classical in if q : ∃ r, r ∈ rs ∧ ∃ as, Reads h v (kf r) as then some q.choose else none) = _
      rw [dif_neg q]
      rfl
    rw [e'] at e
    cases e
/-- what is asked of the keys -/
structure KeyFit (O : KeyOrd) (kf : O.α → PyData) (T : Value) (rs : List O.α) : Prop where
  cmp : ∀ r ∈ rs, ∀ r' ∈ rs, cmpOk (kf r) (kf r') = true ∧ cmpV .Lt (kf r) (kf r') = O.blt r r' ∧ (kf r = kf r' → r = r')
  tup : ∀ r ∈ rs, SeqAt.shaped (kf r) = true ∧ ∃ ts, kf r = .tuple ts ∧ ∀ x t, ts = x :: t → PySem.W.dataType x = T
  typ : T = .type "int" ∨ T = .type "tuple"
theorem ownKind_some {O : KeyOrd} {kf : O.α → PyData} {h : Heap} {rs : List O.α} {d : O.α} {T : Value} (F : KeyFit O kf T rs) {v : Value} {r : O.α} {as : List Addr} (hr : r ∈ rs) (q : Reads h v (kf r) as) : (ownKind O kf h rs d).keyOf v = some r := by
  have z : ∃ r, r ∈ rs ∧ ∃ as, Reads h v (kf r) as := ⟨r, hr, as, q⟩
  have e' : (ownKind O kf h rs d).keyOf v = some z.choose := by
    show (open Classical in if q : ∃ r, r ∈ rs ∧ ∃ as, Reads h v (kf r) as then some q.choose else none) = _
    rw [dif_pos z]
  obtain ⟨h1, as', h2⟩ := z.choose_spec
  rw [e', (F.cmp _ h1 _ hr).2.2 (PySem.Reads.unique h2 _ _ q).1]
theorem each_mapR {α β γ : Type} {R : α → γ → Prop} {f : β → γ} : ∀ {as : List α} {bs : List β}, PySem.W.EachIs (fun a b => R a (f b)) as bs → PySem.W.EachIs R as (bs.map f)
  | _, _, .nil => .nil
  | _, _, .cons h t => .cons h (each_mapR t)
/-- two tuples, compared as values of one type -/
theorem oneLt_tup {prog : Program} {w : World} {A : Around} {E : Value → Shared → Prop} {s : Shared} {l b : Addr} {us ws : Array Value} {k : Bool} {Q : Bool → Shared → Prop} (hl : s.heap.IsTuple l us) (hb : s.heap.IsTuple b ws) (hu : A.units < cLine) (hc : Cmp A.in1 s .Lt (cmpN .Lt us.size ws.size) (us.toList.zip ws.toList) k) (h : Q k s) :
    wpAny (model prog w) A (oneLt' true (.ref l) (.ref b)) Q E s := by
  obtain ⟨⟨_, dd, _, sl⟩, ho, c1, n, d1⟩ := id hl
  obtain ⟨⟨_, dd2, _, sl2⟩, ho2, c2, m, d2⟩ := id hb
  simp only at c1 d1 c2 d2
  subst c1 d1 c2 d2
  rw [oneLt'_eq]
  simp only [if_true]
  refine wpAny_bind (wpAny_cRoomFor hu ?_)
  refine wpAny_bind (wpAny_callSpecialIfBound?_slot ⟨_, ho, rfl⟩ F.slot_tuple_lt (call_meets F.slot_tuple_lt ⟨_, ho, rfl⟩ F.entry_tuple_lt (F.args_tuple_lt_2 _ _) (tup_lt l b us ws n m dd dd2 sl sl2 k) ⟨ho, ho2, hc, ?_⟩))
  exact wpAny_truthy_bool h
/-- the first items, where some tuple may have none -/
theorem mix_firsts {M : Model} {A : Around} {E : Value → Shared → Prop} {s : Shared} : ∀ (vs : List Value) (ds : List PyData) {Q : List (Option Value) → Shared → Prop}, PySem.W.EachIs (fun v d => ∃ as, Reads s.heap v d as) vs ds → (∀ d ∈ ds, ∃ ts, d = .tuple ts) →
    (∀ bs, PySem.W.EachIs (fun (b : Option Value) d => b.isSome = true ↔ d ≠ .tuple []) bs ds → Q bs s) → wpAny M A (vs.mapM firstOfTuple') Q E s
  | [], _, _, .nil, _, h => by rw [List.mapM_nil]; exact wpAny_pure (h [] .nil)
  | v :: vs, d :: ds, Q, .cons ⟨as, r⟩ t, ht, h => by
    obtain ⟨ts, rfl⟩ := ht d List.mem_cons_self
    cases r with
    | @tuple a o xs n _ _ ho hc hd hr =>
      rw [List.mapM_cons]
      refine wpAny_bind ?_
      rw [PySem.W.kas_first_eq]
      refine wpAny_bind (PySem.W.Looks.here (show PySem.W.Looks M s.heap (typeOf (.ref a)) o.cls from (PySem.W.Looks.ld ho).andThen .now) ?_)
      rw [hc, if_neg (by first | decide | simp)]
      refine wpAny_bind (listItems_at ho hd (wpAny_pure ?_))
      refine wpAny_bind (mix_firsts vs ds t (fun e he => ht e (List.mem_cons_of_mem _ he)) fun bs hbs => wpAny_pure (h _ (.cons ?_ hbs)))
      rw [← Array.getElem?_toList]
      cases q : xs.toList with
      | nil =>
        rw [q] at hr
        cases hr
        simp
      | cons f fr =>
        rw [q] at hr
        cases hr
        simp
theorem each_firsts {ds : List PyData} {bs : List (Option Value)} (e : PySem.W.EachIs (fun (b : Option Value) d => b.isSome = true ↔ d ≠ .tuple []) bs ds) (h : ∃ d ∈ ds, d = .tuple []) : (bs.toArray.all fun x => x.isSome) = false := by
  obtain ⟨d, hd, rfl⟩ := h
  have : ∀ {bs : List (Option Value)} {ds : List PyData}, PySem.W.EachIs (fun (b : Option Value) d => b.isSome = true ↔ d ≠ .tuple []) bs ds → .tuple [] ∈ ds → ∃ b ∈ bs, b.isSome = false := by
    intro bs ds e
    induction e with
    | nil => intro h; cases h
    | cons h t ih =>
      intro hm
      rcases List.mem_cons.mp hm with rfl | hm
      · refine ⟨_, List.mem_cons_self, ?_⟩
        rw [Bool.eq_false_iff]
        intro z
        exact h.mp z rfl
      · obtain ⟨b, hb, z⟩ := ih hm
        exact ⟨b, List.mem_cons_of_mem _ hb, z⟩
  obtain ⟨b, hb, z⟩ := this e hd
  rw [Bool.eq_false_iff]
  intro q
  rw [List.all_toArray, List.all_eq_true] at q
  rw [q b hb] at z
  cases z
def emT : PyData → Bool
  | .tuple [] => true
  | _ => false
theorem emT_no {d : PyData} (h : emT d = true) : d = .tuple [] := by
  unfold emT at h
  split at h
  · rfl
  · cases h
theorem mix_kind {M : Model} {A : Around} {E : Value → Shared → Prop} {s : Shared} {vs : List Value} {d : PyData} {ds : List PyData} {Q : SortKind → Shared → Prop} (e : PySem.W.EachIs (fun v d => ∃ as, Reads s.heap v d as) vs (d :: ds)) (ht : ∀ d' ∈ d :: ds, ∃ ts, d' = .tuple ts) (hm : ∃ d' ∈ d :: ds, d' = .tuple [])
    (h : Q (if emT d = true then oneType' else general') s) : wpAny M A (keyKind' vs.toArray) Q E s := by
  rw [PyProof.Rows.kat_kind_eq, List.mapM_toArray, map_eq_pure_bind]
  refine wpAny_bind (wpAny_bind (mix_firsts vs _ e ht fun bs hbs => wpAny_pure ?_))
  have hall := each_firsts hbs hm
  rw [if_neg (by rw [hall]; exact Bool.false_ne_true)]
  cases hbs with
  | @cons b _ bs' _ h1 t1 =>
    have h0 : ((b :: bs').toArray[0]?.bind id) = b := by simp
    rw [h0]
    by_cases hd : emT d = true
    · rw [if_pos hd] at h
      have hb : ¬ (b.isSome = true) := fun z => (h1.mp z) (emT_no hd)
      rw [if_neg hb]
      rw [oneTypeOnly'_eq, List.mapM_toArray, map_eq_pure_bind]
      refine wpAny_bind (wpAny_bind (wpAny_bind (PySem.W.kas_mapM (r := .type "tuple") _ (fun v hv Q' hq => ?_) (wpAny_pure ?_))))
      · obtain ⟨d', hd', as, r⟩ := e.left v hv
        obtain ⟨ts, rfl⟩ := ht d' hd'
        exact (PySem.W.looks_reads r).here hq
      · cases e with
        | @cons v0 _ vs' _ _ _ =>
          have hall2 : ((List.map (fun _ => Value.type "tuple") (v0 :: vs')).toArray.all fun x => x == Value.type "tuple") = true := by
            simp only [List.all_toArray, List.all_map, List.all_eq_true]
            intro _ _
            exact beq_self_eq_true _
          have h00 : (List.map (fun _ => Value.type "tuple") (v0 :: vs')).toArray[0]? = some (Value.type "tuple") := by simp
          rw [h00]
          simp only [hall2, if_true]
          exact wpAny_pure (wpAny_pure h)
    · rw [if_neg hd] at h
      have hb : b.isSome = true := h1.mpr fun z => hd (by rw [z]; rfl)
      rw [if_pos hb]
      exact wpAny_pure h
theorem own_sorts {prog : Program} {w : World} {A : Around} {s : Shared} {O : KeyOrd} {kf : O.α → PyData} {rs : List O.α} {d : O.α} {T : Value} {ks : List Value} (F : KeyFit O kf T rs) (e : PySem.W.EachIs (fun v r => ∃ as, Reads s.heap v (kf r) as) ks rs) (hu : A.units + 64 < cLine) :
    PySem.W.SortsAt prog w A s (ownKind O kf s.heap rs d) ks := by
  have keys : ∀ v, v ∈ ks → ∃ a, (ownKind O kf s.heap rs d).keyOf v = some a := fun v hv => by
    obtain ⟨r, hr, as, q⟩ := e.left v hv
    exact ⟨r, ownKind_some F hr q⟩
  by_cases hne : ∀ r ∈ rs, kf r ≠ .tuple []
  · refine ⟨keys, tuples' (T != .type "tuple"), fun E x y a b Q ha hb hq => ?_, fun h2 E Q hq => ?_⟩
    · obtain ⟨m1, as, r1⟩ := ownKind_inv ha
      obtain ⟨m2, bs, r2⟩ := ownKind_inv hb
      obtain ⟨c1, c2, _⟩ := F.cmp _ m1 _ m2
      obtain ⟨s1, ts1, e1, T1⟩ := F.tup _ m1
      obtain ⟨s2, ts2, e2, T2⟩ := F.tup _ m2
      have hq' : Q (cmpV .Lt (kf a) (kf b)) s := by rw [c2]; exact hq
      have l1 := canLay_of_shaped s1
      have l2 := canLay_of_shaped s2
      have hroom := room_of_shaped (db := kf b) s1 hu
      rw [e1] at r1 l1 c1 hq' hroom
      rw [e2] at r2 l2 c1 hq' hroom
      cases r1 with
      | @tuple l o vs n _ _ h1 h2 h3 h4 =>
        cases r2 with
        | @tuple l' o' vs' n' _ _ k1 k2 k3 k4 =>
          have n1 : vs.size = ts1.length := by simpa using ReadsAll.length _ _ _ h4
          have n2 : vs'.size = ts2.length := by simpa using ReadsAll.length _ _ _ k4
          refine PySem.W.kat_lt h1 h3 k1 k3 ?_
          refine kat_datas ts1 ts2 0 _ _ _ _ h4 k4 c1 l1 l2 (by have := room_in hroom; have h5 : A.in1.units = A.units + 1 := rfl; omega) (fun hb _ x r ex => ?_) ?_
          · have T1 := T1 x r ex
            rcases F.typ with rfl | rfl
            · cases x <;> first | exact ⟨_, rfl⟩ | exact absurd T1 (by simp [PySem.W.dataType])
            · exact absurd hb (by decide)
          · rw [n1, n2]
            exact hq'
    · obtain ⟨fs, t1, t2, t3⟩ := PySem.W.each_katTups (each_mapR (R := fun v d => ∃ as, Reads s.heap v d as) e) fun d hd => by
        obtain ⟨r, hr, rfl⟩ := List.mem_map.mp hd
        obtain ⟨_, ts, e1, _⟩ := F.tup r hr
        cases ts with
        | nil => exact absurd e1 (hne r hr)
        | cons x t => exact ⟨x, t, e1⟩
      refine PySem.W.kat_kind (T := T) t1 (by omega) (fun f hf => ?_) (beq_self_eq_true _) hq
      obtain ⟨x, r, as, m1, m2⟩ := t3 f hf
      obtain ⟨r', hr', e'⟩ := List.mem_map.mp m1
      obtain ⟨_, ts', e1, hT⟩ := F.tup r' hr'
      rw [e1] at e'
      cases e'
      rw [← hT _ _ rfl]
      exact PySem.W.looks_reads m2
  · have hm : ∃ r ∈ rs, kf r = .tuple [] := Classical.byContradiction fun z => hne fun r hr q => z ⟨r, hr, q⟩
    cases rs with
    | nil => obtain ⟨_, hr, _⟩ := hm; cases hr
    | cons r0 rs' =>
      have em := each_mapR (R := fun v d => ∃ as, Reads s.heap v d as) e
      rw [List.map_cons] at em
      have ht : ∀ d' ∈ kf r0 :: rs'.map kf, ∃ ts, d' = .tuple ts := fun d' hd' => by
        rw [← List.map_cons] at hd'
        obtain ⟨r, hr, rfl⟩ := List.mem_map.mp hd'
        obtain ⟨_, ts, e1, _⟩ := F.tup r hr
        exact ⟨ts, e1⟩
      have hmm : ∃ d' ∈ kf r0 :: rs'.map kf, d' = .tuple [] := by
        obtain ⟨r, hr, q⟩ := hm
        refine ⟨kf r, ?_, q⟩
        rw [← List.map_cons]
        exact List.mem_map_of_mem hr
      refine ⟨keys, if emT (kf r0) = true then oneType' else general', fun E x y a b Q ha hb hq => ?_, fun h2 E Q hq => mix_kind em ht hmm hq⟩
      obtain ⟨m1, as, r1⟩ := ownKind_inv ha
      obtain ⟨m2, bs, r2⟩ := ownKind_inv hb
      obtain ⟨c1, c2, _⟩ := F.cmp _ m1 _ m2
      obtain ⟨s1, ts1, e1, T1⟩ := F.tup _ m1
      obtain ⟨s2, ts2, e2, T2⟩ := F.tup _ m2
      have hq' : Q (cmpV .Lt (kf a) (kf b)) s := by rw [c2]; exact hq
      have l1 := canLay_of_shaped s1
      have l2 := canLay_of_shaped s2
      have hroom := room_of_shaped (db := kf b) s1 hu
      split
      · rw [keyLt'_oneType]
        rw [e1] at r1 l1 c1 hq' hroom
        rw [e2] at r2 l2 c1 hq' hroom
        cases r1 with
        | @tuple l o vs n _ _ h1 h2 h3 h4 =>
          cases r2 with
          | @tuple l' o' vs' n' _ _ k1 k2 k3 k4 =>
            have n1 : vs.size = ts1.length := by simpa using ReadsAll.length _ _ _ h4
            have n2 : vs'.size = ts2.length := by simpa using ReadsAll.length _ _ _ k4
            refine oneLt_tup ⟨_, h1, h2, _, h3⟩ ⟨_, k1, k2, _, k3⟩ (room_here hroom) ?_ hq'
            rw [n1, n2]
            exact rc_datas .lt ts1 ts2 A.in1 s _ _ _ _ _ h4 k4 c1 l1 l2 (room_in hroom)
      · show wpAny _ _ (oneLt' false x y) _ _ _
        rw [oneLt'_eq]
        simp only [Bool.false_eq_true, if_false]
        exact wpAny_bind (rc_data .lt _ _ A s _ _ _ _ r1 r2 c1 l1 l2 hroom prog w _ _ (wpAny_truthy_bool hq'))
end Ab
namespace L2
open PySem PySem.Spec PySem.Calls PyProof.Rows Ab
/-- what was untracked and is none of the old ones changes -/
theorem Un.later {fs : List Addr} {H H2 : Hp} {h h2 h3 : Heap} {ch : List Addr} (u : Un fs [] H H2 h h2) (k : ∀ b o, b ∉ ch → h2.get? b = some o → h3.get? b = some o) (hn : ∀ b ∈ ch, h.get? b = none) : Un fs [] H H2 h h3 where
  keep := fun b o q n hb hx => k b o (fun z => by rw [hn b z] at q; cases q) (u.keep b o q n hb hx)
  slot := fun b o q n hb hx => let ⟨sl, e⟩ := u.slot b o q n hb hx; ⟨sl, k b _ (fun z => by rw [hn b z] at q; cases q) e⟩
  free := u.free
  there := fun b o q hx => let ⟨o', e⟩ := u.there b o q hx; ⟨o', k b _ (fun z => by rw [hn b z] at q; cases q) e⟩
  tups := u.tups
  frzs := u.frzs
  tbls := u.tbls
/-- what stands there is tracked from now on -/
theorem Un.track {fs : List Addr} {H H2 : Hp} {h h2 : Heap} {a : Addr} {o : HO} (u : Un fs [] H H2 h h2) (hn : h.get? a = none) (h2n : H2 a = none) : Un fs [] H (upd H2 a o) h h2 where
  keep := u.keep
  slot := u.slot
  free := fun b ob q n hx => by rw [upd_ne fun z => by rw [z, hn] at q; cases q]; exact u.free b ob q n hx
  there := u.there
  tups := fun b xs q => by rw [upd_ne fun z => by have := u.tups b xs q; rw [z, h2n] at this; cases this]; exact u.tups b xs q
  frzs := fun b ob xs q => by rw [upd_ne fun z => by have := u.frzs b ob xs q; rw [z, h2n] at this; cases this]; exact u.frzs b ob xs q
  tbls := fun b ps q => by
    obtain ⟨more, e⟩ := u.tbls b ps q
    exact ⟨more, by rw [upd_ne fun z => by rw [z, h2n] at e; cases e]; exact e⟩
theorem HOk.later {P : Program} {w : World} {H : Hp} {h h' : Heap} {ch : List Addr} (x : HOk P w H h) (k : ∀ b o, b ∉ ch → h.get? b = some o → h'.get? b = some o) (hn : ∀ b ∈ ch, H b = none) : HOk P w H h' := fun b u e =>
  (x b u e).stay (fun c v hc q => k c v (fun z => by
    have hz := hn c z
    rcases hc with rfl | hc
    · rw [hz] at e; cases e
    · rw [hz] at hc; cases hc) q) (fun _ q => q) fun _ _ q => q
theorem HOk.track {P : Program} {w : World} {H : Hp} {h : Heap} {a : Addr} {o : HO} (x : HOk P w H h) (hn : H a = none) (new : ObjOk P w (upd H a o) h a o) : HOk P w (upd H a o) h := fun b u e => by
  by_cases hb : b = a
  · subst hb; rw [upd_same] at e; cases e; exact new
  · rw [upd_ne hb] at e
    exact (x b u e).stay (fun c v _ q => q) (fun c q => by rw [upd_ne (ne_of_none q hn)]; exact q) fun c xs q => by rw [upd_ne (ne_of_none q hn)]; exact q
theorem vals_each : ∀ {xs : List V} {us : List Value} {rs : List α}, Vals xs us → rs.length = xs.length → PySem.W.EachIs (fun (v : Value) (p : α × V) => RelV p.2 v) us (rs.zip xs)
  | [], [], [], .nil, _ => .nil
  | x :: xs, u :: us, r :: rs, .cons h t, e => .cons h (vals_each t (by simpa using e))
theorem each_vals {α : Type} : ∀ {us : List Value} {ps : List (α × V)}, PySem.W.EachIs (fun (v : Value) (p : α × V) => RelV p.2 v) us ps → Vals (ps.map Prod.snd) us
  | _, _, .nil => .nil
  | _, _, .cons h t => .cons h (each_vals t)
theorem keys_each {O : KeyOrd} {kf : O.α → PyData} {h : Heap} {rs0 : List O.α} {d : O.α} {T : Value} (F : KeyFit O kf T rs0) : ∀ {ks : List Value} {rs : List O.α} {xs : List V}, (∀ r ∈ rs, r ∈ rs0) → PySem.W.EachIs (fun v r => ∃ as, Reads h v (kf r) as) ks rs → rs.length = xs.length → PySem.W.EachIs (fun v (p : O.α × V) => (ownKind O kf h rs0 d).keyOf v = some p.1) ks (rs.zip xs)
  | _, [], [], _, .nil, _ => .nil
  | _, r :: rs, x :: xs, hm, .cons ⟨as, q⟩ t, e => .cons (ownKind_some F (hm r (List.mem_cons_self ..)) q) (keys_each F (fun r hr => hm r (List.mem_cons_of_mem _ hr)) t (by simpa using e))
theorem reads_each {X : Cx} {pins : List (Addr × Obj)} {σ : St} {H : Hp} {s : Shared} {α : Type} {kf : α → PyData} (I : Inv X pins σ H s) : ∀ {kVs : List V} {ks : List Value} {rs : List α}, Paired (fun k r => Dp X.K H k (kf r)) kVs rs → Vals kVs ks → PySem.W.EachIs (fun v r => ∃ as, Reads s.heap v (kf r) as) ks rs
  | _, _, _, .nil, .nil => .nil
  | _, _, _, .cons h t, .cons h' t' => .cons (Dp.reads I _ _ _ h h') (reads_each I t t')
def srtV {O : KeyOrd} (rs : List O.α) (xs : List V) : List V := ((rs.zip xs).mergeSort (PySem.W.sortLe O false Prod.fst)).map Prod.snd
def rSortF (K : PySem.W.Frag) (f : Addr) (sp : Sp) : List V → List V → Hp → VK → Prop := fun vs zs H Q => ∃ (l : Addr) (xs : List V), vs = [.ref l] ∧ zs = [.ref f] ∧ SqL K H l xs ∧ ∃ W : Nat → List V → Hp → Prop, W 0 [] H ∧
  (∀ i x ks H1, xs[i]? = some x → W i ks H1 → sp [x] H1 (fun k H2 => W (i + 1) (ks ++ [k]) H2) E0) ∧
  ∀ ks H1, W xs.length ks H1 → ∃ (O : KeyOrd) (kf : O.α → PyData) (T : Value) (rs : List O.α) (_ : O.α), rs.length = xs.length ∧ KeyFit O kf T rs ∧ Paired (fun k r => Dp K H1 k (kf r)) ks rs ∧ ∀ p, H1 p = none → Q (.ref p) (upd H1 p (.lst (srtV rs xs)))
theorem cr_sortF {X : Cx} {k : Nat} {f : Addr} {fd : FuncData} {ps : List Str} {sp : Sp} (F : FnOk X.prog X.w X.K X.mg X.base CX0 k f fd ps sp) (hr : Room (k + 2) X.A) (hb : Binds X.K fd ps []) : CallRK X (.builtin "sorted") [Str.ofString "key"] (rSortF X.K f sp) := by
  intro pins s σ H vs zs us ws Q I r rz h
  obtain ⟨l, xs, rfl, rfl, hs, W, w0, wt, wf⟩ := h
  obtain rfl := Vals.ref1 r
  obtain ⟨w1, rfl, e1⟩ := vals1 rz
  obtain rfl : w1 = Value.ref f := e1
  obtain ⟨its, rv, hl, hz⟩ := I.list hs
  have hlen : xs.length = its.length := rv.length
  have hr2 : Room k X.A.in1.in1 := (Room.in1 (k := k + 1) hr).in1
  have hold : ∀ b ∈ frs X.stack, ∃ o, s.heap.get? b = some o := fun b hb => by
    obtain ⟨_, o, ho, _⟩ := I.stack.mem hb
    exact ⟨o, ho⟩
  show wpAny _ _ (call (.builtin "sorted") [.ref l] [(Str.ofString "key", .ref f)]) _ _ _
  refine srt_call (vs := its) hl.isList (by omega) fun e1 h1 a kS E' ha hk hka hkeep h1a h1k => ?_
  have sa : s.heap.get? a = none := Heap.get?_none_of_le ha
  have sk : s.heap.get? kS = none := Heap.get?_none_of_le hk
  have nk : kS ∉ frs X.stack := fun z => by obtain ⟨o, ho⟩ := hold _ z; rw [sk] at ho; cases ho
  have na : a ∉ frs X.stack := fun z => by obtain ⟨o, ho⟩ := hold _ z; rw [sa] at ho; cases ho
  refine srt_rest hka (by omega) (fun i ks s' => ∃ H' kVs, ks.length = i ∧ (∃ e, s'.heap.get? kS = some (seqObj "list" ks.toArray e)) ∧ s'.heap.get? a = some (seqObj "list" #[] e1) ∧ H' a = none ∧ H' kS = none ∧ s'.os = s.os ∧ AllBare s'.gens ∧ Un (frs X.stack) [] H H' s.heap s'.heap ∧ HOk X.prog X.w H' s'.heap ∧ Vals kVs ks ∧ W i kVs H') ?_ ?_ ?_ ?_
  · exact ⟨H, [], rfl, ⟨0, h1k⟩, h1a, I.hok.fresh ha, I.hok.fresh hk, rfl, I.bare, Un.kept hkeep, I.hok.kept hkeep, .nil, w0⟩
  · rintro i ks s' ⟨H', kVs, q1, q2, q3, _⟩
    exact ⟨q1, q2, q3⟩
  · rintro i v ks s' hv ⟨H', kVs, q1, ⟨e, q2⟩, q3, q4, q5, q6, q7, q8, q9, q10, q11⟩
    have I' : Inv X pins σ H' s' := I.call' q6 q8 q9 q7 fun b z => nomatch z
    have ev := I'.env0
    obtain ⟨x, hx, rx⟩ : ∃ x, xs[i]? = some x ∧ RelV x v := by
      have hi := (List.getElem?_eq_some_iff.mp hv).1
      obtain ⟨u, hu, ru⟩ := rv.get (List.getElem?_eq_getElem (show i < xs.length by omega))
      rw [hv] at hu
      cases hu
      exact ⟨_, List.getElem?_eq_getElem (by omega), ru⟩
    have hw := wt i x kVs H' hx q11
    have hlen1 : ([v] : List Value).length = ps.length := (F.len _ _ _ _ hw)
    have hbd := hb s' [v] I'.kIn (by rw [List.append_nil]; exact hlen1)
    rw [List.append_nil] at hbd
    refine wpAny_call (codeAny_mono (F.run X.A.in1.in1 X.stack s' H' ⟨[v], []⟩ [v] [x] _ E0 hr2 ⟨ev.frames, ev.mod, ev.bs, ev.bsz, ev.funs, ev.frf, ev.hok, ev.bare⟩ hbd (.cons rx .nil) hw) fun out s2 ho => ?_)
    match out, ho with
    | .error _, ho => exact ho.elim
    | .ok (.ret u), ho =>
      obtain ⟨v2, H2, os2, bare2, un2, hok2, ru, w2⟩ := ho
      have k2 := un2.keep kS _ q2 q5 nk (fun z => nomatch z)
      have a2 := un2.keep a _ q3 q4 na (fun z => nomatch z)
      have na2 := un2.free a _ q3 q4 (fun z => nomatch z)
      have nk2 := un2.free kS _ q2 q5 (fun z => nomatch z)
      have kk : ∀ b o, b ∉ [kS] → s2.heap.get? b = some o → (s2.heap.update kS (Obj.mapSeq (·.push u))).get? b = some o := fun b o hb q => by
        rw [Heap.get?_update_ne _ _ _ _ (by simpa using hb)]
        exact q
      refine ⟨⟨e, k2⟩, H2, kVs ++ [v2], by rw [List.length_append, q1]; rfl, ?_, ?_, na2, nk2, os2.trans q6, bare2, ?_, ?_, q10.append (.cons ru .nil), w2⟩
      · have := get?_update_seq k2 (·.push u)
        rw [List.push_toArray] at this
        exact ⟨_, this⟩
      · exact kk a _ (by simpa using Ne.symm hka) a2
      · exact (q8.trans un2).later kk fun b hb => by rw [List.mem_singleton.mp hb]; exact sk
      · exact hok2.later kk fun b hb => by rw [List.mem_singleton.mp hb]; exact nk2
  · rintro ks s' ⟨H', kVs, q1, q2, q3, q4, q5, q6, q7, q8, q9, q10, q11⟩
    have I' : Inv X pins σ H' s' := I.call' q6 q8 q9 q7 fun b z => nomatch z
    rw [← hlen] at q11
    obtain ⟨O, kf, T, rs, d, hrl, fit, hp, q⟩ := wf kVs H' q11
    have he := reads_each I' hp q10
    refine ⟨ownKind O kf s'.heap rs d, own_sorts fit he hr2.units, fun h' tk c kp hc => ⟨rfl, .ref a, upd H' a (.lst (srtV rs xs)), ?_, rfl, q a q4⟩⟩
    have ho : PySem.W.EachIs (fun (v : Value) (p : O.α × V) => RelV p.2 v) (PySem.W.sortVals (ownKind O kf s'.heap rs d) false ks its) ((rs.zip xs).mergeSort (PySem.W.sortLe O false Prod.fst)) :=
      PySem.W.sortVals_each (κ := ownKind O kf s'.heap rs d) Prod.fst (vals_each rv hrl) (keys_each fit (fun _ h => h) he hrl)
    have hv := each_vals ho
    have kk : ∀ b o, b ∉ [a, kS] → s'.heap.get? b = some o → h'.get? b = some o := fun b o hb q => kp b o (fun z => hb (by rw [z]; simp)) (fun z => hb (by rw [z]; simp)) q
    have hsl : (srtV rs xs).length ≤ sizeLine := by
      unfold srtV
      rw [List.length_map, (List.mergeSort_perm _ _).length_eq, List.length_zip, hrl, Nat.min_self]
      omega
    refine I.call' (s' := { s' with heap := h', toks := tk }) q6 ((q8.later kk fun b hb => ?_).track sa q4) ((q9.later kk fun b hb => ?_).track q4 ⟨hsl, _, c, hv, hc⟩) q7 fun b z => nomatch z
    · rcases List.mem_cons.mp hb with rfl | hb
      · exact sa
      · rw [List.mem_singleton.mp hb]; exact sk
    · rcases List.mem_cons.mp hb with rfl | hb
      · exact q4
      · rw [List.mem_singleton.mp hb]; exact q5
end L2
set_option Elab.async false
set_option linter.all false
set_option maxRecDepth 1000000
set_option  maxHeartbeats 4000000
namespace Ab
open PySem PySem.Spec PyProof.Rows L2
section
variable {K : KX} {ρ : Rho} {M : MH} {Q : Sl → MH → Prop}
def leK (O : KeyOrd) (a b : O.α) : Bool := !O.blt b a
theorem paired_map {α : Type} {F : PySem.W.Frag} {B : Hp} {u : α → V} {g : α → Sl} : ∀ l : List α, (∀ p ∈ l, SlOk F B (u p) (g p)) → SlAll F B (l.map u) (l.map g)
  | [], _ => .nil
  | p :: l, h => .cons (h p (List.mem_cons_self ..)) (paired_map l fun q hq => h q (List.mem_cons_of_mem _ hq))
theorem zip_ok {α : Type} {F : PySem.W.Frag} {B : Hp} {g : α → Sl} : ∀ {rs : List α} {vs : List V}, SlAll F B vs (rs.map g) → ∀ p ∈ rs.zip vs, SlOk F B p.2 (g p.1)
  | [], _, _, p, hp => by simp at hp
  | r :: rs, v :: vs, .cons h t, p, hp => by
    rw [List.zip_cons_cons] at hp
    rcases List.mem_cons.mp hp with rfl | hp
    · exact h
    · exact zip_ok t p hp
theorem srt_all {F : PySem.W.Frag} {B : Hp} {O : KeyOrd} {g : O.α → Sl} {rs : List O.α} {vs : List V} (h : SlAll F B vs (rs.map g)) : SlAll F B (srtV rs vs) ((rs.mergeSort (leK O)).map g) := by
  have hl : rs.length ≤ vs.length := by rw [SlAll.len h, List.length_map]; exact Nat.le_refl _
  have e : rs.mergeSort (leK O) = ((rs.zip vs).mergeSort (PySem.W.sortLe O false Prod.fst)).map Prod.fst := by
    have z := List.map_mergeSort (r := PySem.W.sortLe O false Prod.fst) (s := leK O) (f := Prod.fst) (l := rs.zip vs) fun a _ b _ => rfl
    rw [z, List.map_fst_zip hl]
  rw [e, List.map_map]
  exact paired_map _ fun p hp => zip_ok h p ((List.mergeSort_perm _ _).mem_iff.mp hp)
theorem paired_dp {α : Type} {F : PySem.W.Frag} {B H : Hp} {kf : α → PyData} (e : Same B H) : ∀ {ks : List V} {rs : List α}, SlAll F B ks (rs.map fun r => .dat (kf r)) → Paired (fun k r => Dp F H k (kf r)) ks rs
  | _, [], .nil => .nil
  | _, _ :: _, .cons h t => .cons (dq_dp _ _ (dp_same e _ _ h)) (paired_dp e t)
/-- sorted(xs, key=f) -/
theorem w_sortF {A : ASp} {f : Addr} {t tk : TA} {O : KeyOrd} {kf : O.α → PyData} {T : Value} (h : WA K t ρ M fun ss M1 => WA K tk ρ M1 fun zs M2 => ∃ (s : Sl) (rs : List O.α) (g : O.α → Sl) (_ : O.α), ss = [s] ∧ zs = [.raw (.ref f)] ∧ LsV K.K s M2 (rs.map g) ∧ KeyFit O kf T rs ∧
    (∀ r ∈ rs, ∀ QA : Sl → MH → Prop, QA (.dat (kf r)) M2 → A [g r] M2 QA) ∧ ∀ p, M2 p = none → Q (.raw (.ref p)) (um M2 p (.lst ((rs.mergeSort (leK O)).map g)))) : W K (tCKw (rSortF K.K f (conc K.K A)) t tk) ρ M Q := fun σ B H hR hS Q0 k =>
  h σ B H hR hS _ fun ss vs M1 B1 H1 h1 e1 S1 o1 => h1 σ B1 H1 (hR.mono e1) S1 _ fun zs ws M2 B2 H2 ⟨s, rs, g, d, es, ez, hl, fit, ha, q⟩ e2 S2 o2 => by
    subst es ez
    cases o1 with
    | cons oa ob =>
      cases ob
      cases o2 with
      | cons ob oc =>
        cases oc
        obtain ⟨a, xs, rfl, hq, hx⟩ := hl.get S2 (oa.mono e2)
        obtain rfl : _ = V.ref f := ob
        have hlen : xs.length = rs.length := by rw [SlAll.len hx, List.length_map]
        refine ⟨a, xs, rfl, rfl, hq, fun i ks H' => ∃ B', Same B2 B' ∧ Sep K.K B' M2 H' ∧ SlAll K.K B' ks ((rs.take i).map fun r => .dat (kf r)), ⟨B2, Same.refl _, S2, .nil⟩, ?_, ?_⟩
        · rintro i x ks H1' hxi ⟨B', e', S', o'⟩
          have hi : i < rs.length := by rw [← hlen]; exact (List.getElem?_eq_some_iff.mp hxi).1
          obtain ⟨v, hv, ov⟩ := SlAll.get hx (i := i) (s := g rs[i]) (by rw [List.getElem?_map, List.getElem?_eq_getElem hi]; rfl)
          rw [hxi] at hv
          cases hv
          refine ⟨B', M2, [g rs[i]], fun s M' => s = .dat (kf rs[i]) ∧ M' = M2, S', .cons (ov.mono e') .nil, ha _ (List.getElem_mem hi) _ ⟨rfl, rfl⟩, fun s v M' B'' H'' ⟨es, em⟩ e'' S'' o'' => ?_⟩
          subst es em
          refine ⟨B'', e'.trans e'', S'', ?_⟩
          rw [List.take_succ_eq_append_getElem hi, List.map_append]
          exact SlAll.app (SlAll.mono e'' o') (.cons o'' .nil)
        · rintro ks H1' ⟨B', e', S', o'⟩
          rw [hlen, List.take_length] at o'
          refine ⟨O, kf, T, rs, d, hlen.symm, fit, paired_dp S'.sub o', fun p hp => ?_⟩
          exact k _ _ (um M2 p _) B' _ (q p (S'.freeM hp)) ((e1.trans e2).trans e') (S'.new hp ⟨_, rfl, srt_all (SlAll.mono e' hx)⟩) slok_ref
end
end Ab
set_option Elab.async false
set_option linter.all false
set_option maxRecDepth 1000000
set_option  maxHeartbeats 4000000
namespace Ab
open PySem PySem.Spec PyProof.Rows L2
section
variable {K : KX} {ρ : Rho} {M : MH} {Q : Sl → MH → Prop} {te td tk tv : TE} {tb : TS} {nx bk ct : Rho → MH → Prop} {rt : Sl → MH → Prop}
/-- a dict is locked for an expression -/
theorem w_lock {a : Addr} {kvs : List (Key × Sl)} (h : M a = some (.dK kvs)) (hw : ∀ od v, W K te ρ (um M a (.frz od v (.dK kvs))) fun s M' => M' a = some (.frz od v (.dK kvs)) ∧ Q s (um M' a (.dK kvs))) : W K (tLockE te) ρ M Q := fun σ B H hR hS Q0 k => by
  obtain ⟨hB, u, hu, vs, rfl, hv⟩ := hS.has a _ h
  refine ⟨a, .dK vs, hu, trivial, fun od => hw od (.dK vs) σ B _ hR (hS.put h ⟨rfl, vs, rfl, hv⟩) _ fun s v M' B' H' ⟨hM', q⟩ e S o => ?_⟩
  obtain ⟨_, u', hu', rfl, vs', e', hv'⟩ := S.has a _ hM'
  cases e'
  exact ⟨hu', k s v _ B' _ q e (S.put hM' ⟨vs, rfl, hv'⟩) o⟩
theorem slok_kS {F : PySem.W.Frag} {B : Hp} : ∀ k : Key, SlOk F B (kV k) (kS k)
  | .inl _ => slok_int
  | .inr _ => slok_str
theorem slks_at {F : PySem.W.Frag} {B : Hp} : ∀ {vs : List (Key × V)} {kvs : List (Key × Sl)} {i : Nat} {k : Key} {v : V}, SlKs F B vs kvs → vs[i]? = some (k, v) → ∃ s, kvs[i]? = some (k, s)
  | (k, v) :: _, (k', s) :: _, 0, _, _, .cons h t, e => by
    cases e
    have h1 : k = k' := h.1
    exact ⟨s, by rw [List.getElem?_cons_zero, h1]⟩
  | _, _, i + 1, k, v, .cons _ t, e => by
    obtain ⟨s, h⟩ := slks_at (i := i) t (by simpa using e)
    exact ⟨s, by simpa using h⟩
/-- the keys of a locked dict -/
theorem wi_keys {R : Nat → (Nat → Sl) → (MH → Prop) → MH → Prop} (h : W K td ρ M fun s M1 => ∃ a od v kvs, s = .raw (.ref a) ∧ M1 a = some (.frz od v (.dK kvs)) ∧ R kvs.length (fun i => (kvs.map fun q => kS q.1).getD i .non) (fun M2 => M2 a = some (.frz od v (.dK kvs))) M1) : WI K (iKeys td) ρ M R := fun σ B H hR hS R0 k =>
  h σ B H hR hS _ fun s v0 M1 B1 H1 ⟨a, od, v, kvs, es, hM, q⟩ e1 S1 o1 => by
    subst es
    obtain rfl : v0 = .ref a := o1
    obtain ⟨_, u, hu, rfl, vs, rfl, hv⟩ := S1.has a _ hM
    have hl : vs.length = kvs.length := Paired.length hv
    refine ⟨a, od, rfl, .inl ⟨vs, hu, k kvs.length _ _ M1 B1 H1 _ q e1 S1 ⟨fun i B2 M2 H2 hi e2 S2 st => ?_, fun i B2 M2 H2 x H3 hi e2 S2 st y => ?_, fun i B2 M2 H2 hi e2 S2 st => ?_⟩⟩⟩
    · obtain ⟨_, u2, hu2, rfl, _⟩ := S2.has a _ st
      exact ⟨hu2, by omega⟩
    · obtain ⟨rfl, kk, vv, hk, rfl⟩ := y
      obtain ⟨s, hs⟩ := slks_at hv hk
      refine ⟨B2, Same.refl _, S2, ?_⟩
      rw [List.getD_eq_getElem?_getD, List.getElem?_map, hs]
      exact slok_kS kk
    · obtain ⟨_, u2, hu2, rfl, _⟩ := S2.has a _ st
      exact ⟨hu2, by omega⟩
/-- {k: v for x in ..} -/
theorem w_dc {wi : TI} {tt : TT} {g : TG} {vs : List Nat} (h : WI K wi ρ M fun n item stay M1 => ∃ J : Nat → List (Key × Sl) → MH → Prop, J 0 [] M1 ∧ (∀ i acc M', i ≤ n → J i acc M' → ∀ D o, M' D = none → stay (um M' D o)) ∧
    (∀ i acc M' D, i < n → J i acc M' → M' D = none → ∃ f, LcT K.K g vs (item i) f ∧ WT K tt (f (wipeR ρ vs)) (um M' D (.dK acc)) fun b M3 =>
      if b = true then W K tk (f (wipeR ρ vs)) M3 fun y M4 => W K tv (f (wipeR ρ vs)) M4 fun z M5 => ∃ k M6, y = kS k ∧ M5 = um M6 D (.dK acc) ∧ M6 D = none ∧ acc.length < 1000000 ∧ J (i + 1) (putG acc k z) M6
      else ∃ M6, M3 = um M6 D (.dK acc) ∧ M6 D = none ∧ J (i + 1) acc M6) ∧
    ∀ acc M' D, J n acc M' → M' D = none → Q (.raw (.ref D)) (um M' D (.dK acc))) : W K (tDc wi g tt tk tv vs) ρ M Q := fun σ B H hR hS Q0 k =>
  h σ B H hR hS _ fun n item stay M1 B1 H1 It ⟨J, j0, js, jt, je⟩ e1 S1 ok => fun D hD => by
    refine ⟨fun i m H' => m = n - i ∧ i ≤ n ∧ ∃ acc M' B', J i acc M' ∧ M' D = none ∧ Same B1 B' ∧ Sep K.K B' (um M' D (.dK acc)) H', ⟨n, by simp, Nat.zero_le _, [], M1, B1, j0, S1.freeM hD, Same.refl _, S1.new hD ⟨[], rfl, .nil⟩⟩, ?_⟩
    rintro i m H' ⟨rfl, hi, acc, M', B', hj', hMD, e2, S2⟩
    by_cases hlt : i < n
    · refine .inr ⟨ok.go i B' _ H' hlt e2 S2 (js i acc M' hi hj' D _ hMD), fun H2 => ∃ acc M2 B2, J (i + 1) acc M2 ∧ M2 D = none ∧ Same B1 B2 ∧ Sep K.K B2 (um M2 D (.dK acc)) H2, fun H2 ⟨acc, M2, B2, q⟩ => ⟨n - (i + 1), by omega, rfl, hlt, acc, M2, B2, q⟩, fun x H3 y => ?_⟩
      obtain ⟨B3, e3, S3, o3⟩ := ok.yld i B' _ H' x H3 hlt e2 S2 (js i acc M' hi hj' D _ hMD) y
      obtain ⟨f, hf, ht⟩ := jt i acc M' D hlt hj' hMD
      have hR3 := hR.mono ((e1.trans e2).trans e3)
      refine hf B3 H3 x (wipe σ vs) (wipeR ρ vs) _ S3 o3 (hR3.wiped vs).r _ fun σ2 hw hr2 => ⟨hw.trans (wipe_wipe σ vs), ?_⟩
      have R3 : Rl K B3 σ2 (f (wipeR ρ vs)) := ⟨hr2, hR3.x⟩
      refine ht σ2 B3 H3 R3 S3 _ fun b M4 B4 H4 q4 e4 S4 => ?_
      have e14 := (e2.trans e3).trans e4
      cases b with
      | true =>
        refine q4 σ2 B4 H4 (R3.mono e4) S4 _ fun y vy M5 B5 H5 q5 e5 S5 oy => ?_
        refine q5 σ2 B5 H5 (R3.mono (e4.trans e5)) S5 _ fun z vz M6 B6 H6 ⟨kk, M7, ey, em, hn7, hl7, hj7⟩ e6 S6 oz => ?_
        subst ey em
        obtain ⟨_, u, hu, ws, rfl, ha⟩ := S6.has D _ um_same
        have hlen : ws.length = acc.length := Paired.length ha
        refine ⟨ws, kk, of_kS (oy.mono e6), hu, Nat.lt_of_lt_of_le (by omega) (show 1000000 ≤ sizeLine by decide), putG acc kk z, M7, B6, hj7, hn7, (e14.trans e5).trans e6, ?_⟩
        have S7 := S6.put (u := .dK (putK ws kk vz)) (o' := .dK (putG acc kk z)) um_same ⟨_, rfl, slks_putK oz ha⟩
        rw [um_um] at S7
        exact S7
      | false =>
        obtain ⟨M5, em, hn5, hj5⟩ := q4
        subst em
        exact ⟨acc, M5, B4, hj5, hn5, e14, S4⟩
    · have ei : i = n := by omega
      subst ei
      refine .inl ⟨ok.stop i B' _ H' (Nat.le_refl _) e2 S2 (js i acc M' hi hj' D _ hMD), ?_⟩
      exact k _ _ _ B' H' (je acc M' D hj' hMD) (e1.trans e2) S2 slok_ref
end
section
variable {K : PySem.W.Frag} {M : MH} {Q : Sl → MH → Prop}
/-- list(d) -/
abbrev rListDk : List V → Hp → VK → Prop := fun xs H Q => ∃ (a : Addr) (kvs : List (Key × V)), xs = [.ref a] ∧ Rd H a (.dK kvs) ∧ ∀ p, H p = none → Q (.ref p) (upd H p (.lst (kvs.map fun kv => kV kv.1)))
theorem slks_keys {B : Hp} : ∀ {vs : List (Key × V)} {kvs : List (Key × Sl)}, SlKs K B vs kvs → SlAll K B (vs.map fun kv => kV kv.1) (kvs.map fun q => kS q.1)
  | _, _, .nil => .nil
  | (k, v) :: _, (k', s) :: _, .cons h t => .cons (by have h1 : k = k' := h.1; subst h1; exact slok_kS k) (slks_keys t)
theorem wl_listD {s : Sl} {kvs : List (Key × Sl)} (h : DcV K s M kvs) (q : ∀ p, M p = none → Q (.raw (.ref p)) (um M p (.lst (kvs.map fun q => kS q.1)))) : WL K rListDk [s] M Q := fun B H vs hS o Q0 k => by
  cases o with
  | cons o1 o2 =>
    cases o2
    obtain ⟨a, us, rfl, hr, hk⟩ := h.get hS o1
    exact ⟨a, us, rfl, hr, fun p hp => k _ _ (um M p _) B _ (q p (hS.freeM hp)) (Same.refl B) (hS.new hp ⟨_, rfl, slks_keys hk⟩) slok_ref⟩
def leT (x y : Str) : Bool := !decide (y.cps.toList < x.cps.toList)
def sortT (ks : List Str) : List Str := ks.mergeSort leT
theorem sla_strs {B : Hp} : ∀ ys : List Str, SlAll K B (ys.map V.str) (ys.map fun y => .str y)
  | [] => .nil
  | _ :: ys => .cons slok_str (sla_strs ys)
theorem sla_str {B : Hp} : ∀ {vs : List V} {ys : List Str}, SlAll K B vs (ys.map fun y => .str y) → vs = ys.map V.str
  | _, [], .nil => rfl
  | _, _ :: _, .cons h t => by rw [List.map_cons, ← sla_str t, of_str h]
/-- x in xs, xs a list of data that may change -/
theorem w2_inL {s : Sl} {d : PyData} {ds : List PyData} (hl : LsV K s M (ds.map .dat)) (h1 : SeqAt.shaped d = true) (h2 : SeqAt.shaped (.list ds) = true) (q : Q (.bl (ds.any fun z => PyData.eqv z d)) M) : W2 K (rInD K) (.dat d) s M Q := fun B H v w hS o1 o2 Q0 k => by
  obtain ⟨a, vs, rfl, hq, ha⟩ := hl.get hS o2
  exact ⟨d, ds, dq_dp _ _ (dp_same hS.sub _ _ o1), .lst hq (dqa_dp _ _ (dpa_same hS.sub _ _ (dpa_of ha))), h1, h2, k _ _ M B H q (Same.refl B) hS slok_bl⟩
end
end Ab
set_option Elab.async false
set_option linter.all false
set_option maxRecDepth 1000000
set_option  maxHeartbeats 4000000
namespace L2
open PySem PySem.Spec PyProof.Rows
section
variable {P : Program} {w : World} {K : PySem.W.Frag} {mg : Str → Option Value} {base : Heap} {x qual : Str} {st : Stmt} {dvs : List V} {f : Addr} {fd : FuncData}
theorem FunD.okN {N ps : List Str} {k : Nat} {sp : Sp} (F : FunD K x qual (defArgs st) (defBody st) (defScope st) dvs [] f fd) (S : FnScope N ps (defScope st)) (len : ∀ vs H Q E, sp vs H Q E → vs.length = ps.length)
    (hbody : ∀ (cdv : Value) (A : Around) (outer : List Env) (s : Shared) (H : Hp) (vs : List V) (Q : VK) (E : XK), Room k (A.deeper (envOfC qual (defScope st) s.heap.objs.size f cdv)) → sp vs H Q E →
      ∃ t, PSs (cxOf CX0 P w K mg base N qual (defScope st) f cdv A outer s H E).nox (defBody st) t ∧ t { nx := fun _ H' => Q .non H', rt := Q } (start N vs) H) : FnOk P w K mg base CX0 (k + 1) f fd ps sp :=
  F.ok S len fun cdv A outer s H vs Q E hr hsp => let ⟨t, h, q⟩ := hbody cdv A outer s H vs Q E hr hsp; ⟨t, h.nox, q⟩
theorem fund_mk {oc : Value} {od an : Option Addr} {osl : Array (Option Value)} {T e0 : Addr} {oT : Obj} {n : Nat} {kV doc pm cdv ct : Value} (l : K.lookup f = some ⟨oc, od, .func (PySem.W.fnOf x qual (defArgs st) (defBody st) (defScope st) (.ref T) kV doc pm an cdv ct), osl⟩)
    (c : PySem.W.codeIn K cdv qual = true) (k : PySem.W.keepIn K (.ref f) = true) (lT : K.lookup T = some oT) (oTd : oT.data = .seq #[.ref e0] n) : FunD K x qual (defArgs st) (defBody st) (defScope st) [.ref e0] [] f (PySem.W.fnOf x qual (defArgs st) (defBody st) (defScope st) (.ref T) kV doc pm an cdv ct) :=
  ⟨⟨oc, od, .ref T, kV, doc, pm, an, cdv, ct, osl, rfl, l, c, .inr ⟨by simp, T, oT, [.ref e0], n, rfl, lT, oTd, .cons rfl .nil⟩, .inl rfl⟩, k⟩
/-- rules that name the module's part (within a comprehension) -/
theorem pe_fldK {X : Cx} {K : PySem.W.Frag} {e : Expr} {f : Str} {pos : Pos} {ta : TE} (hK : X.K = K) (he : PE X e ta) (hb : attributeBase e f X.env (eval e X.env) = eval e X.env) : PE X (.Attribute e f pos) (tFld K ta f) := by
  subst hK
  exact pe_fld he hb
theorem cr_sortFK {X : Cx} {K : PySem.W.Frag} {k : Nat} {f : Addr} {fd : FuncData} {ps : List Str} {sp : Sp} (hK : X.K = K) (F : FnOk X.prog X.w X.K X.mg X.base CX0 k f fd ps sp) (hr : Room (k + 2) X.A) (hb : Binds X.K fd ps []) : CallRK X (.builtin "sorted") [Str.ofString "key"] (rSortF K f sp) := by
  subst hK
  exact cr_sortF F hr hb
theorem vals_nil {ds : List Value} (h : Vals [] ds) : ds = [] := by cases h; rfl
theorem vals_ref1 {e0 : Addr} {ds : List Value} (h : Vals [V.ref e0] ds) : ds = [.ref e0] := by
  cases h with
  | cons a b =>
    cases b
    rw [show _ = Value.ref e0 from a]
end
end L2
namespace Ab
open PySem PySem.Spec PyProof.Rows L2
theorem ab_okD {K : PySem.W.Frag} {P : Program} {w : World} {mg : Str → Option Value} {base : Heap} {x qual : Str} {st : Stmt} {dvs : List V} {f : Addr} {fd : FuncData} {N ps : List Str} {k : Nat} {A : ASp} (F : FunD K x qual (defArgs st) (defBody st) (defScope st) dvs [] f fd) (S : FnScope N ps (defScope st))
    (hlen : ∀ ss M Q, A ss M Q → ss.length = ps.length)
    (hb : ∀ (cdv : Value) (Ar : Around) (outer : List Env) (s : Shared) (H : Hp) (E : XK), Room k (Ar.deeper (envOfC qual (defScope st) s.heap.objs.size f cdv)) →
      ∃ t, PSs (cxOf CX0 P w K mg base N qual (defScope st) f cdv Ar outer s H E).nox (defBody st) t ∧ ∀ ss M Q, A ss M Q → WS (KX.pure K) t (rho0 N.length ss) M ⟨fun _ M' => Q .non M', Q, NoR, NoR⟩) :
    FnOk P w K mg base CX0 (k + 1) f fd ps (conc K A) := by
  refine F.okN S (fun vs H Q E h => ?_) (fun cdv Ar outer s H vs Q E hr h => ?_)
  · obtain ⟨B, M, ss, QA, hS, hv, ha, _⟩ := h
    rw [SlAll.len hv]
    exact hlen ss M QA ha
  · obtain ⟨B, M, ss, QA, hS, hv, ha, hq⟩ := h
    obtain ⟨t, ht, hw⟩ := hb cdv Ar outer s H E hr
    refine ⟨t, ht, ?_⟩
    have hR : Rl (KX.pure K) B (L2.start N vs) (rho0 N.length ss) := by
      unfold L2.start rho0
      rw [SlAll.len hv]
      exact ⟨rl_start _ hv, fun _ _ _ _ _ _ _ q => q.elim⟩
    exact hw ss M QA ha (L2.start N vs) B H ⟨fun _ H' => Q .non H', Q, _, _⟩ hR hS (fun ρ' M' σ' B' H' q e _ S' => hq .non .non M' B' H' q e S' slok_non) (fun s v M' B' H' q e S' o => hq s v M' B' H' q e S' o) (fun _ _ _ _ _ z => z.elim) (fun _ _ _ _ _ z => z.elim)
section
variable {K : KX} {ρ : Rho} {M : MH} {Q : Sl → MH → Prop}
/-- the empty tuple that a def has for a default -/
def Tup0 (F : PySem.W.Frag) (e0 : Addr) : Prop := ∃ o n, F.lookup e0 = some o ∧ o.cls = .type "tuple" ∧ o.dict = none ∧ o.data = .seq #[] n
end
end Ab
set_option Elab.async false
set_option linter.all false
set_option maxRecDepth 1000000
set_option  maxHeartbeats 4000000
namespace Ab
open PySem L2
def goodS (z : Str) : Bool := decide (z.length ≤ 40) && z.cps.toList.all fun c => decide (32 ≤ c) && decide (c < 127) && decide (c ≠ 37)
theorem goodS_ok {z : Str} (h : goodS z = true) : PyData.strOk z = true := by
  unfold goodS at h
  rw [Bool.and_eq_true, List.all_eq_true] at h
  unfold PyData.strOk
  rw [← Array.all_toList, List.all_eq_true]
  intro c hc
  have := h.2 c hc
  simp only [Bool.and_eq_true, decide_eq_true_eq] at this
  exact decide_eq_true (by omega)
inductive Val where
  | int (n : Int)
  | str (z : Str)
  deriving DecidableEq
def Val.enc : Val → PyData
  | .int n => .int n
  | .str z => .str z
def Val.ok : Val → Prop
  | .int n => n.natAbs < 10 ^ 30
  | .str z => goodS z = true
theorem Val.enc_inj {v w : Val} (h : v.enc = w.enc) : v = w := by
  cases v <;> cases w <;> simp_all [Val.enc]
inductive Term where
  | any
  | value (v : Val)
  | variable (z : Str)
  deriving DecidableEq
def Term.enc : Term → PyData
  | .any => .tuple [.str "any"]
  | .value v => .tuple [.str "value", v.enc]
  | .variable z => .tuple [.str "variable", .str z]
def Term.ok : Term → Prop
  | .any => True
  | .value v => v.ok
  | .variable z => goodS z = true
inductive Lit where
  | fact (rel : Str) (ts : List Term)
  | neg (rel : Str) (ts : List Term)
  | compare (op : Str) (s t : Term)
  | is (x op : Str) (s t : Term)
  | count (x rel : Str) (ts : List Term)
  deriving DecidableEq
abbrev encT (ts : List Term) : PyData := .tuple (ts.map Term.enc)
abbrev encR (row : List Val) : PyData := .tuple (row.map Val.enc)
def Lit.enc : Lit → PyData
  | .fact r ts => .tuple [.str "fact", .str r, encT ts]
  | .neg r ts => .tuple [.str "not", .str r, encT ts]
  | .compare op s t => .tuple [.str "compare", .str op, s.enc, t.enc]
  | .is x op s t => .tuple [.str "is", .str x, .str op, s.enc, t.enc]
  | .count x r ts => .tuple [.str "count", .str x, .str r, encT ts]
def okTs (ts : List Term) : Prop := ts.length ≤ 1000 ∧ ∀ t ∈ ts, t.ok
def okR (row : List Val) : Prop := row.length ≤ 1000 ∧ ∀ v ∈ row, v.ok
def opsC : List Str := ["=", "<>", "<", "<=", ">", ">="]
def opsI : List Str := ["+", "-", "*"]
def Lit.ok : Lit → Prop
  | .fact r ts => goodS r = true ∧ okTs ts
  | .neg r ts => goodS r = true ∧ okTs ts
  | .compare op s t => op ∈ opsC ∧ s.ok ∧ t.ok
  | .is x op s t => goodS x = true ∧ op ∈ opsI ∧ s.ok ∧ t.ok
  | .count x r ts => goodS x = true ∧ goodS r = true ∧ okTs ts
abbrev encB (b : List Lit) : PyData := .tuple (b.map Lit.enc)
def okB (b : List Lit) : Prop := b.length ≤ 1000 ∧ ∀ l ∈ b, l.ok
inductive Item where
  | relation (n : Str) (w : Int)
  | fact (n : Str) (row : List Val)
  | rule (n rel : Str) (hd : List Term) (b : List Lit)
  | denial (n : Str) (b : List Lit)
  deriving DecidableEq
def Item.enc : Item → PyData
  | .relation n w => .tuple [.str "relation", .str n, .int w]
  | .fact n row => .tuple [.str "fact", .str n, encR row]
  | .rule n rel hd b => .tuple [.str "rule", .str n, .str rel, encT hd, encB b]
  | .denial n b => .tuple [.str "denial", .str n, encB b]
def Item.ok : Item → Prop
  | .relation n w => goodS n = true ∧ 0 ≤ w ∧ w ≤ 1000
  | .fact n row => goodS n = true ∧ okR row ∧ row ≠ []
  | .rule n rel hd b => goodS n = true ∧ goodS rel = true ∧ okTs hd ∧ okB b
  | .denial n b => goodS n = true ∧ okB b
theorem okD_str {n : Nat} {z : Str} (h : PyData.strOk z = true) : okD n (.str z) = true := by cases n <;> simpa [okD] using h
theorem okD_good {n : Nat} {z : Str} (h : goodS z = true) : okD n (.str z) = true := okD_str (goodS_ok h)
theorem okD_int {n : Nat} {i : Int} : okD n (.int i) = true := by cases n <;> rfl
theorem okAll_cons {n : Nat} {x : PyData} {xs : List PyData} (h : Ab.okD n x = true) (t : okAll n xs = true) : okAll n (x :: xs) = true := by
  show (Ab.okD n x && okAll n xs) = true
  rw [h, t]
  rfl
theorem okD_upTo {n m : Nat} {d : PyData} (h : okD n d = true) (hm : n ≤ m) : okD m d = true := by
  induction hm with
  | refl => exact h
  | step _ ih => exact okD_up ih
theorem ops_ok {op : Str} (h : op ∈ opsC) : PyData.strOk op = true := by
  have : ∀ op ∈ opsC, PyData.strOk op = true := by decide +kernel
  exact this op h
theorem opsI_ok {op : Str} (h : op ∈ opsI) : PyData.strOk op = true := by
  have : ∀ op ∈ opsI, PyData.strOk op = true := by decide +kernel
  exact this op h
theorem eqv_str (x y : Str) : PyData.eqv (.str x) (.str y) = decide (x = y) := by
  simp only [PyData.eqv]
  by_cases e : x = y
  · subst e; simp
  · rw [decide_eq_false e]; exact beq_eq_false_iff_ne.mpr e
theorem eqv_val : ∀ v w : Val, PyData.eqv v.enc w.enc = decide (v = w)
  | .int a, .int b => by
    show PyData.eqv (.int a) (.int b) = _
    rw [eqv_int]
    exact decide_eq_decide.mpr ⟨fun h => by rw [h], fun h => Val.int.inj h⟩
  | .str a, .str b => by
    show PyData.eqv (.str a) (.str b) = _
    rw [eqv_str]
    exact decide_eq_decide.mpr ⟨fun h => by rw [h], fun h => Val.str.inj h⟩
  | .int a, .str b => by
    rw [decide_eq_false (by simp)]
    simp [Val.enc, PyData.eqv]
  | .str a, .int b => by
    rw [decide_eq_false (by simp)]
    simp [Val.enc, PyData.eqv]
theorem eqvAll_map {α : Type} [DecidableEq α] {f : α → PyData} (hf : ∀ x y, PyData.eqv (f x) (f y) = decide (x = y)) : ∀ xs ys : List α, PyData.eqvAll (xs.map f) (ys.map f) = decide (xs = ys)
  | [], [] => by simp [PyData.eqvAll]
  | [], _ :: _ => by simp [PyData.eqvAll]
  | _ :: _, [] => by simp [PyData.eqvAll]
  | x :: xs, y :: ys => by
    rw [List.map_cons, List.map_cons, PyData.eqvAll, hf, eqvAll_map hf xs ys]
    by_cases h1 : x = y <;> by_cases h2 : xs = ys <;> simp [h1, h2]
theorem eqv_row (a b : List Val) : PyData.eqv (encR a) (encR b) = decide (a = b) := by
  show PyData.eqv (.tuple _) (.tuple _) = _
  rw [PyData.eqv, eqvAll_map eqv_val]
section
variable {K : KX} {M : MH} {Q : Sl → MH → Prop}
theorem shaped_str {z : Str} (h : PyData.strOk z = true) : SeqAt.shaped (.str z) = true := okD_shaped (n := 0) (okD_str h) (by decide)
theorem w2_eqS {K : PySem.W.Frag} {x y : Str} (h1 : PyData.strOk x = true) (h2 : PyData.strOk y = true) (q : Q (.bl (decide (x = y))) M) : W2 K (rEqD K) (.dat (.str x)) (.dat (.str y)) M Q := w2_eq (shaped_str h1) (shaped_str h2) (by rw [eqv_str]; exact q)
theorem w2_neS {K : PySem.W.Frag} {x y : Str} (h1 : PyData.strOk x = true) (h2 : PyData.strOk y = true) (q : Q (.bl (!decide (x = y))) M) : W2 K (rNeD K) (.dat (.str x)) (.dat (.str y)) M Q := w2_ne (shaped_str h1) (shaped_str h2) (by rw [eqv_str]; exact q)
theorem w2_eqI {K : PySem.W.Frag} {i j : Int} (q : Q (.bl (decide (i = j))) M) : W2 K (rEqD K) (.dat (.int i)) (.dat (.int j)) M Q := w2_eq (shaped_int i) (shaped_int j) (by rw [eqv_int]; exact q)
theorem w2_neI {K : PySem.W.Frag} {i j : Int} (q : Q (.bl (!decide (i = j))) M) : W2 K (rNeD K) (.dat (.int i)) (.dat (.int j)) M Q := w2_ne (shaped_int i) (shaped_int j) (by rw [eqv_int]; exact q)
theorem ite_d {p : Prop} [Decidable p] {A B : Prop} (h1 : p → A) (h2 : ¬p → B) : if decide p = true then A else B := ite_b (fun h => h1 (of_decide_eq_true h)) (fun h => h2 (of_decide_eq_false h))
theorem ite_n {p : Prop} [Decidable p] {A B : Prop} (h1 : ¬p → A) (h2 : p → B) : if (!decide p) = true then A else B := by
  by_cases h : p
  · rw [decide_eq_true h]; exact h2 h
  · rw [decide_eq_false h]; exact h1 h
theorem w2_ixSAny {K : PySem.W.Frag} {z : Str} {i : Int} (hz : z.length ≤ 1000000) (h0 : 0 ≤ i) (h1 : i < z.length) (q : ∀ c ∈ z.cps.toList, Q (.str ⟨#[c]⟩) M) : W2 K rIxS (.str z) (.int i) M Q := by
  have hi : i.toNat < z.cps.toList.length := by
    have : z.cps.toList.length = z.length := by simp [Str.length]
    omega
  exact w2_ixS (c := z.cps.toList[i.toNat]) hz (atI_ok h0 (List.getElem?_eq_getElem hi)) (q _ (List.getElem_mem hi))
end
def isVal : PyData → Bool
  | .int n => decide (n.natAbs < 10 ^ 30)
  | .str z => goodS z
  | _ => false
theorem isVal_of : ∀ {d : PyData}, isVal d = true → ∃ v : Val, d = v.enc ∧ v.ok
  | .int n, h => ⟨.int n, rfl, show n.natAbs < 10 ^ 30 from of_decide_eq_true h⟩
  | .str z, h => ⟨.str z, rfl, h⟩
def isName : PyData → Bool
  | .str z => goodS z
  | _ => false
theorem isName_of : ∀ {d : PyData}, isName d = true → ∃ z : Str, d = .str z ∧ goodS z = true
  | .str z, h => ⟨z, rfl, h⟩
theorem list_enc {α : Type} {f : α → PyData} {R : α → Prop} : ∀ {ds : List PyData}, (∀ d ∈ ds, ∃ x, d = f x ∧ R x) → ∃ xs : List α, ds = xs.map f ∧ ∀ x ∈ xs, R x
  | [], _ => ⟨[], rfl, fun _ h => nomatch h⟩
  | d :: ds, h => by
    obtain ⟨x, rfl, hx⟩ := h d List.mem_cons_self
    obtain ⟨xs, rfl, hxs⟩ := list_enc (f := f) (R := R) fun e he => h e (List.mem_cons_of_mem _ he)
    refine ⟨x :: xs, rfl, fun y hy => ?_⟩
    rcases List.mem_cons.mp hy with e | hy
    · rw [e]; exact hx
    · exact hxs y hy
theorem join_cps {sep : Str} (hs : sep.cps = #[]) : ∀ ys : List Str, (Str.join sep ys).cps.toList = (ys.map fun z => z.cps.toList).flatten
  | [] => rfl
  | [x] => by simp [Str.join]
  | x :: y :: r => by
    have ih := join_cps hs (y :: r)
    show ((x.cps ++ sep.cps) ++ (Str.join sep (y :: r)).cps).toList = _
    rw [Array.toList_append, Array.toList_append, ih, hs]
    simp
theorem sum_ones {sep : Str} (hs : sep.cps = #[]) : ∀ {ys : List Str}, (∀ z ∈ ys, z.cps.size = 1 ∧ goodS z = true) → (ys.map (·.length)).sum + ys.length * sep.length = ys.length
  | [], _ => by simp
  | z :: r, h => by
    have ih := sum_ones hs (ys := r) fun w hw => h w (List.mem_cons_of_mem _ hw)
    have h0 : sep.length = 0 := by unfold Str.length; rw [hs]; rfl
    have h1 : z.length = 1 := (h z List.mem_cons_self).1
    rw [h0] at ih ⊢
    rw [List.map_cons, List.sum_cons, h1, List.length_cons]
    omega
theorem good_join {sep : Str} {ys : List Str} (hs : sep.cps = #[]) (hl : ys.length ≤ 40) (h : ∀ z ∈ ys, z.cps.size = 1 ∧ goodS z = true) : goodS (Txt.join sep ys) = true := by
  have e : Txt.join sep ys = Str.join sep ys := TL.join_eq sep ys
  rw [e]
  have hc := join_cps hs ys
  have hlen : ∀ ys : List Str, (∀ z ∈ ys, z.cps.size = 1 ∧ goodS z = true) → ((ys.map fun z => z.cps.toList).flatten).length = ys.length := by
    intro ys
    induction ys with
    | nil => intro _; rfl
    | cons z r ih =>
      intro h
      have hz := (h z List.mem_cons_self).1
      rw [List.map_cons, List.flatten_cons, List.length_append, ih fun w hw => h w (List.mem_cons_of_mem _ hw), Array.length_toList, hz, List.length_cons]
      omega
  unfold goodS
  rw [Bool.and_eq_true, List.all_eq_true]
  refine ⟨decide_eq_true ?_, fun c hc' => ?_⟩
  · show (Str.join sep ys).cps.size ≤ 40
    rw [← Array.length_toList, hc, hlen ys h]
    exact hl
  · rw [hc] at hc'
    obtain ⟨l, hl', hcl⟩ := List.mem_flatten.mp hc'
    obtain ⟨z, hz, rfl⟩ := List.mem_map.mp hl'
    have hg := (h z hz).2
    unfold goodS at hg
    rw [Bool.and_eq_true, List.all_eq_true] at hg
    exact hg.2 c hcl
end Ab
set_option Elab.async false
set_option linter.all false
set_option maxRecDepth 1000000
set_option  maxHeartbeats 4000000
namespace Ab
open PySem L2
def vLt : Val → Val → Bool
  | .int a, .int b => decide (a < b)
  | .int _, .str _ => true
  | .str _, .int _ => false
  | .str x, .str y => decide (x.cps.toList < y.cps.toList)
def rLt : List Val → List Val → Bool
  | x :: xs, y :: ys => if x = y then rLt xs ys else vLt x y
  | [], _ :: _ => true
  | _, [] => false
theorem str_eq {x y : Str} (h : x.cps.toList = y.cps.toList) : x = y := by
  have hc : x.cps = y.cps := Array.toList_inj.mp h
  cases x
  cases y
  simp only [Str.mk.injEq]
  exact hc
theorem vLt_irr (v : Val) : vLt v v = false := by
  cases v with
  | int a => exact decide_eq_false (by omega)
  | str x => exact decide_eq_false (List.lt_irrefl _)
/-- of two that differ just one is the less -/
theorem vLt_tri : ∀ {v w : Val}, v ≠ w → vLt w v = !vLt v w
  | .int a, .int b, h => by
    have : a ≠ b := fun e => h (by rw [e])
    show decide (b < a) = !decide (a < b)
    rw [← decide_not]
    exact decide_eq_decide.mpr (by omega)
  | .int _, .str _, _ => rfl
  | .str _, .int _, _ => rfl
  | .str x, .str y, h => by
    have hne : x.cps.toList ≠ y.cps.toList := fun e => h (by rw [str_eq e])
    show decide (y.cps.toList < x.cps.toList) = !decide (x.cps.toList < y.cps.toList)
    rw [← decide_not]
    refine decide_eq_decide.mpr ⟨fun h1 h2 => List.lt_asymm h1 h2, fun h1 => ?_⟩
    rcases Std.lt_trichotomy x.cps.toList y.cps.toList with h' | h' | h'
    · exact absurd h' h1
    · exact absurd h' hne
    · exact h'
theorem rLt_irr : ∀ r : List Val, rLt r r = false
  | [] => rfl
  | x :: xs => by
    show (if x = x then rLt xs xs else vLt x x) = false
    rw [if_pos rfl, rLt_irr xs]
theorem rLt_tri : ∀ {a b : List Val}, a ≠ b → rLt b a = !rLt a b
  | [], [], h => absurd rfl h
  | [], _ :: _, _ => rfl
  | _ :: _, [], _ => rfl
  | x :: xs, y :: ys, h => by
    show (if y = x then rLt ys xs else vLt y x) = !(if x = y then rLt xs ys else vLt x y)
    by_cases e : x = y
    · subst e
      rw [if_pos rfl, if_pos rfl]
      exact rLt_tri fun e => h (by rw [e])
    · rw [if_neg e, if_neg (Ne.symm e)]
      exact vLt_tri e
theorem rLt_pre : ∀ (p a b : List Val), rLt (p ++ a) (p ++ b) = rLt a b
  | [], _, _ => rfl
  | x :: p, a, b => by
    show (if x = x then rLt (p ++ a) (p ++ b) else vLt x x) = _
    rw [if_pos rfl, rLt_pre p a b]
/-- -1, 0, 1 -/
def ordR (a b : List Val) : Int := if a = b then 0 else if rLt a b then -1 else 1
/-- the first place that differs -/
theorem ordR_at {p xs ys : List Val} {v w : Val} (h : vLt v w = true) : ordR (p ++ v :: xs) (p ++ w :: ys) = -1 ∧ ordR (p ++ w :: ys) (p ++ v :: xs) = 1 := by
  have hne : v ≠ w := fun e => by rw [e, vLt_irr] at h; cases h
  have h1 : rLt (p ++ v :: xs) (p ++ w :: ys) = true := by
    rw [rLt_pre]
    show (if v = w then rLt xs ys else vLt v w) = true
    rw [if_neg hne]
    exact h
  have h2 : p ++ v :: xs ≠ p ++ w :: ys := fun e => hne (List.cons.inj (List.append_cancel_left e)).1
  unfold ordR
  rw [if_neg h2, if_neg (Ne.symm h2), rLt_tri h2, h1]
  exact ⟨rfl, rfl⟩
theorem ordR_pre {a b : List Val} (h : ∀ j, j < a.length → j < b.length → a[j]? = b[j]?) : ordR a b = (if decide (b.length < a.length) then 1 else 0) - (if decide (a.length < b.length) then 1 else 0) := by
  rcases Nat.lt_trichotomy a.length b.length with hl | hl | hl
  · have e : b = a ++ b.drop a.length := by
      apply List.ext_getElem?
      intro j
      by_cases hj : j < a.length
      · rw [List.getElem?_append_left hj]
        exact (h j hj (by omega)).symm
      · rw [List.getElem?_append_right (by omega), List.getElem?_drop]
        congr 1
        omega
    obtain ⟨y, ys, ey⟩ : ∃ y ys, b.drop a.length = y :: ys := by
      cases hd : b.drop a.length with
      | nil => rw [List.drop_eq_nil_iff] at hd; omega
      | cons y ys => exact ⟨y, ys, rfl⟩
    have h1 : rLt a b = true := by
      rw [e, ey]
      have := rLt_pre a [] (y :: ys)
      rw [List.append_nil] at this
      rw [this]
      rfl
    have h2 : a ≠ b := fun e => by rw [e] at hl; omega
    unfold ordR
    rw [if_neg h2, h1, decide_eq_true hl, decide_eq_false (by omega)]
    rfl
  · have e : a = b := List.ext_getElem? fun j => by
      by_cases hj : j < a.length
      · exact h j hj (by omega)
      · rw [List.getElem?_eq_none (by omega), List.getElem?_eq_none (by omega)]
    subst e
    simp [ordR]
  · have e : a = b ++ a.drop b.length := by
      apply List.ext_getElem?
      intro j
      by_cases hj : j < b.length
      · rw [List.getElem?_append_left hj]
        exact h j (by omega) hj
      · rw [List.getElem?_append_right (by omega), List.getElem?_drop]
        congr 1
        omega
    obtain ⟨y, ys, ey⟩ : ∃ y ys, a.drop b.length = y :: ys := by
      cases hd : a.drop b.length with
      | nil => rw [List.drop_eq_nil_iff] at hd; omega
      | cons y ys => exact ⟨y, ys, rfl⟩
    have h1 : rLt b a = true := by
      rw [e, ey]
      have := rLt_pre b [] (y :: ys)
      rw [List.append_nil] at this
      rw [this]
      rfl
    have h2 : b ≠ a := fun e => by rw [e] at hl; omega
    have h3 := rLt_tri h2
    rw [h1] at h3
    unfold ordR
    have d2 : decide (a.length < b.length) = false := decide_eq_false (by omega)
    rw [if_neg (Ne.symm h2), h3, d2, decide_eq_true hl]
    rfl
theorem cmpOks_map {α β : Type} {f : α → PyData} {g : β → PyData} (hf : ∀ x y, cmpOk (f x) (g y) = true) : ∀ (xs : List α) (ys : List β), cmpOks (xs.map f) (ys.map g) = true
  | [], _ => by simp [cmpOks]
  | _ :: _, [] => by simp [cmpOks]
  | x :: xs, y :: ys => by
    rw [List.map_cons, List.map_cons, cmpOks, hf, cmpOks_map hf xs ys]
    split <;> rfl
theorem cmpVs_lt {f : Val → PyData} (he : ∀ x y, PyData.eqv (f x) (f y) = decide (x = y)) (hl : ∀ x y, cmpV .Lt (f x) (f y) = vLt x y) : ∀ xs ys : List Val, cmpVs .Lt (decide (xs.length < ys.length)) (xs.map f) (ys.map f) = rLt xs ys
  | [], [] => by simp [cmpVs, rLt]
  | [], _ :: _ => by simp [cmpVs, rLt]
  | _ :: _, [] => by simp [cmpVs, rLt]
  | x :: xs, y :: ys => by
    have ih := cmpVs_lt he hl xs ys
    have e : decide ((x :: xs).length < (y :: ys).length) = decide (xs.length < ys.length) := decide_eq_decide.mpr (by simp)
    rw [e, List.map_cons, List.map_cons, cmpVs, he, ih, hl]
    show _ = if x = y then rLt xs ys else vLt x y
    by_cases h : x = y
    · rw [if_pos h, decide_eq_true h, if_pos rfl]
    · rw [if_neg h, decide_eq_false h, if_neg Bool.false_ne_true]
end Ab
set_option Elab.async false
set_option linter.all false
set_option maxRecDepth 1000000
set_option  maxHeartbeats 4000000
namespace Ab
open PySem L2
def tagV : Val → Int
  | .int _ => 0
  | .str _ => 1
def vkey (v : Val) : PyData := .tuple [.int (tagV v), v.enc]
def rkey (row : List Val) : PyData := .tuple (row.map vkey)
structure IKey where
  s : Int
  n : Str
  row : List Val
def IKey.enc (k : IKey) : PyData := .tuple [.int k.s, .str k.n, encR k.row]
def keyOf : Item → IKey
  | .relation n _ => ⟨0, n, []⟩
  | .fact n row => ⟨1, n, row⟩
  | .rule n _ _ _ => ⟨2, n, []⟩
  | .denial n _ => ⟨3, n, []⟩
def IKey.ok (k : IKey) : Prop := goodS k.n = true ∧ okR k.row
theorem key_ok : ∀ {it : Item}, it.ok → (keyOf it).ok
  | .relation _ _, h => ⟨h.1, Nat.zero_le _, fun _ h => nomatch h⟩
  | .fact _ _, h => ⟨h.1, h.2.1⟩
  | .rule _ _ _ _, h => ⟨h.1, Nat.zero_le _, fun _ h => nomatch h⟩
  | .denial _ _, h => ⟨h.1, Nat.zero_le _, fun _ h => nomatch h⟩
theorem eqv_vkey (v w : Val) : PyData.eqv (vkey v) (vkey w) = decide (v = w) := by
  unfold vkey
  simp only [PyData.eqv, PyData.eqvAll, eqv_val, Bool.and_true]
  by_cases h : v = w
  · subst h; simp
  · simp [h]
theorem ok_vkey : ∀ v w : Val, cmpOk (vkey v) (vkey w) = true
  | .int _, .int _ => by simp [vkey, cmpOk, cmpOks, tagV, eqv_int, Val.enc]
  | .int _, .str _ => by simp [vkey, cmpOk, cmpOks, tagV, eqv_int, Val.enc]
  | .str _, .int _ => by simp [vkey, cmpOk, cmpOks, tagV, eqv_int, Val.enc]
  | .str _, .str _ => by simp [vkey, cmpOk, cmpOks, tagV, eqv_int, Val.enc]
theorem lt_vkey : ∀ v w : Val, cmpV .Lt (vkey v) (vkey w) = vLt v w
  | .int a, .int b => by
    simp only [vkey, cmpV, cmpVs, tagV, eqv_int, Val.enc, cmpI, cmpN, vLt, List.length_cons, List.length_nil]
    by_cases h : a = b <;> simp [h]
  | .int _, .str _ => by simp [vkey, cmpV, cmpVs, tagV, eqv_int, Val.enc, cmpI, vLt]
  | .str _, .int _ => by simp [vkey, cmpV, cmpVs, tagV, eqv_int, Val.enc, cmpI, vLt]
  | .str x, .str y => by
    simp only [vkey, cmpV, cmpVs, tagV, eqv_int, eqv_str, Val.enc, cmpI, cmpS, cmpN, vLt, List.length_cons, List.length_nil]
    by_cases h : x = y
    · subst h; simp
    · simp [h]
theorem ok_rkey (a b : List Val) : cmpOk (rkey a) (rkey b) = true := by
  show cmpOks _ _ = true
  exact cmpOks_map ok_vkey a b
theorem lt_rkey (a b : List Val) : cmpV .Lt (rkey a) (rkey b) = rLt a b := by
  have := cmpVs_lt eqv_vkey lt_vkey a b
  unfold rkey
  rw [cmpV]
  simpa [cmpN] using this
/-- the order of keys -/
def hdLt (k l : IKey) : Bool := if k.s = l.s then decide (k.n.cps.toList < l.n.cps.toList) else decide (k.s < l.s)
def ordK (k l : IKey) : Int := if k.s = l.s ∧ k.n = l.n then ordR k.row l.row else if hdLt k l then -1 else 1
end Ab
set_option Elab.async false
set_option linter.all false
set_option maxRecDepth 1000000
set_option  maxHeartbeats 4000000
namespace Ab
open PySem PyProof.Rows L2
theorem vLt_trans : ∀ (a b c : Val), vLt a b = true → vLt b c = true → vLt a c = true
  | .int a, .int b, .int c, h1, h2 => by
    have h1 := of_decide_eq_true h1
    have h2 := of_decide_eq_true h2
    exact decide_eq_true (by omega)
  | .int _, .int _, .str _, _, _ => rfl
  | .int _, .str _, .str _, _, _ => rfl
  | .int _, .str _, .int _, _, h => nomatch h
  | .str _, .int _, _, h, _ => nomatch h
  | .str _, .str _, .int _, _, h => nomatch h
  | .str a, .str b, .str c, h1, h2 => decide_eq_true (List.lt_trans (of_decide_eq_true h1) (of_decide_eq_true h2))
theorem rLt_trans : ∀ (a b c : List Val), rLt a b = true → rLt b c = true → rLt a c = true
  | [], [], _, h, _ => nomatch h
  | _ :: _, [], _, h, _ => nomatch h
  | _, _ :: _, [], _, h => nomatch h
  | [], _ :: _, _ :: _, _, _ => rfl
  | x :: xs, y :: ys, z :: zs, h1, h2 => by
    have h1' : (if x = y then rLt xs ys else vLt x y) = true := h1
    have h2' : (if y = z then rLt ys zs else vLt y z) = true := h2
    show (if x = z then rLt xs zs else vLt x z) = true
    by_cases e1 : x = y
    · subst e1
      rw [if_pos rfl] at h1'
      by_cases e2 : x = z
      · rw [if_pos e2] at h2' ⊢
        exact rLt_trans xs ys zs h1' h2'
      · rw [if_neg e2] at h2' ⊢
        exact h2'
    · rw [if_neg e1] at h1'
      by_cases e2 : y = z
      · subst e2
        rw [if_neg e1]
        exact h1'
      · rw [if_neg e2] at h2'
        have h3 := vLt_trans _ _ _ h1' h2'
        have e3 : x ≠ z := fun e => by rw [e, vLt_irr] at h3; cases h3
        rw [if_neg e3]
        exact h3
/-- the order of rows -/
def rowO : KeyOrd where
  α := List Val
  blt := rLt
  irrefl := rLt_irr
  trans := rLt_trans
  negTrans := fun a b c h => by
    by_cases e : a = b
    · subst e; exact .inr h
    · cases h1 : rLt a b with
      | true => exact .inl rfl
      | false =>
        have h2 := rLt_tri e
        rw [h1] at h2
        exact .inr (rLt_trans b a c h2 h)
  total := fun a b h1 h2 => Classical.byContradiction fun e => by
    have := rLt_tri e
    rw [h1, h2] at this
    cases this
theorem vkey_inj {v w : Val} (h : vkey v = vkey w) : v = w := by
  unfold vkey at h
  injection h with h
  injection h with _ h
  injection h with h _
  exact Val.enc_inj h
theorem rkey_inj {a b : List Val} (h : rkey a = rkey b) : a = b := by
  unfold rkey at h
  injection h with h
  induction a generalizing b with
  | nil =>
    cases b with
    | nil => rfl
    | cons _ _ => cases h
  | cons x xs ih =>
    cases b with
    | nil => cases h
    | cons y ys =>
      rw [List.map_cons, List.map_cons] at h
      injection h with h1 h2
      rw [vkey_inj h1, ih h2]
theorem fit_rows {rs : List (List Val)} (h : ∀ r ∈ rs, SeqAt.shaped (rkey r) = true) : KeyFit rowO rkey (.type "tuple") rs where
  cmp := fun r hr r' hr' => ⟨ok_rkey r r', lt_rkey r r', rkey_inj⟩
  tup := fun r hr => by
    refine ⟨h r hr, _, rfl, fun x t e => ?_⟩
    cases r with
    | nil => cases e
    | cons v vs => cases e; rfl
  typ := .inr rfl
def sortR (rs : List (List Val)) : List (List Val) := rs.mergeSort (leK rowO)
theorem sortR_mem {rs : List (List Val)} {r : List Val} : r ∈ sortR rs ↔ r ∈ rs := (List.mergeSort_perm _ _).mem_iff
theorem sortR_len (rs : List (List Val)) : (sortR rs).length = rs.length := (List.mergeSort_perm _ _).length_eq
structure Rul where
  rel : Str
  hd : List Term
  b : List Lit
  deriving DecidableEq
def Rul.enc (r : Rul) : PyData := .tuple [.str r.rel, encT r.hd, encB r.b]
/-- the content of a state: relations, facts, rules, denials, as the dicts hold them -/
structure Ct where
  rel : List (Str × Int)
  fac : List (Str × List (List Val))
  rul : List (Str × Rul)
  den : List (Str × List Lit)
def rowsOf (c : Ct) (n : Str) : List (List Val) := (valG c.fac n).getD []
def Ct.sRel (c : Ct) (x : List (Str × Int)) : Ct := { c with rel := x }
def Ct.sFac (c : Ct) (x : List (Str × List (List Val))) : Ct := { c with fac := x }
def Ct.sRul (c : Ct) (x : List (Str × Rul)) : Ct := { c with rul := x }
def Ct.sDen (c : Ct) (x : List (Str × List Lit)) : Ct := { c with den := x }
def Ct.put (c : Ct) : Item → Ct
  | .relation n w => c.sRel (putG c.rel n w)
  | .rule n rel hd b => c.sRul (putG c.rul n ⟨rel, hd, b⟩)
  | .denial n b => c.sDen (putG c.den n b)
  | .fact n row => if row ∈ rowsOf c n then c else c.sFac (putG c.fac n (rowsOf c n ++ [row]))
def Ct.names (c : Ct) : List Str := sortT (c.rel.map (·.1) ++ (c.fac.map (·.1)).filter fun n => decide (0 < (rowsOf c n).length))
def Ct.tidy (c : Ct) : Ct := c.sFac (mergeG [] (c.names.map fun n => (n, sortR (rowsOf c n))))
def ct0 : Ct := ⟨[], [], [], []⟩
/-- dicts with keys that are texts -/
theorem valG_inr {β γ : Type} (f : β → γ) (z : Str) : ∀ kvs : List (Str × β), valG (kvs.map fun p => ((.inr p.1 : Key), f p.2)) (.inr z) = (valG kvs z).map f
  | [] => rfl
  | (a, x) :: r => by
    rw [List.map_cons, valG_cons, valG_cons, valG_inr f z r]
    by_cases e : a = z
    · subst e; simp
    · rw [if_neg e, if_neg fun h => e (Sum.inr.inj h)]
theorem any_inr {β γ : Type} (f : β → γ) (z : Str) : ∀ kvs : List (Str × β), ((kvs.map fun p => ((.inr p.1 : Key), f p.2)).any fun kv => decide (kv.1 = .inr z)) = kvs.any fun kv => decide (kv.1 = z)
  | [] => rfl
  | (a, x) :: r => by
    rw [List.map_cons, List.any_cons, List.any_cons, any_inr f z r]
    by_cases e : a = z
    · subst e; simp
    · rw [decide_eq_false e, decide_eq_false fun h => e (Sum.inr.inj h)]
theorem putG_inr {β γ : Type} (f : β → γ) (z : Str) (x : β) (kvs : List (Str × β)) : putG (kvs.map fun p => ((.inr p.1 : Key), f p.2)) (.inr z) (f x) = (putG kvs z x).map fun p => ((.inr p.1 : Key), f p.2) := by
  unfold putG
  rw [any_inr]
  cases h : kvs.any fun kv => decide (kv.1 = z) with
  | true =>
    rw [if_pos rfl, if_pos rfl, List.map_map, List.map_map]
    refine List.map_congr_left fun p _ => ?_
    show (if (Sum.inr p.1 : Key) = .inr z then ((.inr p.1 : Key), f x) else ((.inr p.1 : Key), f p.2)) = ((.inr ((if p.1 = z then (p.1, x) else p) : Str × β).1 : Key), f ((if p.1 = z then (p.1, x) else p) : Str × β).2)
    by_cases e : p.1 = z
    · rw [if_pos e, if_pos (by rw [e])]
    · rw [if_neg e, if_neg fun h => e (Sum.inr.inj h)]
  | false => rw [if_neg Bool.false_ne_true, if_neg Bool.false_ne_true, List.map_append]; rfl
theorem putG_keys {κ β : Type} [DecidableEq κ] (kvs : List (κ × β)) (k : κ) (v : β) : (putG kvs k v).map (·.1) = if k ∈ kvs.map (·.1) then kvs.map (·.1) else kvs.map (·.1) ++ [k] := by
  unfold putG
  cases h : kvs.any fun kv => decide (kv.1 = k) with
  | true =>
    obtain ⟨p, hp, e⟩ := List.any_eq_true.mp h
    rw [if_pos rfl, if_pos (List.mem_map.mpr ⟨p, hp, of_decide_eq_true e⟩), List.map_map]
    refine List.map_congr_left fun q _ => ?_
    show (if q.1 = k then (q.1, v) else q).1 = q.1
    split <;> rfl
  | false =>
    rw [if_neg Bool.false_ne_true, if_neg, List.map_append]
    · rfl
    · rintro hk
      obtain ⟨p, hp, e⟩ := List.mem_map.mp hk
      have : (kvs.any fun kv => decide (kv.1 = k)) = true := List.any_eq_true.mpr ⟨p, hp, decide_eq_true e⟩
      rw [h] at this
      cases this
theorem putG_len {κ β : Type} [DecidableEq κ] (l : List (κ × β)) (k : κ) (v : β) : (putG l k v).length ≤ l.length + 1 := by
  unfold putG
  split
  · rw [List.length_map]; omega
  · rw [List.length_append]; exact Nat.le_refl _
theorem mergeG_len {κ β : Type} [DecidableEq κ] : ∀ (ws l : List (κ × β)), (mergeG l ws).length ≤ l.length + ws.length
  | [], l => Nat.le_refl _
  | p :: ws, l => by
    have h1 := mergeG_len ws (putG l p.1 p.2)
    have h2 := putG_len l p.1 p.2
    show (mergeG (putG l p.1 p.2) ws).length ≤ l.length + (ws.length + 1)
    omega
theorem valG_isSome {κ β : Type} [DecidableEq κ] (k : κ) : ∀ kvs : List (κ × β), (valG kvs k).isSome = decide (k ∈ kvs.map (·.1))
  | [] => by simp [valG]
  | (a, x) :: r => by
    rw [valG_cons, List.map_cons]
    by_cases e : a = k
    · subst e; simp
    · rw [if_neg e, valG_isSome k r]
      have : ¬ k = a := fun h => e h.symm
      simp [this]
theorem putG_nodup {κ β : Type} [DecidableEq κ] {kvs : List (κ × β)} (h : (kvs.map (·.1)).Nodup) (k : κ) (v : β) : ((putG kvs k v).map (·.1)).Nodup := by
  rw [putG_keys]
  split
  · exact h
  · rename_i hk
    exact List.nodup_append.mpr ⟨h, List.pairwise_singleton .., fun a ha b hb e => hk (by rw [← List.mem_singleton.mp hb, ← e]; exact ha)⟩
end Ab
namespace Ab
open PySem PyProof.Rows L2
theorem valG_mem {κ β : Type} [DecidableEq κ] {k : κ} {x : β} : ∀ {kvs : List (κ × β)}, valG kvs k = some x → (k, x) ∈ kvs
  | [], h => nomatch h
  | (a, y) :: r, h => by
    rw [valG_cons] at h
    by_cases e : a = k
    · rw [if_pos e] at h
      cases h
      subst e
      exact List.mem_cons_self ..
    · rw [if_neg e] at h
      exact List.mem_cons_of_mem _ (valG_mem h)
/-- what may stand in a state -/
structure CtOk (c : Ct) : Prop where
  rel : ∀ p ∈ c.rel, goodS p.1 = true ∧ 0 ≤ p.2 ∧ p.2 ≤ 1000
  fac : ∀ p ∈ c.fac, goodS p.1 = true ∧ (∀ r ∈ p.2, okR r ∧ r ≠ []) ∧ p.2.length ≤ 1000
  rul : ∀ p ∈ c.rul, (Item.rule p.1 p.2.rel p.2.hd p.2.b).ok
  den : ∀ p ∈ c.den, (Item.denial p.1 p.2).ok
  sz : c.rel.length ≤ 1000 ∧ c.fac.length ≤ 1000 ∧ c.rul.length ≤ 1000 ∧ c.den.length ≤ 1000
theorem CtOk.row {c : Ct} (h : CtOk c) {n : Str} : (∀ r ∈ rowsOf c n, okR r ∧ r ≠ []) ∧ (rowsOf c n).length ≤ 1000 := by
  unfold rowsOf
  cases hv : valG c.fac n with
  | none => exact ⟨fun _ h => (nomatch h), Nat.zero_le _⟩
  | some x => exact (h.fac _ (valG_mem hv)).2
theorem mergeG_snoc {κ β : Type} [DecidableEq κ] (l ws : List (κ × β)) (p : κ × β) : mergeG l (ws ++ [p]) = putG (mergeG l ws) p.1 p.2 := by
  unfold mergeG
  rw [List.foldl_append]
  rfl
theorem sortT_len (ks : List Str) : (sortT ks).length = ks.length := (List.mergeSort_perm _ _).length_eq
theorem sortT_mem {ks : List Str} {k : Str} : k ∈ sortT ks ↔ k ∈ ks := (List.mergeSort_perm _ _).mem_iff
def puts (its : List Item) : Ct := its.foldl Ct.put ct0
theorem puts_snoc (its : List Item) (it : Item) : puts (its ++ [it]) = (puts its).put it := by
  unfold puts
  rw [List.foldl_append]
  rfl
end Ab
set_option Elab.async false
set_option linter.all false
set_option maxRecDepth 1000000
set_option  maxHeartbeats 4000000
namespace Ab
open PySem PyProof.Rows L2
def placedI (os : List Item) (it : Item) : List Item := os.filter (fun x => decide (ordK (keyOf x) (keyOf it) < 0)) ++ [it] ++ os.filter (fun x => decide (0 < ordK (keyOf x) (keyOf it)))
def orderd (its : List Item) : List Item := its.foldl placedI []
theorem orderd_snoc (its : List Item) (it : Item) : orderd (its ++ [it]) = placedI (orderd its) it := by
  unfold orderd
  rw [List.foldl_append]
  rfl
theorem placed_ok {os : List Item} {it : Item} (h : ∀ x ∈ os, x.ok) (hi : it.ok) : ∀ x ∈ placedI os it, x.ok := fun x hx => by
  rcases List.mem_append.mp hx with hx | hx
  · rcases List.mem_append.mp hx with hx | hx
    · exact h x (List.mem_filter.mp hx).1
    · rw [List.mem_singleton.mp hx]; exact hi
  · exact h x (List.mem_filter.mp hx).1
theorem filter_two {α : Type} (f g : α → Bool) (h : ∀ x, f x = true → g x = true → False) : ∀ l : List α, (l.filter f).length + (l.filter g).length ≤ l.length
  | [] => Nat.le_refl _
  | x :: l => by
    have ih := filter_two f g h l
    rw [List.filter_cons, List.filter_cons, List.length_cons]
    cases e1 : f x with
    | true =>
      cases e2 : g x with
      | true => exact (h x e1 e2).elim
      | false => rw [if_pos rfl, if_neg Bool.false_ne_true, List.length_cons]; omega
    | false =>
      cases e2 : g x with
      | true => rw [if_neg Bool.false_ne_true, if_pos rfl, List.length_cons]; omega
      | false => rw [if_neg Bool.false_ne_true, if_neg Bool.false_ne_true]; omega
theorem placed_len (os : List Item) (it : Item) : (placedI os it).length ≤ os.length + 1 := by
  have := filter_two (fun x => decide (ordK (keyOf x) (keyOf it) < 0)) (fun x => decide (0 < ordK (keyOf x) (keyOf it))) (fun x h1 h2 => by
    have h1 := of_decide_eq_true h1
    have h2 := of_decide_eq_true h2
    omega) os
  unfold placedI
  rw [List.length_append, List.length_append, List.length_singleton]
  omega
theorem orderd_len : ∀ its : List Item, (orderd its).length ≤ its.length := by
  have key : ∀ (its os : List Item), (its.foldl placedI os).length ≤ os.length + its.length := by
    intro its
    induction its with
    | nil => intro os; exact Nat.le_refl _
    | cons x xs ih =>
      intro os
      have h1 := ih (placedI os x)
      have h2 := placed_len os x
      rw [List.foldl_cons, List.length_cons]
      omega
  intro its
  have := key its []
  rw [List.length_nil, Nat.zero_add] at this
  exact this
theorem orderd_ok {its : List Item} (h : ∀ x ∈ its, x.ok) : ∀ x ∈ orderd its, x.ok := by
  have key : ∀ (its os : List Item), (∀ x ∈ its, x.ok) → (∀ x ∈ os, x.ok) → ∀ x ∈ its.foldl placedI os, x.ok := by
    intro its
    induction its with
    | nil => intro os _ h; exact h
    | cons y ys ih =>
      intro os h1 h2
      exact ih (placedI os y) (fun x hx => h1 x (List.mem_cons_of_mem _ hx)) (placed_ok h2 (h1 y (List.mem_cons_self ..)))
  exact key its [] h fun _ h => nomatch h
section
variable {K : KX} {ρ : Rho} {M : MH} {Q : Sl → MH → Prop} {tl te : TE} {tt : TT}
theorem WT.imp {Q Q' : Bool → MH → Prop} (h : WT K tt ρ M Q) (i : ∀ b M', Q b M' → Q' b M') : WT K tt ρ M Q' := fun σ B H hR hS Q0 k => h σ B H hR hS Q0 fun b M' B' H' q => k b M' B' H' (i b M' q)
/-- [g(x) for x in xs if f(x)], nothing else is touched -/
theorem w_lcF {α : Type} {enc : α → PyData} {xs : List α} {j : Nat} {vs : List Nat} {M1 : MH} (hj : j ∈ vs) (hl : W K tl ρ M fun s M2 => s = .dat (.list (xs.map enc)) ∧ M2 = M1) (hz : xs.length ≤ 1000000) (f : α → Bool) (g : α → PyData)
    (ht : ∀ x D o, x ∈ xs → M1 D = none → WT K tt ((wipeR ρ vs).set j (some (.dat (enc x)))) (um M1 D o) fun b M' => b = f x ∧ M' = um M1 D o)
    (he : ∀ x D o, x ∈ xs → f x = true → M1 D = none → W K te ((wipeR ρ vs).set j (some (.dat (enc x)))) (um M1 D o) fun s M' => s = .dat (g x) ∧ M' = um M1 D o) (q : Q (.dat (.list ((xs.filter f).map g))) M1) : W K (tLc (iList K.K tl) (gName j) tt te vs) ρ M Q :=
  w_lc hj (wi_list (hl.imp fun s M2 ⟨e1, e2⟩ => by
    subst e1 e2
    refine ⟨_, lsv_dat, fun i acc M' => M' = M2 ∧ acc = ((xs.take i).filter f).map g, ⟨rfl, by simp⟩, fun _ _ _ _ _ _ _ _ => lsv_dat, fun i acc M' D hi ⟨eM, ea⟩ hD => ?_, fun acc M' ⟨eM, ea⟩ => ?_⟩
    · subst eM ea
      have hi' : i < xs.length := by simpa using hi
      show WT K tt ((wipeR ρ vs).set j (some (((xs.map enc).map Sl.dat).getD i .non))) _ _
      rw [getD_map hi']
      refine WT.imp (ht xs[i] D _ (List.getElem_mem hi') hD) fun b M3 ⟨e1, e2⟩ => ?_
      subst e1 e2
      have hn : xs.take (i + 1) = xs.take i ++ [xs[i]] := List.take_succ_eq_append_getElem hi'
      cases hf : f xs[i] with
      | true =>
        rw [if_pos rfl]
        show W K te ((wipeR ρ vs).set j (some (((xs.map enc).map Sl.dat).getD i .non))) _ _
        rw [getD_map hi']
        refine (he xs[i] D _ (List.getElem_mem hi') hf hD).imp fun s M4 ⟨e1, e2⟩ => ⟨g xs[i], _, e1, e2, hD, ?_, rfl, ?_⟩
        · have := List.length_filter_le f (xs.take i)
          rw [List.length_map]
          rw [List.length_take] at this
          omega
        · rw [hn, List.filter_append, List.map_append, List.filter_cons, if_pos hf]
          rfl
      | false =>
        rw [if_neg Bool.false_ne_true]
        refine ⟨_, rfl, hD, rfl, ?_⟩
        rw [hn, List.filter_append, List.map_append, List.filter_cons, if_neg (by rw [hf]; exact Bool.false_ne_true)]
        simp
    · subst eM ea
      rw [List.length_map, List.length_map, List.take_length]
      exact q))
end
end Ab
namespace Ab
open PySem PyProof.Rows L2
def stD (d : List (Str × List Lit)) : Item → List (Str × List Lit)
  | .denial n b => putG d n b
  | _ => d
def lD (os : List Item) := os.foldl stD []
end Ab
namespace Ab
open PySem PyProof.Rows L2
/-- a tuple of anything -/
theorem w_tupS {K : KX} {ρ : Rho} {M : MH} {Q : Sl → MH → Prop} {t : TA} (h : WA K t ρ M fun xs M1 => xs.length ≤ 1000000 ∧ Q (tupS K.K xs) M1) : W K (tTup t) ρ M Q := fun σ B H hR hS Q0 k =>
  h σ B H hR hS _ fun xs vs M1 B1 H1 ⟨hl, q⟩ e1 S1 o1 => by
    have hlen := SlAll.len o1
    exact ⟨Nat.le_trans (by omega) (show 1000000 ≤ sizeLine by decide), fun p hp => k _ _ M1 (upd B1 p (.tup vs)) _ q (e1.trans (same_new (S1.freeB hp))) (S1.alloc hp) ⟨p, vs, rfl, SqT.of upd_same, SlAll.mono (same_new (S1.freeB hp)) o1⟩⟩
end Ab
set_option Elab.async false
set_option linter.all false
set_option maxRecDepth 1000000
set_option  maxHeartbeats 4000000
namespace Ab
open PySem PyProof.Rows L2
/-- backwards along a list -/
theorem snoc_ind {α : Type} {p : List α → Prop} (h0 : p []) (hs : ∀ xs x, p xs → p (xs ++ [x])) (xs : List α) : p xs := by
  have key : ∀ n (xs : List α), xs.length = n → p xs := by
    intro n
    induction n with
    | zero => intro xs h; rw [List.length_eq_zero_iff] at h; rw [h]; exact h0
    | succ n ih =>
      intro xs h
      have hne : xs ≠ [] := fun e => by rw [e] at h; cases h
      rw [← List.dropLast_concat_getLast hne]
      exact hs _ _ (ih _ (by rw [List.length_dropLast, h]; rfl))
  exact key _ xs rfl
end Ab
set_option Elab.async false
set_option linter.all false
set_option maxRecDepth 1000000
set_option  maxHeartbeats 4000000
namespace Ab
open PySem PyProof.Rows L2
theorem putG_mem {κ β : Type} [DecidableEq κ] {l : List (κ × β)} {k : κ} {v : β} {p : κ × β} (h : p ∈ putG l k v) : p = (k, v) ∨ p ∈ l := by
  unfold putG at h
  split at h
  · obtain ⟨q, hq, e⟩ := List.mem_map.mp h
    split at e
    · rename_i e2
      rw [← e, e2]
      exact .inl rfl
    · rw [← e]
      exact .inr hq
  · rcases List.mem_append.mp h with h | h
    · exact .inr h
    · exact .inl (List.mem_singleton.mp h)
theorem valG_nodup {κ β : Type} [DecidableEq κ] {k : κ} {x : β} : ∀ {l : List (κ × β)}, (l.map (·.1)).Nodup → (k, x) ∈ l → valG l k = some x
  | [], _, h => nomatch h
  | (a, y) :: r, hn, h => by
    rw [List.map_cons, List.nodup_cons] at hn
    rw [valG_cons]
    rcases List.mem_cons.mp h with e | h
    · injection e with e1 e2
      rw [if_pos e1.symm, e2]
    · rw [if_neg fun e => hn.1 (by show a ∈ _; rw [e]; exact List.mem_map.mpr ⟨_, h, rfl⟩), valG_nodup hn.2 h]
theorem mem_keys {κ β : Type} [DecidableEq κ] {k : κ} {l : List (κ × β)} : k ∈ l.map (·.1) ↔ ∃ x, valG l k = some x := by
  have z := valG_isSome k l
  constructor
  · intro h
    rw [decide_eq_true h] at z
    cases hv : valG l k with
    | none => rw [hv] at z; cases z
    | some x => exact ⟨x, rfl⟩
  · rintro ⟨x, hx⟩
    rw [hx] at z
    exact of_decide_eq_true z.symm
/-- what stands in a state made of at most n items -/
structure CtN (c : Ct) (n : Nat) : Prop where
  nr : (c.rel.map (·.1)).Nodup
  nf : (c.fac.map (·.1)).Nodup
  nu : (c.rul.map (·.1)).Nodup
  nd : (c.den.map (·.1)).Nodup
  rel : ∀ p ∈ c.rel, goodS p.1 = true ∧ 0 ≤ p.2 ∧ p.2 ≤ 1000
  fac : ∀ p ∈ c.fac, goodS p.1 = true ∧ (∀ r ∈ p.2, okR r ∧ r ≠ []) ∧ p.2.length ≤ n ∧ p.2.Nodup
  rul : ∀ p ∈ c.rul, (Item.rule p.1 p.2.rel p.2.hd p.2.b).ok
  den : ∀ p ∈ c.den, (Item.denial p.1 p.2).ok
  sz : c.rel.length + c.fac.length + c.rul.length + c.den.length ≤ n
theorem CtN.rows {c : Ct} {n : Nat} (h : CtN c n) (z : Str) : (∀ r ∈ rowsOf c z, okR r ∧ r ≠ []) ∧ (rowsOf c z).length ≤ n ∧ (rowsOf c z).Nodup := by
  unfold rowsOf
  cases hv : valG c.fac z with
  | none => exact ⟨fun _ h => (nomatch h), Nat.zero_le _, List.nodup_nil⟩
  | some x => exact (h.fac _ (valG_mem hv)).2
theorem CtN.up {c : Ct} {n : Nat} (h : CtN c n) : CtN c (n + 1) := ⟨h.nr, h.nf, h.nu, h.nd, h.rel, fun p hp => by obtain ⟨h1, h2, h3, h4⟩ := h.fac p hp; exact ⟨h1, h2, Nat.le_succ_of_le h3, h4⟩, h.rul, h.den, Nat.le_succ_of_le h.sz⟩
theorem CtN.put {c : Ct} {n : Nat} {it : Item} (h : CtN c n) (hi : it.ok) : CtN (c.put it) (n + 1) := by
  have sz := h.sz
  have hu := h.up
  cases it with
  | relation m w =>
    have l1 := putG_len c.rel m w
    exact ⟨putG_nodup h.nr _ _, hu.nf, hu.nu, hu.nd, fun p hp => (putG_mem hp).elim (fun e => by rw [e]; exact hi) (h.rel p), hu.fac, hu.rul, hu.den, by show (putG c.rel m w).length + c.fac.length + c.rul.length + c.den.length ≤ _; omega⟩
  | rule m rel hd b =>
    have l1 := putG_len c.rul m ⟨rel, hd, b⟩
    exact ⟨hu.nr, hu.nf, putG_nodup h.nu _ _, hu.nd, hu.rel, hu.fac, fun p hp => (putG_mem hp).elim (fun e => by rw [e]; exact hi) (h.rul p), hu.den, by show c.rel.length + c.fac.length + (putG c.rul m ⟨rel, hd, b⟩).length + c.den.length ≤ _; omega⟩
  | denial m b =>
    have l1 := putG_len c.den m b
    exact ⟨hu.nr, hu.nf, hu.nu, putG_nodup h.nd _ _, hu.rel, hu.fac, hu.rul, fun p hp => (putG_mem hp).elim (fun e => by rw [e]; exact hi) (h.den p), by show c.rel.length + c.fac.length + c.rul.length + (putG c.den m b).length ≤ _; omega⟩
  | fact m row =>
    show CtN (if row ∈ rowsOf c m then c else c.sFac (putG c.fac m (rowsOf c m ++ [row]))) (n + 1)
    split
    · exact hu
    · rename_i hn
      have l1 := putG_len c.fac m (rowsOf c m ++ [row])
      obtain ⟨r1, r2, r3⟩ := h.rows m
      refine ⟨hu.nr, putG_nodup h.nf _ _, hu.nu, hu.nd, hu.rel, fun p hp => (putG_mem hp).elim (fun e => ?_) (hu.fac p), hu.rul, hu.den, by show c.rel.length + (putG c.fac m (rowsOf c m ++ [row])).length + c.rul.length + c.den.length ≤ _; omega⟩
      rw [e]
      refine ⟨hi.1, fun r hr => (List.mem_append.mp hr).elim (r1 r) fun z => by rw [List.mem_singleton.mp z]; exact hi.2, by rw [List.length_append]; exact Nat.succ_le_succ r2, List.nodup_append.mpr ⟨r3, List.pairwise_singleton .., fun a ha b hb e => hn (by rw [← List.mem_singleton.mp hb, ← e]; exact ha)⟩⟩
theorem CtN.ok {c : Ct} {n : Nat} (h : CtN c n) (hn : n ≤ 1000) : CtOk c := by
  have sz := h.sz
  exact ⟨h.rel, fun p hp => by obtain ⟨h1, h2, h3, _⟩ := h.fac p hp; exact ⟨h1, h2, Nat.le_trans h3 hn⟩, h.rul, h.den, by omega, by omega, by omega, by omega⟩
theorem valG_merge {β : Type} (f : Str → β) (z : Str) (ns : List Str) : valG (mergeG [] (ns.map fun n => (n, f n))) z = if z ∈ ns then some (f z) else none := by
  refine snoc_ind (p := fun ns => valG (mergeG [] (ns.map fun n => (n, f n))) z = if z ∈ ns then some (f z) else none) rfl (fun xs x ih => ?_) ns
  rw [List.map_append]
  show valG (mergeG [] (xs.map (fun n => (n, f n)) ++ [(x, f x)])) z = _
  rw [mergeG_snoc, valG_put, ih]
  by_cases e : x = z
  · subst e
    rw [if_pos rfl, if_pos (List.mem_append_right _ (List.mem_singleton.mpr rfl))]
  · rw [if_neg e]
    by_cases h : z ∈ xs
    · rw [if_pos h, if_pos (List.mem_append_left _ h)]
    · rw [if_neg h, if_neg fun hz => (List.mem_append.mp hz).elim h fun q => e (List.mem_singleton.mp q).symm]
theorem nodup_merge {κ β : Type} [DecidableEq κ] (ws l : List (κ × β)) (h : (l.map (·.1)).Nodup) : ((mergeG l ws).map (·.1)).Nodup := by
  refine snoc_ind (p := fun ws => ((mergeG l ws).map (·.1)).Nodup) h (fun xs x ih => ?_) ws
  rw [mergeG_snoc]
  exact putG_nodup ih _ _
theorem mem_names {c : Ct} {n : Str} : n ∈ c.names ↔ n ∈ c.rel.map (·.1) ∨ rowsOf c n ≠ [] := by
  unfold Ct.names
  rw [sortT_mem, List.mem_append, List.mem_filter, decide_eq_true_eq]
  constructor
  · rintro (h | ⟨_, h⟩)
    · exact .inl h
    · exact .inr fun e => by rw [e] at h; cases h
  · rintro (h | h)
    · exact .inl h
    · refine .inr ⟨?_, List.length_pos_iff.mpr h⟩
      refine mem_keys.mpr ?_
      unfold rowsOf at h
      cases hv : valG c.fac n with
      | none => rw [hv] at h; exact absurd rfl h
      | some x => exact ⟨x, rfl⟩
theorem valG_tidy (c : Ct) (n : Str) : valG c.tidy.fac n = if n ∈ c.names then some (sortR (rowsOf c n)) else none := valG_merge (fun n => sortR (rowsOf c n)) n c.names
theorem names_len (c : Ct) : c.names.length ≤ c.rel.length + c.fac.length := by
  unfold Ct.names
  rw [sortT_len, List.length_append, List.length_map]
  have := List.length_filter_le (fun n => decide (0 < (rowsOf c n).length)) (c.fac.map (·.1))
  rw [List.length_map] at this
  omega
theorem CtN.tidy {c : Ct} {n : Nat} (h : CtN c n) : CtN c.tidy (2 * n) := by
  have l1 := names_len c
  have l2 := mergeG_len (c.names.map fun z => (z, sortR (rowsOf c z))) []
  rw [List.length_map, List.length_nil] at l2
  have sz := h.sz
  refine ⟨h.nr, nodup_merge _ _ List.nodup_nil, h.nu, h.nd, h.rel, fun p hp => ?_, h.rul, h.den, ?_⟩
  · have hv := valG_nodup (nodup_merge (c.names.map fun z => (z, sortR (rowsOf c z))) [] List.nodup_nil) hp
    have e := valG_tidy c p.1
    unfold Ct.tidy Ct.sFac at e
    dsimp only at e
    rw [e] at hv
    split at hv
    · rename_i hm
      injection hv with hv
      obtain ⟨r1, r2, r3⟩ := h.rows p.1
      refine ⟨?_, ?_, ?_, ?_⟩
      · rcases mem_names.mp hm with hm | hm
        · obtain ⟨x, hx⟩ := mem_keys.mp hm
          exact (h.rel _ (valG_mem hx)).1
        · unfold rowsOf at hm
          cases hv : valG c.fac p.1 with
          | none => rw [hv] at hm; exact absurd rfl hm
          | some x => exact (h.fac _ (valG_mem hv)).1
      · intro r hr
        rw [← hv] at hr
        exact r1 r (sortR_mem.mp hr)
      · rw [← hv, sortR_len]; omega
      · rw [← hv]
        exact (List.mergeSort_perm _ _).nodup_iff.mpr r3
    · cases hv
  · show c.rel.length + (mergeG [] (c.names.map fun z => (z, sortR (rowsOf c z)))).length + c.rul.length + c.den.length ≤ _
    omega
end Ab
set_option Elab.async false
set_option linter.all false
set_option maxRecDepth 1000000
set_option  maxHeartbeats 4000000
namespace Ab
open PySem PyProof.Rows L2
end Ab
set_option Elab.async false
set_option linter.all false
set_option maxRecDepth 1000000
set_option  maxHeartbeats 4000000
namespace Ab
open PySem L2
abbrev Prs (α : Type) := List Int → Option (α × List Int)
def Prs.ret {α : Type} (x : α) : Prs α := fun D => some (x, D)
def Prs.thn {α β : Type} (p : Prs α) (f : α → Prs β) : Prs β := fun D => match p D with
  | none => none
  | some (x, r) => f x r
def pNeed (b : Bool) : Prs Unit := fun D => if b = true then some ((), D) else none
def pLen : Prs Int := fun D => some ((D.length : Int), D)
def pByte (c : Int) : Prs Int
  | [] => none
  | b :: r => if b < c then some (b, r) else none
def pNumF : Nat → Int → Int → Bool → Prs Int
  | 0, _, _, _ => fun _ => none
  | k + 1, t, f, first => Prs.thn (pByte 256) fun b => if b < 128 then Prs.thn (pNeed (decide (b > 0) || first)) fun _ => Prs.ret (t + b % 128 * f) else pNumF k (t + b % 128 * f) (f * 128) false
def pNum : Prs Int := pNumF 60 0 1 true
def pCount : Prs Int := Prs.thn pNum fun n => Prs.thn pLen fun k => Prs.thn (pNeed (decide (n ≤ k))) fun _ => Prs.ret n
def pRep {α : Type} (p : Prs α) : Nat → Prs (List α)
  | 0 => Prs.ret []
  | n + 1 => Prs.thn p fun x => Prs.thn (pRep p n) fun xs => Prs.ret (x :: xs)
def pList {α : Type} (p : Prs α) : Prs (List α) := Prs.thn pCount fun n => pRep p n.toNat
def pChar : Prs Nat := Prs.thn (pByte 127) fun b => Prs.thn (pNeed (decide (b ≥ 32) && !decide (b = 37))) fun _ => Prs.ret b.toNat
def pStr : Prs Str := Prs.thn (pList pChar) fun cs => Prs.ret ⟨cs.toArray⟩
def pVal : Prs Val := Prs.thn (pByte 2) fun b => if b = 1 then Prs.thn pStr fun z => Prs.ret (.str z) else
  Prs.thn (pByte 2) fun s => Prs.thn pNum fun n => Prs.thn (pNeed (decide (n > 0) || !decide (s = 1))) fun _ => Prs.ret (.int (if s = 1 then -n else n))
def pRow : Prs (List Val) := pList pVal
def pTerm : Prs Term := Prs.thn (pByte 3) fun b => if b = 0 then Prs.thn pVal fun v => Prs.ret (.value v) else if b = 1 then Prs.thn pStr fun z => Prs.ret (.variable z) else Prs.ret .any
def pTerms : Prs (List Term) := pList pTerm
def pLit : Prs Lit := Prs.thn (pByte 5) fun b =>
  if b = 2 then Prs.thn (pByte 6) fun o => Prs.thn pTerm fun s => Prs.thn pTerm fun t => Prs.ret (.compare (opsC.getD o.toNat "") s t) else
  Prs.thn pStr fun n => if b = 3 then Prs.thn (pByte 3) fun o => Prs.thn pTerm fun s => Prs.thn pTerm fun t => Prs.ret (.is n (opsI.getD o.toNat "") s t) else
  if b = 4 then Prs.thn pStr fun r => Prs.thn pTerms fun ts => Prs.ret (.count n r ts) else Prs.thn pTerms fun ts => Prs.ret (if b = 0 then .fact n ts else .neg n ts)
def pBody : Prs (List Lit) := pList pLit
def pItem : Prs Item := Prs.thn (pByte 4) fun b => Prs.thn pStr fun n =>
  if b = 0 then Prs.thn pNum fun w => Prs.ret (.relation n w) else if b = 1 then Prs.thn pRow fun row => Prs.ret (.fact n row) else
  if b = 2 then Prs.thn pStr fun r => Prs.thn pTerms fun ts => Prs.thn pBody fun bd => Prs.ret (.rule n r ts bd) else Prs.thn pBody fun bd => Prs.ret (.denial n bd)
/-- a change, with any key -/
inductive Chk where
  | comes (it : Item)
  | goes (k : IKey)
def Chk.enc : Chk → PyData
  | .comes it => .tuple [.str "comes", it.enc]
  | .goes k => .tuple [.str "goes", k.enc]
def pChg : Prs Chk := Prs.thn (pByte 2) fun b => if b = 0 then Prs.thn pItem fun it => Prs.ret (.comes it) else
  Prs.thn (pByte 4) fun s => Prs.thn pStr fun n => Prs.thn pRow fun row => Prs.ret (.goes ⟨s, n, row⟩)
def pChgs : Prs (List Chk) := pList pChg
def pImg : Prs (Int × List Item) := Prs.thn pNum fun c => Prs.thn (pList pItem) fun its => Prs.ret (c, its)
def cnF : Nat → Nat → List Int
  | 0, n => [(n : Int)]
  | k + 1, n => if 127 < n then (128 + (n : Int) % 128) :: cnF k (n / 128) else [(n : Int)]
def cN (n : Int) : List Int := cnF 59 n.toNat
def cL (ps : List (List Int)) : List Int := cN ps.length ++ ps.flatten
def cS (z : Str) : List Int := cL (z.cps.toList.map fun c : Nat => [(c : Int)])
def cV : Val → List Int
  | .int n => [0, if n < 0 then 1 else 0] ++ cN n.natAbs
  | .str z => [1] ++ cS z
def cR (row : List Val) : List Int := cL (row.map cV)
def cT : Term → List Int
  | .any => [2]
  | .value v => [0] ++ cV v
  | .variable z => [1] ++ cS z
def cTs (ts : List Term) : List Int := cL (ts.map cT)
def cLit : Lit → List Int
  | .fact r ts => [0] ++ cS r ++ cTs ts
  | .neg r ts => [1] ++ cS r ++ cTs ts
  | .compare op s t => [2, (opsC.idxOf op : Int)] ++ cT s ++ cT t
  | .is x op s t => [3] ++ cS x ++ [(opsI.idxOf op : Int)] ++ cT s ++ cT t
  | .count x r ts => [4] ++ cS x ++ cS r ++ cTs ts
def cB (b : List Lit) : List Int := cL (b.map cLit)
def cI : Item → List Int
  | .relation n w => [0] ++ cS n ++ cN w
  | .fact n row => [1] ++ cS n ++ cR row
  | .rule n r ts b => [2] ++ cS n ++ cS r ++ cTs ts ++ cB b
  | .denial n b => [3] ++ cS n ++ cB b
def cC : Chk → List Int
  | .comes it => [0] ++ cI it
  | .goes k => [1, k.s] ++ cS k.n ++ cR k.row
def cCs (cs : List Chk) : List Int := cL (cs.map cC)
theorem cnF_len : ∀ (k n : Nat), 1 ≤ (cnF k n).length ∧ (cnF k n).length ≤ k + 1
  | 0, n => ⟨Nat.le_refl _, Nat.le_refl _⟩
  | k + 1, n => by
    have := cnF_len k (n / 128)
    unfold cnF
    split
    · rw [List.length_cons]; omega
    · rw [List.length_singleton]; omega
theorem cnF_len' : ∀ (k n j : Nat), n < 128 ^ (j + 1) → (cnF k n).length ≤ j + 1
  | 0, n, j, _ => by show 1 ≤ j + 1; omega
  | k + 1, n, 0, h => by
    unfold cnF
    rw [if_neg (by simpa using Nat.not_lt.mpr (Nat.le_of_lt_succ h))]
    exact Nat.le_refl _
  | k + 1, n, j + 1, h => by
    unfold cnF
    split
    · have := cnF_len' k (n / 128) j (Nat.div_lt_of_lt_mul (by rw [Nat.pow_succ, Nat.mul_comm] at h; exact h))
      rw [List.length_cons]; omega
    · rw [List.length_singleton]; omega
theorem cnF_fuel : ∀ (k j n : Nat), n < 128 ^ (k + 1) → n < 128 ^ (j + 1) → cnF k n = cnF j n
  | 0, 0, _, _, _ => rfl
  | 0, j + 1, n, h, _ => by
    show [(n : Int)] = if 127 < n then _ else _
    rw [if_neg (by simpa using Nat.not_lt.mpr (Nat.le_of_lt_succ h))]
  | k + 1, 0, n, _, h => by
    show (if 127 < n then _ else _) = [(n : Int)]
    rw [if_neg (by simpa using Nat.not_lt.mpr (Nat.le_of_lt_succ h))]
  | k + 1, j + 1, n, h1, h2 => by
    unfold cnF
    rw [cnF_fuel k j (n / 128) (Nat.div_lt_of_lt_mul (by rw [Nat.pow_succ, Nat.mul_comm] at h1; exact h1)) (Nat.div_lt_of_lt_mul (by rw [Nat.pow_succ, Nat.mul_comm] at h2; exact h2))]
/-- bytes -/
def Byt (D : List Int) : Prop := ∀ b ∈ D, 0 ≤ b ∧ b < 256
theorem byt_nil : Byt [] := fun _ h => nomatch h
theorem byt_cons {b : Int} {D : List Int} (h0 : 0 ≤ b) (h1 : b < 256) (h : Byt D) : Byt (b :: D) := fun c hc => by
  rcases List.mem_cons.mp hc with rfl | hc
  · exact ⟨h0, h1⟩
  · exact h c hc
theorem byt_app {D E : List Int} (h : Byt D) (h' : Byt E) : Byt (D ++ E) := fun c hc => (List.mem_append.mp hc).elim (h c) (h' c)
theorem byt_cnF : ∀ (k n : Nat), n < 128 ^ (k + 1) → Byt (cnF k n)
  | 0, n, h => byt_cons (by omega) (by have : n < 128 := by simpa using h
                                       omega) byt_nil
  | k + 1, n, h => by
    unfold cnF
    split
    · exact byt_cons (by omega) (by omega) (byt_cnF k (n / 128) (Nat.div_lt_of_lt_mul (by rw [Nat.pow_succ, Nat.mul_comm] at h; exact h)))
    · exact byt_cons (by omega) (by omega) byt_nil
theorem byt_flat {ps : List (List Int)} (h : ∀ p ∈ ps, Byt p) : Byt ps.flatten := fun c hc => by
  obtain ⟨p, hp, hc⟩ := List.mem_flatten.mp hc
  exact h p hp c hc
theorem len_flat (m : Nat) : ∀ {ps : List (List Int)}, (∀ p ∈ ps, p.length ≤ m) → ps.flatten.length ≤ ps.length * m
  | [], _ => by simp
  | p :: ps, h => by
    have h1 := h p List.mem_cons_self
    have h2 := len_flat m (ps := ps) fun q hq => h q (List.mem_cons_of_mem _ hq)
    rw [List.flatten_cons, List.length_append, List.length_cons, Nat.succ_mul]
    omega
theorem len_flat1 : ∀ {ps : List (List Int)}, (∀ p ∈ ps, 1 ≤ p.length) → ps.length ≤ ps.flatten.length
  | [], _ => by simp
  | p :: ps, h => by
    have h1 := h p List.mem_cons_self
    have h2 := len_flat1 (ps := ps) fun q hq => h q (List.mem_cons_of_mem _ hq)
    rw [List.flatten_cons, List.length_append, List.length_cons]
    omega
def Rt {α : Type} (p : Prs α) (D : List Int) (x : α) : Prop := ∀ r, p (D ++ r) = some (x, r)
theorem Rt.ret {α : Type} {x : α} : Rt (Prs.ret x) [] x := fun _ => rfl
theorem Rt.thn {α β : Type} {p : Prs α} {f : α → Prs β} {D E : List Int} {x : α} {y : β} (h : Rt p D x) (h' : Rt (f x) E y) : Rt (Prs.thn p f) (D ++ E) y := fun r => by
  unfold Prs.thn
  rw [List.append_assoc, h (E ++ r)]
  exact h' r
theorem Rt.thn0 {α β : Type} {p : Prs α} {f : α → Prs β} {D : List Int} {x : α} {y : β} (h : Rt p D x) (h' : Rt (f x) [] y) : Rt (Prs.thn p f) D y := by
  have := h.thn h'
  rwa [List.append_nil] at this
theorem Rt.map {α β : Type} {p : Prs α} {g : α → β} {D : List Int} {x : α} (h : Rt p D x) : Rt (Prs.thn p fun x => Prs.ret (g x)) D (g x) := h.thn0 Rt.ret
theorem lenC_pos (n : Int) : 1 ≤ (cN n).length := (cnF_len _ _).1
theorem lenL_pos (ps : List (List Int)) : 1 ≤ (cL ps).length := by
  unfold cL
  have := lenC_pos ps.length
  rw [List.length_append]
  omega
theorem good_char {z : Str} (h : goodS z = true) {c : Nat} (hc : c ∈ z.cps.toList) : 32 ≤ c ∧ c < 127 ∧ c ≠ 37 := by
  unfold goodS at h
  rw [Bool.and_eq_true, List.all_eq_true] at h
  have := h.2 c hc
  simp only [Bool.and_eq_true, decide_eq_true_eq] at this
  exact ⟨this.1.1, this.1.2, this.2⟩
theorem good_len {z : Str} (h : goodS z = true) : z.cps.toList.length ≤ 40 := by
  unfold goodS at h
  rw [Bool.and_eq_true] at h
  have := of_decide_eq_true h.1
  unfold Str.length at this
  simpa using this
theorem big30 : (10 : Nat) ^ 30 < 128 ^ 15 := by decide +kernel
theorem big60 : (128 : Nat) ^ 15 < 128 ^ 60 := by decide +kernel
theorem lenV_pos (v : Val) : 1 ≤ (cV v).length := by cases v <;> simp [cV]
theorem big1000 {n : Nat} (h : n ≤ 1000) : n < 128 ^ 60 := Nat.lt_of_le_of_lt h (by decide +kernel)
theorem opsC_at {op : Str} (h : op ∈ opsC) : opsC.idxOf op < 6 ∧ opsC.getD (opsC.idxOf op) "" = op := by
  have : ∀ op ∈ opsC, opsC.idxOf op < 6 ∧ opsC.getD (opsC.idxOf op) "" = op := by decide +kernel
  exact this op h
theorem opsI_at {op : Str} (h : op ∈ opsI) : opsI.idxOf op < 3 ∧ opsI.getD (opsI.idxOf op) "" = op := by
  have : ∀ op ∈ opsI, opsI.idxOf op < 3 ∧ opsI.getD (opsI.idxOf op) "" = op := by decide +kernel
  exact this op h
theorem lenI_pos (t : Item) : 1 ≤ (cI t).length := by cases t <;> simp [cI]
def Chk.ok : Chk → Prop
  | .comes it => it.ok
  | .goes k => k.ok ∧ 0 ≤ k.s ∧ k.s < 4
theorem lenN_le {n : Int} (h : n < 10 ^ 30) : (cN n).length ≤ 15 := by
  have : n.toNat < 128 ^ 15 := Nat.lt_trans (show n.toNat < 10 ^ 30 by omega) big30
  exact cnF_len' 59 _ 14 this
theorem lenN2_le {n : Int} (h : n < 16384) : (cN n).length ≤ 2 := cnF_len' 59 _ 1 (by omega)
theorem lenL_le {α : Type} {code : α → List Int} {xs : List α} {m k : Nat} (hk : xs.length ≤ k) (hk2 : k < 16384) (h : ∀ x ∈ xs, (code x).length ≤ m) : (cL (xs.map code)).length ≤ 2 + k * m := by
  unfold cL
  rw [List.length_append, List.length_map]
  have h1 := lenN2_le (n := xs.length) (by omega)
  have h2 := len_flat m (ps := xs.map code) fun p hp => by
    obtain ⟨x, hx, rfl⟩ := List.mem_map.mp hp
    exact h x hx
  rw [List.length_map] at h2
  have h3 := Nat.mul_le_mul_right m hk
  omega
theorem lenS_le {z : Str} (h : goodS z = true) : (cS z).length ≤ 42 := lenL_le (code := fun c : Nat => [(c : Int)]) (xs := z.cps.toList) (k := 40) (m := 1) (good_len h) (by omega) fun _ _ => Nat.le_refl _
theorem lenV_le : ∀ {v : Val}, v.ok → (cV v).length ≤ 43
  | .int n, h => by
    have h' : n.natAbs < 10 ^ 30 := h
    have h1 := lenN_le (n := n.natAbs) (by omega)
    show ([0, _] ++ cN n.natAbs).length ≤ _
    rw [List.length_append, List.length_cons, List.length_singleton]
    omega
  | .str z, h => by
    have h1 := lenS_le h
    show ([1] ++ cS z).length ≤ _
    rw [List.length_append, List.length_singleton]
    omega
theorem lenR_le {row : List Val} {k : Nat} (h : okR row) (hk : row.length ≤ k) (hk2 : k < 16384) : (cR row).length ≤ 2 + k * 43 := lenL_le hk hk2 fun v hv => lenV_le (h.2 v hv)
theorem lenT_le : ∀ {t : Term}, t.ok → (cT t).length ≤ 44
  | .any, _ => by show 1 ≤ 44; omega
  | .value v, h => by
    have h1 := lenV_le h
    show ([0] ++ cV v).length ≤ _
    rw [List.length_append, List.length_singleton]
    omega
  | .variable z, h => by
    have h1 := lenS_le h
    show ([1] ++ cS z).length ≤ _
    rw [List.length_append, List.length_singleton]
    omega
theorem lenTs_le {ts : List Term} (h : okTs ts) (hk : ts.length ≤ 5) : (cTs ts).length ≤ 222 := lenL_le hk (by omega) fun v hv => lenT_le (h.2 v hv)
/-- few terms -/
def Lit.sm : Lit → Prop
  | .fact _ ts => ts.length ≤ 5
  | .neg _ ts => ts.length ≤ 5
  | .count _ _ ts => ts.length ≤ 5
  | _ => True
theorem lenLit_le : ∀ {l : Lit}, l.ok → l.sm → (cLit l).length ≤ 310
  | .fact r ts, h, hs => by
    have h1 := lenS_le h.1
    have h2 := lenTs_le h.2 hs
    show ([0] ++ cS r ++ cTs ts).length ≤ _
    rw [List.length_append, List.length_append, List.length_singleton]
    omega
  | .neg r ts, h, hs => by
    have h1 := lenS_le h.1
    have h2 := lenTs_le h.2 hs
    show ([1] ++ cS r ++ cTs ts).length ≤ _
    rw [List.length_append, List.length_append, List.length_singleton]
    omega
  | .compare op s t, h, _ => by
    have h1 := lenT_le h.2.1
    have h2 := lenT_le h.2.2
    show ([2, _] ++ cT s ++ cT t).length ≤ _
    rw [List.length_append, List.length_append, List.length_cons, List.length_singleton]
    omega
  | .is x op s t, h, _ => by
    have h0 := lenS_le h.1
    have h1 := lenT_le h.2.2.1
    have h2 := lenT_le h.2.2.2
    show ([3] ++ cS x ++ [_] ++ cT s ++ cT t).length ≤ _
    rw [List.length_append, List.length_append, List.length_append, List.length_append, List.length_singleton, List.length_singleton]
    omega
  | .count x r ts, h, hs => by
    have h0 := lenS_le h.1
    have h1 := lenS_le h.2.1
    have h2 := lenTs_le h.2.2 hs
    show ([4] ++ cS x ++ cS r ++ cTs ts).length ≤ _
    rw [List.length_append, List.length_append, List.length_append, List.length_singleton]
    omega
def smB (b : List Lit) : Prop := b.length ≤ 5 ∧ ∀ l ∈ b, l.sm
theorem lenB_le {b : List Lit} (h : okB b) (hs : smB b) : (cB b).length ≤ 1552 := lenL_le hs.1 (by omega) fun v hv => lenLit_le (h.2 v hv) (hs.2 v hv)
def Item.sm : Item → Prop
  | .relation _ _ => True
  | .fact _ row => row.length ≤ 6
  | .rule _ _ ts b => ts.length ≤ 5 ∧ smB b
  | .denial _ b => smB b
theorem lenI_le : ∀ {it : Item}, it.ok → it.sm → (cI it).length ≤ 2000
  | .relation n w, h, _ => by
    have h1 := lenS_le h.1
    have h2 := lenN_le (n := w) (Int.lt_of_le_of_lt h.2.2 (by decide +kernel))
    show ([0] ++ cS n ++ cN w).length ≤ _
    rw [List.length_append, List.length_append, List.length_singleton]
    omega
  | .fact n row, h, hs => by
    have h1 := lenS_le h.1
    have h2 := lenR_le h.2.1 hs (by omega)
    show ([1] ++ cS n ++ cR row).length ≤ _
    rw [List.length_append, List.length_append, List.length_singleton]
    omega
  | .rule n r ts b, h, hs => by
    have h1 := lenS_le h.1
    have h2 := lenS_le h.2.1
    have h3 := lenTs_le h.2.2.1 hs.1
    have h4 := lenB_le h.2.2.2 hs.2
    show ([2] ++ cS n ++ cS r ++ cTs ts ++ cB b).length ≤ _
    rw [List.length_append, List.length_append, List.length_append, List.length_append, List.length_singleton]
    omega
  | .denial n b, h, hs => by
    have h1 := lenS_le h.1
    have h4 := lenB_le h.2 hs
    show ([3] ++ cS n ++ cB b).length ≤ _
    rw [List.length_append, List.length_append, List.length_singleton]
    omega
def Chk.sm : Chk → Prop
  | .comes it => it.sm
  | .goes k => k.row.length ≤ 6
theorem lenK_le : ∀ {c : Chk}, c.ok → c.sm → (cC c).length ≤ 2001
  | .comes it, h, hs => by
    have := lenI_le h hs
    show ([0] ++ cI it).length ≤ _
    rw [List.length_append, List.length_singleton]
    omega
  | .goes k, h, hs => by
    have h1 := lenS_le h.1.1
    have h2 := lenR_le h.1.2 hs (by omega)
    show ([1, _] ++ cS k.n ++ cR k.row).length ≤ _
    rw [List.length_append, List.length_append, List.length_cons, List.length_singleton]
    omega
theorem lenCs_le {cs : List Chk} (h : ∀ c ∈ cs, c.ok ∧ c.sm) (hl : cs.length ≤ 130) : (cCs cs).length ≤ 270000 := by
  have := lenL_le (code := cC) (m := 2001) hl (by omega) fun c hc => lenK_le (h c hc).1 (h c hc).2
  exact Nat.le_trans this (by omega)
theorem byt_N {n : Int} (h : n < 128 ^ 60) : Byt (cN n) := byt_cnF 59 _ (by omega)
theorem byt_L {α : Type} {code : α → List Int} {xs : List α} (hl : xs.length < 128 ^ 60) (h : ∀ x ∈ xs, Byt (code x)) : Byt (cL (xs.map code)) := byt_app (byt_N (by rw [List.length_map]; omega)) (byt_flat fun p hp => by
  obtain ⟨x, hx, rfl⟩ := List.mem_map.mp hp
  exact h x hx)
theorem byt_1 {b : Int} (h0 : 0 ≤ b := by omega) (h1 : b < 256 := by omega) : Byt [b] := byt_cons h0 h1 byt_nil
theorem byt_S {z : Str} (h : goodS z = true) : Byt (cS z) := byt_L (code := fun c : Nat => [(c : Int)]) (xs := z.cps.toList) (Nat.lt_of_le_of_lt (good_len h) (by decide +kernel)) fun c hc => by
  obtain ⟨h1, h2, h3⟩ := good_char h hc
  exact byt_1
theorem byt_V : ∀ {v : Val}, v.ok → Byt (cV v)
  | .int n, h => byt_app (byt_cons (by omega) (by omega) (byt_1 (by split <;> omega) (by split <;> omega))) (byt_N (by
    have h' : n.natAbs < 10 ^ 30 := h
    have := Nat.lt_trans (Nat.lt_trans h' big30) big60
    omega))
  | .str z, h => byt_app byt_1 (byt_S h)
theorem byt_R {row : List Val} (h : okR row) : Byt (cR row) := byt_L (big1000 h.1) fun v hv => byt_V (h.2 v hv)
theorem byt_T : ∀ {t : Term}, t.ok → Byt (cT t)
  | .any, _ => byt_1
  | .value v, h => byt_app byt_1 (byt_V h)
  | .variable z, h => byt_app byt_1 (byt_S h)
theorem byt_Ts {ts : List Term} (h : okTs ts) : Byt (cTs ts) := byt_L (big1000 h.1) fun v hv => byt_T (h.2 v hv)
theorem byt_Lit : ∀ {l : Lit}, l.ok → Byt (cLit l)
  | .fact r ts, h => byt_app (byt_app byt_1 (byt_S h.1)) (byt_Ts h.2)
  | .neg r ts, h => byt_app (byt_app byt_1 (byt_S h.1)) (byt_Ts h.2)
  | .compare op s t, h => byt_app (byt_app (byt_cons (by omega) (by omega) (byt_1 (by omega) (by have := (opsC_at h.1).1; omega))) (byt_T h.2.1)) (byt_T h.2.2)
  | .is x op s t, h => byt_app (byt_app (byt_app (byt_app byt_1 (byt_S h.1)) (byt_1 (by omega) (by have := (opsI_at h.2.1).1; omega))) (byt_T h.2.2.1)) (byt_T h.2.2.2)
  | .count x r ts, h => byt_app (byt_app (byt_app byt_1 (byt_S h.1)) (byt_S h.2.1)) (byt_Ts h.2.2)
theorem byt_B {b : List Lit} (h : okB b) : Byt (cB b) := byt_L (big1000 h.1) fun v hv => byt_Lit (h.2 v hv)
theorem byt_I : ∀ {it : Item}, it.ok → Byt (cI it)
  | .relation n w, h => byt_app (byt_app byt_1 (byt_S h.1)) (byt_N (Int.lt_of_le_of_lt h.2.2 (by decide +kernel)))
  | .fact n row, h => byt_app (byt_app byt_1 (byt_S h.1)) (byt_R h.2.1)
  | .rule n r ts b, h => byt_app (byt_app (byt_app (byt_app byt_1 (byt_S h.1)) (byt_S h.2.1)) (byt_Ts h.2.2.1)) (byt_B h.2.2.2)
  | .denial n b, h => byt_app (byt_app byt_1 (byt_S h.1)) (byt_B h.2)
theorem byt_C : ∀ {c : Chk}, c.ok → Byt (cC c)
  | .comes it, h => byt_app byt_1 (byt_I h)
  | .goes k, h => byt_app (byt_app (byt_cons (by omega) (by omega) (byt_1 h.2.1 (by have := h.2.2; omega))) (byt_S h.1.1)) (byt_R h.1.2)
theorem byt_Cs {cs : List Chk} (h : ∀ c ∈ cs, c.ok) (hl : cs.length ≤ 1000) : Byt (cCs cs) := byt_L (big1000 hl) fun c hc => byt_C (h c hc)
end Ab
set_option Elab.async false
set_option linter.all false
set_option maxRecDepth 100000
set_option  maxHeartbeats 4000000
namespace Ab
open PySem PySem.Spec PyProof.Rows L2
section
variable {K : KX} {ρ : Rho} {M : MH} {Q : Sl → MH → Prop} {te : TE} {tc : TT} {tb : TS} {nx bk ct : Rho → MH → Prop} {rt : Sl → MH → Prop}
/-- while, what is left told by a number -/
theorem ws_while (J : Nat → Rho → MH → Prop) (h0 : ∃ m, J m ρ M)
    (hs : ∀ m ρ' M', J m ρ' M' → WT K tc ρ' M' fun b M2 => if b = true then WS K tb ρ' M2 ⟨fun ρ3 M3 => ∃ m', m' < m ∧ J m' ρ3 M3, rt, nx, fun ρ3 M3 => ∃ m', m' < m ∧ J m' ρ3 M3⟩ else nx ρ' M2) : WS K (tWhile tc tb) ρ M ⟨nx, rt, bk, ct⟩ := fun σ B H D hR hS a b c d => by
  obtain ⟨m0, j0⟩ := h0
  refine ⟨fun m σ' H' => ∃ ρ' M' B', J m ρ' M' ∧ Same B B' ∧ Rl K B' σ' ρ' ∧ Sep K B' M' H', ⟨m0, ρ, M, B, j0, Same.refl _, hR, hS⟩, ?_⟩
  rintro m σ' H' ⟨ρ', M', B', hj, e, R, S⟩
  refine hs m ρ' M' hj σ' B' H' R S _ fun k M2 B2 H2 q e2 S2 => ?_
  have e02 := e.trans e2
  cases k with
  | true =>
    rw [if_pos rfl] at q ⊢
    refine ⟨fun σ3 H3 => ∃ m', m' < m ∧ ∃ ρ3 M3 B3, J m' ρ3 M3 ∧ Same B B3 ∧ Rl K B3 σ3 ρ3 ∧ Sep K B3 M3 H3, fun σ3 H3 z => z, ?_⟩
    exact q σ' B2 H2 _ (R.mono e2) S2 (fun ρ3 M3 σ3 B3 H3 ⟨m', hm, j3⟩ e3 R3 S3 => ⟨m', hm, ρ3, M3, B3, j3, e02.trans e3, R3, S3⟩) (fun s v M3 B3 H3 q3 e3 => b s v M3 B3 H3 q3 (e02.trans e3))
      (fun ρ3 M3 σ3 B3 H3 q3 e3 => a ρ3 M3 σ3 B3 H3 q3 (e02.trans e3)) (fun ρ3 M3 σ3 B3 H3 ⟨m', hm, j3⟩ e3 R3 S3 => ⟨m', hm, ρ3, M3, B3, j3, e02.trans e3, R3, S3⟩)
  | false =>
    rw [if_neg Bool.false_ne_true] at q ⊢
    exact a ρ' M2 σ' B2 H2 q e02 (R.mono e2) S2
/-- for c in text -/
theorem wi_str {R : Nat → (Nat → Sl) → (MH → Prop) → MH → Prop} (h : W K te ρ M fun s M1 => ∃ x : Str, s = .str x ∧ R x.cps.size (fun i => .str ⟨#[x.cps.getD i 0]⟩) (fun _ => True) M1) : WI K (iStr te) ρ M R := fun σ B H hR hS R0 k =>
  h σ B H hR hS _ fun s v M1 B1 H1 ⟨x, es, q⟩ e1 S1 o1 => by
    subst es
    obtain rfl := of_str o1
    refine ⟨x, rfl, k x.cps.size _ _ M1 B1 H1 _ q e1 S1 ⟨fun i B2 M2 H2 hi e2 S2 st => hi, fun i B2 M2 H2 y H3 hi e2 S2 st z => ?_, fun i B2 M2 H2 hi e2 S2 st => hi⟩⟩
    obtain ⟨rfl, c, hc, rfl⟩ := z
    refine ⟨B2, Same.refl _, S2, ?_⟩
    have : x.cps.getD i 0 = c := by
      rw [Array.getD_eq_getD_getElem?, hc]
      rfl
    rw [this]
    exact slok_str
end
section
variable {K : PySem.W.Frag} {M : MH} {Q : Sl → MH → Prop}
theorem wl_ord {x : Str} (hx : x.length = 1) (q : Q (.int (x.cps.getD 0 0 : Nat)) M) : WL K (fun xs H Q => ∃ x : Str, xs = [.str x] ∧ x.length = 1 ∧ Q (.int (x.cps.getD 0 0 : Nat)) H) [.str x] M Q := fun B H vs hS o Q0 k => by
  cases o with
  | cons o1 o2 =>
    cases o2
    obtain rfl := of_str o1
    exact ⟨x, rfl, hx, k _ _ M B H q (Same.refl B) hS slok_int⟩
theorem wl_abs {i : Int} (q : Q (.int (if i < 0 then -i else i)) M) : WL K (fun xs H Q => ∃ i, xs = [.int i] ∧ Q (.int (if i < 0 then -i else i)) H) [.int i] M Q := fun B H vs hS o Q0 k => by
  cases o with
  | cons o1 o2 =>
    cases o2
    obtain rfl := of_int o1
    exact ⟨i, rfl, k _ _ M B H q (Same.refl B) hS slok_int⟩
/-- a tuple of texts of the module -/
theorem w2_ixC {ys : List Str} {z : Str} {i : Int} {c : Addr} (hc : TupC K c ys) (hx : atI ys i = some z) (q : Q (.str z) M) : W2 K (rIxT K) (.raw (.ref c)) (.int i) M Q := fun B H v w hS o1 o2 Q0 k => by
  obtain rfl : v = .ref c := o1
  obtain rfl := of_int o2
  exact ⟨c, ys.map V.str, i, .str z, rfl, rfl, hc.2 H, by rw [atI_map, hx]; rfl, k _ _ M B H q (Same.refl B) hS slok_str⟩
theorem wl_lenC {ys : List Str} {c : Addr} (hc : TupC K c ys) (q : Q (.int (ys.length : Int)) M) : WL K (rLenS K) [.raw (.ref c)] M Q := fun B H vs hS o Q0 k => by
  cases o with
  | cons o1 o2 =>
    cases o2
    obtain rfl : _ = V.ref c := o1
    have z := k _ _ M B H q (Same.refl B) hS slok_int
    rw [← List.length_map (f := V.str) (as := ys)] at z
    exact ⟨c, _, rfl, .inr (hc.2 H), z⟩
/-- xs.extend(data) -/
theorem wm_extendD {a : Addr} {xs : List Sl} {ds : List PyData} (ha : M a = some (.lst xs)) (hl : xs.length + ds.length ≤ 1000000) (q : Q .non (um M a (.lst (xs ++ ds.map .dat)))) : WM K rExtend (.raw (.ref a)) [.dat (.list ds)] M Q := fun B H v vs hS o1 o2 Q0 k => by
  cases o2 with
  | cons o2 o3 =>
    cases o3
    obtain rfl : v = V.ref a := o1
    cases o2 with
    | lst hb hd =>
      obtain ⟨_, u, hu, us, rfl, h1⟩ := hS.has a _ ha
      have h2 := sla_dat hd
      have l2 := SlAll.len h2
      rw [List.length_map] at l2
      refine ⟨a, _, us, _, rfl, rfl, hu, hS.sub _ _ hb, Nat.le_trans (by rw [SlAll.len h1, l2]; exact hl) (show 1000000 ≤ sizeLine by decide), ?_⟩
      exact k _ _ _ B _ q (Same.refl B) (hS.put ha ⟨_, rfl, SlAll.app h1 h2⟩) slok_non
end
/-- text.index(c), where it is found -/
abbrev rSIx : V → List V → Hp → VK → Prop := fun x xs H Q => ∃ (z c : Str) (k : Nat), x = .str z ∧ xs = [.str c] ∧ Txt.index0 z c = some k ∧ Q (.int (k : Nat)) H
theorem mt_sindex {X : L2.Cx} : MtR X "str.index" rSIx := fun _ s _ H _ _ _ _ Q I rx rs ⟨z, c, k, ex, ey, hk, q⟩ => by
  subst ex ey
  obtain ⟨tz, rfl⟩ := rx
  cases rs with
  | cons rc rs' =>
    cases rs'
    obtain ⟨tc, rfl⟩ := rc
    unfold Txt.index0 at hk
    cases hf : PySem.Builtin.Str.occurrences z c 0 z.length 1 with
    | nil => rw [hf] at hk; cases hk
    | cons j more =>
      rw [hf] at hk
      obtain rfl := Option.some.inj hk
      exact PySem.SC.index hf ⟨.int (j : Nat), H, I.tok _, ⟨_, rfl⟩, q⟩
theorem wm_sindex {K : PySem.W.Frag} {M : MH} {Q : Sl → MH → Prop} {z c : Str} {k : Nat} (h : Txt.index0 z c = some k) (q : Q (.int (k : Nat)) M) : WM K rSIx (.str z) [.str c] M Q := fun B H v vs hS o1 o2 Q0 kk => by
  cases o2 with
  | cons o2 o3 =>
    cases o3
    obtain rfl := of_str o1
    obtain rfl := of_str o2
    exact ⟨z, c, k, rfl, rfl, h, kk _ _ M B H q (Same.refl B) hS slok_int⟩
end Ab
set_option Elab.async false
set_option linter.all false
set_option maxRecDepth 1000000
set_option  maxHeartbeats 4000000
namespace Ab
open PySem PySem.Spec PyProof.Rows L2
abbrev bys (D : List Int) : List Sl := (D.map PyData.int).map Sl.dat
theorem bys_app (D E : List Int) : bys (D ++ E) = bys D ++ bys E := by simp
theorem bys_len (D : List Int) : (bys D).length = D.length := by simp
abbrev rdF (l : Addr) (n : Int) : List (Str × Sl) := [("data", .raw (.ref l)), ("at", .dat (.int n))]
def rdO (C dx l : Addr) (n : Int) : MO := .ins C dx (rdF l n)
theorem rf_data (l : Addr) (n : Int) : (rdF l n).lookup ("data" : Str) = some (.raw (.ref l)) := by kernel_rfl
theorem rf_at (l : Addr) (n : Int) : (rdF l n).lookup ("at" : Str) = some (.dat (.int n)) := by kernel_rfl
theorem rf_put (l : Addr) (n k : Int) : putS "at" (.dat (.int k)) (rdF l n) = rdF l k := by
  have h : ¬ (("data" : Str) = "at") := by decide +kernel
  show (if ("data" : Str) = "at" then _ else _) = _
  rw [if_neg h]
  show (_ :: if ("at" : Str) = "at" then _ else _) = _
  rw [if_pos rfl]
/-- a reader: its class, the error, itself, its dict, its list, all of the bytes, what else stands -/
structure Rx where
  C : Addr
  Ex : Addr
  o : Addr
  dx : Addr
  l : Addr
  all : List Int
  M0 : MH
def Rx.m (c : Rx) (D : List Int) : MH := um c.M0 c.o (rdO c.C c.dx c.l ((c.all.length : Int) - D.length))
structure Rx.Ok (c : Rx) : Prop where
  hl : c.M0 c.l = some (.lst (bys c.all))
  ne : c.l ≠ c.o
  by' : Byt c.all
  sz : c.all.length ≤ 1000000
/-- what else stood before, stands -/
abbrev Rx.Keep (c : Rx) (M' : MH) : Prop := ∀ b u, b ≠ c.o → c.M0 b = some u → M' b = some u
def Rx.Fut {α : Type} (c : Rx) (p : Prs α) (D : List Int) (Q : α → MH → Prop) (X : Value → Option Addr → MH → Prop) : Prop := match p D with
  | none => ∀ M', c.Keep M' → X (.ref c.Ex) none M'
  | some (x, r) => r <:+ c.all → Q x (c.m r)
def A_rd {α : Type} (C Ex : Addr) (p : Prs α) (enc : α → PyData) : ASpX := fun ss M Q X => ∃ (c : Rx) (D : List Int), c.C = C ∧ c.Ex = Ex ∧ ss = [.raw (.ref c.o)] ∧ M = c.m D ∧ c.Ok ∧ D <:+ c.all ∧ c.Fut p D (fun x M' => Q (.dat (enc x)) M') X
def A_byte (C Ex : Addr) : ASpX := fun ss M Q X => ∃ (c : Rx) (D : List Int) (n : Int), c.C = C ∧ c.Ex = Ex ∧ ss = [.raw (.ref c.o), .dat (.int n)] ∧ M = c.m D ∧ c.Ok ∧ D <:+ c.all ∧ c.Fut (pByte n) D (fun x M' => Q (.dat (.int x)) M') X
def A_need (C Ex : Addr) : ASpX := fun ss M Q X => ∃ (o : Addr) (dx : Addr) (fs : List (Str × Sl)) (b : Bool), ss = [.raw (.ref o), .dat (.bool b)] ∧ M o = some (.ins C dx fs) ∧ if b = true then Q .non M else X (.ref Ex) none M
theorem Rx.at (c : Rx) (D : List Int) : c.m D c.o = some (.ins c.C c.dx (rdF c.l ((c.all.length : Int) - D.length))) := um_same
theorem Rx.data {c : Rx} (h : c.Ok) (D : List Int) : c.m D c.l = some (.lst (bys c.all)) := by
  unfold Rx.m
  rw [um_ne h.ne]
  exact h.hl
theorem Rx.keep (c : Rx) (D : List Int) : c.Keep (c.m D) := fun b u hb h => by
  unfold Rx.m
  rw [um_ne hb]
  exact h
theorem thn_assoc {α β γ : Type} (p : Prs α) (f : α → Prs β) (g : β → Prs γ) : Prs.thn (Prs.thn p f) g = Prs.thn p fun x => Prs.thn (f x) g := by
  funext D
  unfold Prs.thn
  cases p D <;> rfl
theorem ret_thn {α β : Type} (x : α) (f : α → Prs β) : Prs.thn (Prs.ret x) f = f x := rfl
theorem thn_ret {α : Type} (p : Prs α) : Prs.thn p Prs.ret = p := by
  funext D
  unfold Prs.thn Prs.ret
  cases h : p D <;> rfl
theorem Rx.Fut.thn {α β : Type} {c : Rx} {p : Prs α} {f : α → Prs β} {D : List Int} {Q : β → MH → Prop} {X : Value → Option Addr → MH → Prop} (F : c.Fut (Prs.thn p f) D Q X) :
    (p D = none → ∀ M', c.Keep M' → X (.ref c.Ex) none M') ∧ ∀ x r, p D = some (x, r) → c.Fut (f x) r Q X := by
  unfold Rx.Fut Prs.thn at F
  refine ⟨fun h => ?_, fun x r h => ?_⟩
  · rw [h] at F
    exact F
  · rw [h] at F
    exact F
theorem Rx.Fut.ret {α : Type} {c : Rx} {x : α} {D : List Int} {Q : α → MH → Prop} {X : Value → Option Addr → MH → Prop} (F : c.Fut (Prs.ret x) D Q X) (h : D <:+ c.all) : Q x (c.m D) := F h
theorem Rx.Fut.of {α : Type} {c : Rx} {p : Prs α} {D : List Int} {Q : α → MH → Prop} {X : Value → Option Addr → MH → Prop} (h1 : p D = none → ∀ M', c.Keep M' → X (.ref c.Ex) none M') (h2 : ∀ x r, p D = some (x, r) → r <:+ c.all → Q x (c.m r)) : c.Fut p D Q X := by
  unfold Rx.Fut
  cases h : p D with
  | none => exact h1 h
  | some z => exact h2 z.1 z.2 h
theorem Rx.Fut.to {α : Type} {c : Rx} {p : Prs α} {D : List Int} {Q : α → MH → Prop} {X : Value → Option Addr → MH → Prop} (F : c.Fut p D Q X) : c.Fut (Prs.thn p Prs.ret) D Q X := by rw [thn_ret]; exact F
theorem Rx.Fut.need {β : Type} {c : Rx} {b : Bool} {f : Unit → Prs β} {D : List Int} {Q : β → MH → Prop} {X : Value → Option Addr → MH → Prop} (F : c.Fut (Prs.thn (pNeed b) f) D Q X) :
    if b = true then c.Fut (f ()) D Q X else ∀ M', c.Keep M' → X (.ref c.Ex) none M' := by
  cases b with
  | true => exact F
  | false => exact F
theorem Rx.Fut.len {β : Type} {c : Rx} {f : Int → Prs β} {D : List Int} {Q : β → MH → Prop} {X : Value → Option Addr → MH → Prop} (F : c.Fut (Prs.thn pLen f) D Q X) : c.Fut (f (D.length : Int)) D Q X := F
theorem byte_some {n b : Int} {D r : List Int} (h : pByte n D = some (b, r)) : D = b :: r ∧ b < n := by
  cases D with
  | nil => cases h
  | cons x t =>
    have h : (if x < n then some (x, t) else none) = some (b, r) := h
    split at h
    · cases h
      exact ⟨rfl, by assumption⟩
    · cases h
theorem byte_in {c : Rx} (ok : c.Ok) {n b : Int} {D r : List Int} (hs : D <:+ c.all) (h : pByte n D = some (b, r)) : 0 ≤ b ∧ b < n ∧ b < 256 := by
  obtain ⟨rfl, h2⟩ := byte_some h
  have := ok.by' b (hs.subset List.mem_cons_self)
  exact ⟨this.1, h2, this.2⟩
theorem numF_nonneg : ∀ (k : Nat) (t f : Int) (first : Bool) (D r : List Int) (n : Int), 0 ≤ t → 0 ≤ f → pNumF k t f first D = some (n, r) → 0 ≤ n
  | 0, _, _, _, _, _, _, _, _, h => nomatch h
  | k + 1, t, f, first, D, r, n, h0, h1, h => by
    unfold pNumF Prs.thn at h
    cases hb : pByte 256 D with
    | none => rw [hb] at h; cases h
    | some z =>
      obtain ⟨b, s⟩ := z
      rw [hb] at h
      have hm : 0 ≤ b % 128 * f := Int.mul_nonneg (Int.emod_nonneg _ (by decide)) h1
      have h : (if b < 128 then Prs.thn (pNeed (decide (b > 0) || first)) (fun _ => Prs.ret (t + b % 128 * f)) else pNumF k (t + b % 128 * f) (f * 128) false) s = some (n, r) := h
      by_cases h2 : b < 128
      · rw [if_pos h2] at h
        unfold Prs.thn pNeed at h
        cases h3 : decide (b > 0) || first with
        | true =>
          rw [h3, if_pos rfl] at h
          cases h
          omega
        | false =>
          rw [h3, if_neg Bool.false_ne_true] at h
          cases h
      · rw [if_neg h2] at h
        exact numF_nonneg k _ _ _ _ _ _ (by omega) (by omega) h
theorem num_nonneg {D r : List Int} {n : Int} (h : pNum D = some (n, r)) : 0 ≤ n := numF_nonneg 60 0 1 true D r n (by decide) (by decide) h
theorem count_le {D r : List Int} {n : Int} (h : pCount D = some (n, r)) : 0 ≤ n ∧ n ≤ r.length := by
  unfold pCount Prs.thn at h
  cases hb : pNum D with
  | none => rw [hb] at h; cases h
  | some z =>
    obtain ⟨b, s⟩ := z
    rw [hb] at h
    have h0 := num_nonneg hb
    by_cases h2 : b ≤ s.length
    · simp [pLen, pNeed, Prs.ret, h2] at h
      obtain ⟨rfl, rfl⟩ := h
      exact ⟨h0, h2⟩
    · simp [pLen, pNeed, Prs.ret, h2] at h
section
variable {K : KX} {ρ : Rho} {Q : Sl → MH → Prop} {α β : Type} {p : Prs α} {enc : α → PyData} {c : Rx} {D : List Int} {C Ex : Addr} {m mc : Str} {i : Nat}
/-- o.m() of a reader -/
theorem w_rd0 (hC : c.C = C) (hE : c.Ex = Ex) (ok : c.Ok) (hs : D <:+ c.all) (self : ρ[i]? = some (some (.raw (.ref c.o)))) (hm : ∀ n, (rdF c.l n).lookup m = none)
    (hx : p D = none → ∀ M', c.Keep M' → K.X (.ref c.Ex) none ρ M') (q : ∀ x r, p D = some (x, r) → r <:+ c.all → Q (.dat (enc x)) (c.m r)) : W K (tMethD C m (concX K.K (A_rd C Ex p enc)) [] (WE K.W) (tVar i) tNil) ρ (c.m D) Q := by
  subst hC
  exact w_methX (w_var self ⟨c.o, c.dx, _, rfl, c.at D, hm _, wa_nil ⟨c, D, rfl, hE, rfl, rfl, ok, hs, Rx.Fut.of hx q⟩⟩)
theorem w_rd {f : α → Prs β} {Q2 : β → MH → Prop} {X : Value → Option Addr → MH → Prop} (F : c.Fut (Prs.thn p f) D Q2 X) (hC : c.C = C) (hE : c.Ex = Ex) (ok : c.Ok) (hs : D <:+ c.all) (self : ρ[i]? = some (some (.raw (.ref c.o)))) (hm : ∀ n, (rdF c.l n).lookup m = none)
    (hX : ∀ C d M', X C d M' → K.X C d ρ M') (q : ∀ x r, p D = some (x, r) → r <:+ c.all → c.Fut (f x) r Q2 X → Q (.dat (enc x)) (c.m r)) : W K (tMethD C m (concX K.K (A_rd C Ex p enc)) [] (WE K.W) (tVar i) tNil) ρ (c.m D) Q :=
  w_rd0 hC hE ok hs self hm (fun h M' k => hX _ _ _ (F.thn.1 h M' k)) fun x r h hr => q x r h hr (F.thn.2 x r h)
theorem w_byte {n : Int} {f : Int → Prs β} {t : TA} {Q2 : β → MH → Prop} {X : Value → Option Addr → MH → Prop} (F : c.Fut (Prs.thn (pByte n) f) D Q2 X) (hC : c.C = C) (hE : c.Ex = Ex) (ok : c.Ok) (hs : D <:+ c.all) (self : ρ[i]? = some (some (.raw (.ref c.o)))) (hm : ∀ n, (rdF c.l n).lookup m = none)
    (ha : ∀ {Q' : List Sl → MH → Prop}, Q' [.dat (.int n)] (c.m D) → WA K t ρ (c.m D) Q') (hX : ∀ C d M', X C d M' → K.X C d ρ M') (q : ∀ x r, 0 ≤ x → x < n → x < 256 → r <:+ c.all → c.Fut (f x) r Q2 X → Q (.dat (.int x)) (c.m r)) : W K (tMethD C m (concX K.K (A_byte C Ex)) [] (WE K.W) (tVar i) t) ρ (c.m D) Q := by
  subst hC
  refine w_methX (w_var self ⟨c.o, c.dx, _, rfl, c.at D, hm _, ha ⟨c, D, n, rfl, hE, rfl, rfl, ok, hs, ?_⟩⟩)
  refine Rx.Fut.of (fun h M' k => hX _ _ _ (F.thn.1 h M' k)) fun x r h hr => ?_
  obtain ⟨h0, h1, h2⟩ := byte_in ok hs h
  exact q x r h0 h1 h2 hr (F.thn.2 x r h)
theorem w_need {b : Bool} {f : Unit → Prs β} {t : TA} {Q2 : β → MH → Prop} {X : Value → Option Addr → MH → Prop} (F : c.Fut (Prs.thn (pNeed b) f) D Q2 X) (hC : c.C = C) (hE : c.Ex = Ex) (self : ρ[i]? = some (some (.raw (.ref c.o)))) (hm : ∀ n, (rdF c.l n).lookup m = none)
    (ha : ∀ {Q' : List Sl → MH → Prop}, Q' [.dat (.bool b)] (c.m D) → WA K t ρ (c.m D) Q') (hX : ∀ C d M', X C d M' → K.X C d ρ M') (q : b = true → c.Fut (f ()) D Q2 X → Q .non (c.m D)) : W K (tMethD C m (concX K.K (A_need C Ex)) [] (WE K.W) (tVar i) t) ρ (c.m D) Q := by
  subst hC
  refine w_methX (w_var self ⟨c.o, c.dx, _, rfl, c.at D, hm _, ha ⟨c.o, c.dx, _, b, rfl, c.at D, ?_⟩⟩)
  have F := F.need
  cases b with
  | true => exact q rfl F
  | false =>
    rw [← hE]
    exact hX _ _ _ (F _ (c.keep D))
/-- [o.m() for _ in range(o.count())] of a reader -/
theorem w_lcRd {j : Nat} {vs : List Nat} {f : List α → Prs β} {Q2 : β → MH → Prop} {X : Value → Option Addr → MH → Prop} (F : c.Fut (Prs.thn (pList p) f) D Q2 X) (hj : j ∈ vs) (hC : c.C = C) (hE : c.Ex = Ex) (ok : c.Ok) (hs : D <:+ c.all)
    (self : ρ[i]? = some (some (.raw (.ref c.o)))) (self2 : ∀ x, ((wipeR ρ vs).set j (some x))[i]? = some (some (.raw (.ref c.o)))) (hm : ∀ n, (rdF c.l n).lookup m = none) (hmc : ∀ n, (rdF c.l n).lookup mc = none)
    (hX : ∀ C d ρ' M', X C d M' → K.X C d ρ' M') (q : ∀ xs r, r <:+ c.all → xs.length ≤ 1000000 → c.Fut (f xs) r Q2 X → Q (.dat (.list (xs.map enc))) (c.m r)) :
    W K (tLc (iRng1 (tCons (tMethD C mc (concX K.K (A_rd C Ex pCount .int)) [] (WE K.W) (tVar i) tNil) tNil)) (gName j) tYes (tMethD C m (concX K.K (A_rd C Ex p enc)) [] (WE K.W) (tVar i) tNil) vs) ρ (c.m D) Q := by
  rw [show Prs.thn (pList p) f = Prs.thn pCount fun n => Prs.thn (pRep p n.toNat) f from thn_assoc ..] at F
  refine w_lc hj (wi_r1 (wa_cons (w_rd F hC hE ok hs self hmc (fun C d M' h => hX C d ρ M' h) fun n r hn hr F2 => wa_nil ?_)))
  obtain ⟨n0, n1⟩ := count_le hn
  have rl : r.length ≤ 1000000 := Nat.le_trans hr.length_le ok.sz
  refine ⟨n, rfl, by omega, by omega, fun i acc M' => ∃ xs r, acc = xs.map enc ∧ M' = c.m r ∧ r <:+ c.all ∧ xs.length = i ∧ c.Fut (Prs.thn (pRep p (n.toNat - i)) fun ys => f (xs ++ ys)) r Q2 X, ⟨[], r, rfl, rfl, hr, rfl, by simpa using F2⟩, fun _ _ _ _ _ _ _ _ => trivial, ?_, ?_⟩
  · rintro k acc M' Dn hk ⟨xs, r, rfl, rfl, hr, hl, F3⟩ hD
    refine wt_yes ?_
    rw [if_pos rfl]
    have hne : Dn ≠ c.o := fun e => by rw [e, c.at] at hD; cases hD
    have h0 : c.M0 Dn = none := by
      unfold Rx.m at hD
      rwa [um_ne hne] at hD
    let c' : Rx := { c with M0 := um c.M0 Dn (.lst ((xs.map enc).map .dat)) }
    have em : ∀ E, um (c.m E) Dn (.lst ((xs.map enc).map .dat)) = c'.m E := fun E => by
      show um (um c.M0 c.o _) Dn _ = um (um c.M0 Dn _) c.o _
      rw [um_comm hne.symm]
    have ok' : c'.Ok := ⟨by show um c.M0 Dn _ c.l = _; rw [um_ne fun e => by rw [← e, ok.hl] at h0; cases h0]; exact ok.hl, ok.ne, ok.by', ok.sz⟩
    have hk2 : n.toNat - k = (n.toNat - (k + 1)) + 1 := by omega
    rw [hk2] at F3
    have F3 : c.Fut (Prs.thn p fun x => Prs.thn (pRep p (n.toNat - (k + 1))) fun ys => f (xs ++ x :: ys)) r Q2 X := by
      have e : (Prs.thn (pRep p (n.toNat - (k + 1) + 1)) fun ys => f (xs ++ ys)) = Prs.thn p fun x => Prs.thn (pRep p (n.toNat - (k + 1))) fun ys => f (xs ++ x :: ys) := by
        show Prs.thn (Prs.thn p fun x => Prs.thn (pRep p (n.toNat - (k + 1))) fun ys => Prs.ret (x :: ys)) _ = _
        rw [thn_assoc]
        congr 1
        funext x
        rw [thn_assoc]
        rfl
      rw [e] at F3
      exact F3
    rw [em]
    refine w_rd0 (c := c') hC hE ok' hr (self2 _) hm (fun h M' kp => hX _ _ _ _ (F3.thn.1 h M' fun b u hb hu => kp b u hb ?_)) fun x r' h hr' => ?_
    · show um c.M0 Dn _ b = _
      rw [um_ne fun e => by rw [e, h0] at hu; cases hu]
      exact hu
    · refine ⟨enc x, c.m r', rfl, (em r').symm, ?_, by rw [List.length_map]; omega, xs ++ [x], r', by rw [List.map_append]; rfl, rfl, hr', by rw [List.length_append, hl]; rfl, ?_⟩
      · unfold Rx.m
        rw [um_ne hne]
        exact h0
      · have := F3.thn.2 x r' h
        simpa [List.append_assoc] using this
  · rintro acc M' ⟨xs, r, rfl, rfl, hr, hl, F3⟩
    rw [Nat.sub_self] at F3
    refine q xs r hr (by omega) ?_
    have F3 : c.Fut (f (xs ++ [])) r Q2 X := F3
    rwa [List.append_nil] at F3
end
theorem thn_inv {α β : Type} {p : Prs α} {f : α → Prs β} {D : List Int} {z : β × List Int} (h : Prs.thn p f D = some z) : ∃ x r, p D = some (x, r) ∧ f x r = some z := by
  unfold Prs.thn at h
  cases e : p D with
  | none => rw [e] at h; cases h
  | some y => rw [e] at h; exact ⟨y.1, y.2, rfl, h⟩
theorem need_inv {β : Type} {b : Bool} {f : Unit → Prs β} {D : List Int} {z : β × List Int} (h : Prs.thn (pNeed b) f D = some z) : b = true ∧ f () D = some z := by
  cases b with
  | true => exact ⟨rfl, h⟩
  | false => cases h
section
variable {K : KX} {ρ : Rho} {M : MH} {Q : Sl → MH → Prop} {α β : Type} {p : Prs α} {enc : α → PyData} {c : Rx} {D : List Int} {C Ex : Addr} {m mc : Str} {i : Nat} {A : ASpX} {E : L2.St → XK}
theorem rep_inv {x : List α} {r s : List Int} {n : Nat} (h : pRep p n r = some (x, s)) : x.length = n := by
  induction n generalizing x r with
  | zero => cases h; rfl
  | succ n ih =>
    obtain ⟨y, r1, h1, h2⟩ := thn_inv h
    obtain ⟨ys, r2, h3, h4⟩ := thn_inv h2
    cases h4
    rw [List.length_cons, ih h3]
end
end Ab
set_option Elab.async false
set_option linter.all false
set_option maxRecDepth 1000000
set_option  maxHeartbeats 4000000
namespace L2
open PySem PySem.Spec PyProof.Rows
theorem pe_bmK {X : Cx} {K : PySem.W.Frag} {e : Expr} {T : String} {r : V → List V → Hp → VK → Prop} {to : TE} {t : TA} (hK : X.K = K) (h : PE X e (tBM X.K T r to t)) : PE X e (tBM K T r to t) := hK ▸ h
end L2
namespace Ab
open PySem PySem.Spec PyProof.Rows L2
/-- a def of the module, as it stands there -/
def FnG (K : PySem.W.Frag) (nm : Str) (st : Stmt) : Prop := ∃ (f : Addr) (oc : Value) (od : Option Addr) (kV dc pm cd ct : Value) (an : Option Addr) (sl : Array (Option Value)),
  PySem.W.nsIn K mainGlobals nm = some (some (.ref f)) ∧ K.lookup f = some ⟨oc, od, .func (PySem.W.fnOf nm nm (defArgs st) (defBody st) (defScope st) .none kV dc pm an cd ct), sl⟩ ∧ PySem.W.codeIn K cd nm = true ∧ PySem.W.keepIn K (.ref f) = true
/-- a method of a class of the module -/
def MtG (K : PySem.W.Frag) (C m qual : Str) (st : Stmt) : Prop := ∃ (cc f : Addr) (oc : Value) (od : Option Addr) (kV dc pm cd ct : Value) (an : Option Addr) (sl : Array (Option Value)),
  PySem.W.nsIn K mainGlobals C = some (some (.ref cc)) ∧ PySem.W.findIn K (.ref cc) m = some (some (.ref f)) ∧ PySem.W.isFn K (.ref f) = true ∧ K.lookup f = some ⟨oc, od, .func (PySem.W.fnOf m qual (defArgs st) (defBody st) (defScope st) .none kV dc pm an cd ct), sl⟩ ∧ PySem.W.codeIn K cd qual = true ∧ PySem.W.keepIn K (.ref f) = true
abbrev fnIn {K : PySem.W.Frag} {h : Heap} (_ : K.In h) (nm : Str) (st : Stmt) : Prop := FnG K nm st
abbrev mtIn {K : PySem.W.Frag} {h : Heap} (_ : K.In h) (C m qual : Str) (st : Stmt) : Prop := MtG K C m qual st
theorem fnG_mk {K : PySem.W.Frag} {h : Heap} (X : K.In h) {nm : Str} {st : Stmt} {f : Addr} {oc : Value} {od : Option Addr} {kV dc pm cd ct : Value} {an : Option Addr} {sl : Array (Option Value)}
    (h1 : PySem.W.nsIn K mainGlobals nm = some (some (.ref f))) (h2 : K.lookup f = some ⟨oc, od, .func (PySem.W.fnOf nm nm (defArgs st) (defBody st) (defScope st) .none kV dc pm an cd ct), sl⟩) (h3 : PySem.W.codeIn K cd nm = true) (h4 : PySem.W.keepIn K (.ref f) = true) : fnIn X nm st :=
  ⟨f, oc, od, kV, dc, pm, cd, ct, an, sl, h1, h2, h3, h4⟩
theorem mtG_mk {K : PySem.W.Frag} {h : Heap} (X : K.In h) {C m qual : Str} {st : Stmt} {cc f : Addr} {oc : Value} {od : Option Addr} {kV dc pm cd ct : Value} {an : Option Addr} {sl : Array (Option Value)}
    (h1 : PySem.W.nsIn K mainGlobals C = some (some (.ref cc))) (h2 : PySem.W.findIn K (.ref cc) m = some (some (.ref f))) (h3 : PySem.W.isFn K (.ref f) = true) (h4 : K.lookup f = some ⟨oc, od, .func (PySem.W.fnOf m qual (defArgs st) (defBody st) (defScope st) .none kV dc pm an cd ct), sl⟩) (h5 : PySem.W.codeIn K cd qual = true) (h6 : PySem.W.keepIn K (.ref f) = true) : mtIn X C m qual st :=
  ⟨cc, f, oc, od, kV, dc, pm, cd, ct, an, sl, h1, h2, h3, h4, h5, h6⟩
end Ab
namespace Ab
open PySem PySem.Spec PyProof.Rows L2
section
variable {K : KX} {ρ : Rho} {M : MH} {Q : Sl → MH → Prop} {te tl : TE}
/-- [f(c) for c in text], nothing else is touched -/
theorem w_lcS {z : Str} {j : Nat} {vs : List Nat} {M1 : MH} (hj : j ∈ vs) (hl : W K tl ρ M fun s M2 => s = .str z ∧ M2 = M1) (hz : z.cps.toList.length ≤ 1000000) (f : Nat → PyData)
    (he : ∀ c D o, c ∈ z.cps.toList → M1 D = none → W K te ((wipeR ρ vs).set j (some (.str ⟨#[c]⟩))) (um M1 D o) fun s M' => s = .dat (f c) ∧ M' = um M1 D o) (q : Q (.dat (.list (z.cps.toList.map f))) M1) : W K (tLc (iStr tl) (gName j) tYes te vs) ρ M Q :=
  w_lc hj (wi_str (hl.imp fun s M2 ⟨e1, e2⟩ => by
    subst e1 e2
    refine ⟨z, rfl, fun i acc M' => M' = M2 ∧ acc = (z.cps.toList.take i).map f, ⟨rfl, by simp⟩, fun _ _ _ _ _ _ _ _ => trivial, fun i acc M' D hi ⟨eM, ea⟩ hD => ?_, fun acc M' ⟨eM, ea⟩ => ?_⟩
    · subst eM ea
      have hi' : i < z.cps.toList.length := by simpa using hi
      refine wt_yes ?_
      have e : z.cps.getD i 0 = z.cps.toList[i] := by
        rw [Array.getD_eq_getD_getElem?, Array.getElem?_eq_getElem hi]
        simp
      rw [if_pos rfl]
      show W K te ((wipeR ρ vs).set j (some (.str ⟨#[z.cps.getD i 0]⟩))) _ _
      rw [e]
      refine (he z.cps.toList[i] D _ (List.getElem_mem hi') hD).imp fun s M' ⟨e1, e2⟩ => ⟨f z.cps.toList[i], _, e1, e2, hD, ?_, rfl, ?_⟩
      · rw [List.length_map, List.length_take]
        omega
      · rw [List.take_succ_eq_append_getElem hi', List.map_append]
        rfl
    · subst eM ea
      rw [← Array.length_toList, List.take_length]
      exact q))
end
section
variable {K : PySem.W.Frag} {M : MH} {Q : Sl → MH → Prop} {xs : List Sl}
theorem w2_dropA {r : R2} {x y : Sl} (a : Addr) (h : W2 K r x y M fun s M1 => Q s (del M1 a)) : W2 K r x y M Q := fun B H v w hS o1 o2 Q0 k =>
  h B H v w hS o1 o2 Q0 fun s v M1 B1 H1 q e S o => k s v (del M1 a) B1 H1 q e S.drop o
theorem del_umum {a b : Addr} {x y : MO} (h : M a = none) (hb : b ≠ a) : del (um (um M a x) b y) a = um M b y := by
  rw [um_comm hb.symm, del_um]
  rw [um_ne hb.symm]
  exact h
/-- text + text -/
theorem w2_addS {x y : Str} (hl : x.length + y.length ≤ 1000000) (q : Q (.str (x ++ y)) M) : W2 K (fun x y H Q => ∃ i j, x = .str i ∧ y = .str j ∧ i.length + j.length ≤ sizeLine ∧ Q (.str (i ++ j)) H) (.str x) (.str y) M Q := fun B H v w hS o1 o2 Q0 k =>
  ⟨x, y, of_str o1, of_str o2, Nat.le_trans hl (show 1000000 ≤ sizeLine by decide), k _ _ M B H q (Same.refl B) hS slok_str⟩
theorem idx_spec (z : Str) : ∀ ys : List Str, z ∈ ys → ys[ys.idxOf z]? = some z ∧ ∀ m, m < ys.idxOf z → ys[m]? ≠ some z
  | [], h => nomatch h
  | y :: ys, h => by
    rw [List.idxOf_cons]
    by_cases e : y = z
    · subst e
      simp
    · have hb : (y == z) = false := beq_eq_false_iff_ne.mpr e
      rw [hb]
      have h' : z ∈ ys := (List.mem_cons.mp h).resolve_left fun h => e h.symm
      obtain ⟨i1, i2⟩ := idx_spec z ys h'
      refine ⟨by simpa using i1, fun m hm => ?_⟩
      cases m with
      | zero => simpa using e
      | succ m => simpa using i2 m (by simpa using hm)
theorem wm_tixM {ys : List Str} {z : Str} {c : Addr} (hc : TupC K c ys) (hz : z ∈ ys) (q : Q (.int (ys.idxOf z : Nat)) M) : WM K (rTIndex K) (.raw (.ref c)) [.str z] M Q := wm_tindex hc (idx_spec z ys hz).1 (idx_spec z ys hz).2 q
theorem wm_tixN {ys : List Str} {z : Str} {c : Addr} (j : Nat) (hc : TupC K c ys) (hz : z ∈ ys ∧ ys.idxOf z = j) (q : Q (.int (j : Nat)) M) : WM K (rTIndex K) (.raw (.ref c)) [.str z] M Q := wm_tixM hc hz.1 (by rw [hz.2]; exact q)
theorem wm_indexS {ys : List Str} {z : Str} (j : Nat) (hs : SeqAt.shaped (.list (ys.map .str)) = true) (hz2 : PyData.strOk z = true) (hz : z ∈ ys ∧ ys.idxOf z = j) (q : Q (.int (j : Nat)) M) : WM K (rIndexD K) (.dat (.list (ys.map .str))) [.dat (.str z)] M Q := by
  obtain ⟨hz, rfl⟩ := hz
  refine wm_index (j := ys.idxOf z) (z := .str z) hs (shaped_str hz2) (by rw [List.getElem?_map, (idx_spec z ys hz).1]; rfl) (by rw [eqv_str]; simp) (fun m z' hm hz' => ?_) q
  rw [List.getElem?_map] at hz'
  cases h : ys[m]? with
  | none => rw [h] at hz'; cases hz'
  | some y =>
    rw [h] at hz'
    cases hz'
    rw [eqv_str, decide_eq_false fun e => (idx_spec z ys hz).2 m hm (by rw [h, e])]
end
end Ab
set_option Elab.async false
set_option linter.all false
set_option maxRecDepth 1000000
set_option  maxHeartbeats 4000000
namespace Ab
open PySem PyProof.Rows L2
def rdS (z : Str) : Bool := decide (z.cps.toList.length ≤ 900000) && z.cps.toList.all fun c => decide (32 ≤ c) && decide (c < 127) && decide (c ≠ 37)
def Val.rd : Val → Prop
  | .int n => n.natAbs < 128 ^ 60
  | .str z => rdS z = true
def Term.rd : Term → Prop
  | .any => True
  | .value v => v.rd
  | .variable z => rdS z = true
/-- all of them, not too many -/
def rdL {α : Type} (R : α → Prop) (xs : List α) : Prop := xs.length ≤ 900000 ∧ ∀ x ∈ xs, R x
abbrev rdTs (ts : List Term) : Prop := rdL Term.rd ts
abbrev rdR (row : List Val) : Prop := rdL Val.rd row
def Lit.rd : Lit → Prop
  | .fact r ts => rdS r = true ∧ rdTs ts
  | .neg r ts => rdS r = true ∧ rdTs ts
  | .compare op s t => op ∈ opsC ∧ s.rd ∧ t.rd
  | .is x op s t => rdS x = true ∧ op ∈ opsI ∧ s.rd ∧ t.rd
  | .count x r ts => rdS x = true ∧ rdS r = true ∧ rdTs ts
abbrev rdB (b : List Lit) : Prop := rdL Lit.rd b
def Item.rd : Item → Prop
  | .relation n w => rdS n = true ∧ 0 ≤ w ∧ w < 128 ^ 60
  | .fact n row => rdS n = true ∧ rdR row
  | .rule n rel hd b => rdS n = true ∧ rdS rel = true ∧ rdTs hd ∧ rdB b
  | .denial n b => rdS n = true ∧ rdB b
def Chk.rd : Chk → Prop
  | .comes it => it.rd
  | .goes k => 0 ≤ k.s ∧ k.s < 4 ∧ rdS k.n = true ∧ rdR k.row
theorem rdS_ok {z : Str} (h : rdS z = true) : PyData.strOk z = true := by
  unfold rdS at h
  rw [Bool.and_eq_true, List.all_eq_true] at h
  unfold PyData.strOk
  rw [← Array.all_toList, List.all_eq_true]
  intro c hc
  have := h.2 c hc
  simp only [Bool.and_eq_true, decide_eq_true_eq] at this
  exact decide_eq_true (by omega)
theorem rd_okD_str {n : Nat} {z : Str} (h : rdS z = true) : okD n (.str z) = true := okD_str (rdS_ok h)
theorem rd_okD_list {α : Type} {R : α → Prop} {f : α → PyData} {xs : List α} {n : Nat} (h : rdL R xs) (hf : ∀ x, R x → okD n (f x) = true) : okD (n + 1) (.tuple (xs.map f)) = true := okD_mkT (by rw [List.length_map]; have := h.1; omega) (okAll_of fun d hd => by
  obtain ⟨t, ht, rfl⟩ := List.mem_map.mp hd
  exact hf t (h.2 t ht))
theorem Val.rd_okD {n : Nat} : ∀ {v : Val}, v.rd → Ab.okD n v.enc = true
  | .int _, _ => okD_int
  | .str _, h => rd_okD_str h
theorem rdR_okD {n : Nat} {row : List Val} (h : rdR row) : okD (n + 1) (encR row) = true := rd_okD_list h fun _ => Val.rd_okD
/-- what p gives stood there, as code tells -/
def Iv {α : Type} (p : Prs α) (code : α → List Int) (R : α → Prop) : Prop := ∀ D x r, Byt D → D.length ≤ 900000 → p D = some (x, r) → D = code x ++ r ∧ R x
theorem byt_suf {D E : List Int} (h : Byt (D ++ E)) : Byt E := fun c hc => h c (List.mem_append_right _ hc)
theorem iv_byte {n : Int} : Iv (pByte n) (fun b => [b]) (fun b => 0 ≤ b ∧ b < n ∧ b < 256) := fun D b r hD _ h => by
  obtain ⟨rfl, h2⟩ := byte_some h
  have := hD b List.mem_cons_self
  exact ⟨rfl, this.1, h2, this.2⟩
/-- one behind the other -/
theorem iv_thn {α β : Type} {p : Prs α} {f : α → Prs β} {code : α → List Int} {R : α → Prop} {D r : List Int} {z : β} (hp : Iv p code R) (hD : Byt D) (hl : D.length ≤ 900000) (h : Prs.thn p f D = some (z, r)) :
    ∃ x D', D = code x ++ D' ∧ R x ∧ Byt D' ∧ D'.length ≤ 900000 ∧ f x D' = some (z, r) := by
  obtain ⟨x, D', h1, h2⟩ := thn_inv h
  obtain ⟨rfl, h3⟩ := hp D x D' hD hl h1
  exact ⟨x, D', rfl, h3, byt_suf hD, by rw [List.length_append] at hl; omega, h2⟩
theorem iv_numF : ∀ (k : Nat) (t f : Int) (first : Bool) (D r : List Int) (n : Int), Byt D → 0 ≤ f → pNumF (k + 1) t f first D = some (n, r) → ∃ m : Nat, D = cnF k m ++ r ∧ n = t + m * f ∧ m < 128 ^ (k + 1) ∧ (0 < m ∨ first = true)
  | k, t, f, first, D, r, n, hD, hf, h => by
    obtain ⟨b, D', h1, h2⟩ := thn_inv (show Prs.thn (pByte 256) _ D = some (n, r) from h)
    obtain ⟨rfl, hb⟩ := byte_some h1
    have hb0 := (hD b List.mem_cons_self).1
    have hD' : Byt D' := fun c hc => hD c (List.mem_cons_of_mem _ hc)
    by_cases h3 : b < 128
    · rw [if_pos h3] at h2
      obtain ⟨h4, h5⟩ := need_inv h2
      cases h5
      have e : b % 128 = b := by omega
      have e2 : ((b.toNat : Nat) : Int) = b := by omega
      refine ⟨b.toNat, ?_, by rw [e, e2], ?_, ?_⟩
      · have : cnF k b.toNat = [b] := by
          cases k with
          | zero => show [((b.toNat : Nat) : Int)] = _; rw [e2]
          | succ k =>
            show (if 127 < b.toNat then _ else [((b.toNat : Nat) : Int)]) = _
            rw [if_neg (by omega), e2]
        rw [this]; rfl
      · refine Nat.lt_of_lt_of_le (show b.toNat < 128 ^ 1 by omega) (Nat.pow_le_pow_right (by decide) (by omega))
      · rw [Bool.or_eq_true, decide_eq_true_eq] at h4
        rcases h4 with h4 | h4
        · exact .inl (by omega)
        · exact .inr h4
    · rw [if_neg h3] at h2
      cases k with
      | zero => cases h2
      | succ k =>
        obtain ⟨m, e1, e2, e3, e4⟩ := iv_numF k _ _ _ _ _ _ hD' (by omega) h2
        have hm : 0 < m := by
          rcases e4 with e4 | e4
          · exact e4
          · cases e4
        have hq : (((b.toNat - 128) + 128 * m) / 128 : Nat) = m := by omega
        refine ⟨(b.toNat - 128) + 128 * m, ?_, ?_, ?_, .inl (by omega)⟩
        · have e5 : cnF (k + 1) ((b.toNat - 128) + 128 * m) = (128 + (((b.toNat - 128) + 128 * m : Nat) : Int) % 128) :: cnF k (((b.toNat - 128) + 128 * m) / 128) := by
            show (if 127 < (b.toNat - 128) + 128 * m then _ else _) = _
            rw [if_pos (by omega)]
          rw [e5, hq, e1]
          show b :: _ = _ :: _
          congr 1
          omega
        · have e6 : (((b.toNat - 128) + 128 * m : Nat) : Int) = b % 128 + 128 * m := by omega
          rw [e2, e6, Int.add_mul, Int.mul_assoc, Int.mul_comm 128 ((m : Int) * f), Int.mul_assoc]
          omega
        · rw [Nat.pow_succ]
          omega
theorem iv_num : Iv pNum cN (fun n => 0 ≤ n ∧ n < 128 ^ 60) := fun D n r hD _ h => by
  obtain ⟨m, e1, e2, e3, _⟩ := iv_numF 59 0 1 true D r n hD (by decide) h
  have e2 : n = m := by omega
  subst e2
  refine ⟨by rw [e1]; unfold cN; rw [Int.toNat_natCast], by omega, ?_⟩
  have : ((m : Nat) : Int) < ((128 ^ 60 : Nat) : Int) := by exact_mod_cast e3
  simpa using this
theorem iv_rep {α : Type} {p : Prs α} {code : α → List Int} {R : α → Prop} (hp : Iv p code R) : ∀ (n : Nat) (D : List Int) (xs : List α) (r : List Int), Byt D → D.length ≤ 900000 → pRep p n D = some (xs, r) → D = (xs.map code).flatten ++ r ∧ (∀ x ∈ xs, R x) ∧ xs.length = n
  | 0, D, xs, r, _, _, h => by cases h; exact ⟨rfl, fun _ h => (nomatch h), rfl⟩
  | n + 1, D, xs, r, hD, hl, h => by
    obtain ⟨x, D', rfl, hx, hD', hl', h2⟩ := iv_thn hp hD hl (show Prs.thn p _ D = some (xs, r) from h)
    obtain ⟨ys, r1, h3, h4⟩ := thn_inv h2
    cases h4
    obtain ⟨rfl, h5, h6⟩ := iv_rep hp n D' ys r hD' hl' h3
    refine ⟨by rw [List.map_cons, List.flatten_cons, List.append_assoc], fun y hy => ?_, by rw [List.length_cons, h6]⟩
    rcases List.mem_cons.mp hy with rfl | hy
    · exact hx
    · exact h5 y hy
theorem iv_list {α : Type} {p : Prs α} {code : α → List Int} {R : α → Prop} (hp : Iv p code R) : Iv (pList p) (fun xs => cL (xs.map code)) (rdL R) := fun D xs r hD hl h => by
  obtain ⟨n, D', h1, h2⟩ := thn_inv h
  obtain ⟨n0, n1⟩ := count_le h1
  obtain ⟨n', D2, h3, h4⟩ := thn_inv (show Prs.thn pNum _ D = some (n, D') from h1)
  obtain ⟨rfl, _⟩ := iv_num D n' D2 hD hl h3
  obtain ⟨l, D3, h5, h6⟩ := thn_inv h4
  cases h5
  obtain ⟨_, h7⟩ := need_inv h6
  cases h7
  have hl' : D'.length ≤ 900000 := by rw [List.length_append] at hl; omega
  obtain ⟨rfl, h8, h9⟩ := iv_rep hp _ D' xs r (byt_suf hD) hl' h2
  refine ⟨?_, by omega, h8⟩
  show _ = cN ((xs.map code).length : Nat) ++ _ ++ r
  rw [List.length_map, h9, Int.toNat_of_nonneg n0, List.append_assoc]
theorem iv_char : Iv pChar (fun c : Nat => [(c : Int)]) (fun c => 32 ≤ c ∧ c < 127 ∧ c ≠ 37) := fun D c r hD hl h => by
  obtain ⟨b, D', rfl, ⟨b0, b1, _⟩, hD', hl', h2⟩ := iv_thn iv_byte hD hl h
  obtain ⟨h3, h4⟩ := need_inv h2
  cases h4
  rw [Bool.and_eq_true, decide_eq_true_eq, Bool.not_eq_true', decide_eq_false_iff_not] at h3
  exact ⟨by show [b] ++ r = [((b.toNat : Nat) : Int)] ++ r; rw [Int.toNat_of_nonneg b0], by omega, by omega, by omega⟩
theorem iv_str : Iv pStr cS (fun z => rdS z = true) := fun D z r hD hl h => by
  obtain ⟨cs, D', rfl, ⟨h1, h2⟩, hD', hl', h3⟩ := iv_thn (iv_list iv_char) hD hl h
  cases h3
  refine ⟨rfl, ?_⟩
  show rdS ⟨cs.toArray⟩ = true
  unfold rdS
  rw [Bool.and_eq_true, List.all_eq_true]
  refine ⟨decide_eq_true h1, fun c hc => ?_⟩
  have := h2 c hc
  simp only [Bool.and_eq_true, decide_eq_true_eq]
  exact ⟨⟨this.1, this.2.1⟩, this.2.2⟩
theorem iv_val : Iv pVal cV Val.rd := fun D v r hD hl h => by
  obtain ⟨b, D1, rfl, ⟨b0, b1, _⟩, hD1, hl1, h1⟩ := iv_thn iv_byte hD hl h
  by_cases e : b = 1
  · subst e
    rw [if_pos rfl] at h1
    obtain ⟨z, D2, rfl, hz, _, _, h2⟩ := iv_thn iv_str hD1 hl1 h1
    cases h2
    exact ⟨rfl, hz⟩
  · rw [if_neg e] at h1
    obtain rfl : b = 0 := by omega
    obtain ⟨s, D2, rfl, ⟨s0, s1, _⟩, hD2, hl2, h2⟩ := iv_thn iv_byte hD1 hl1 h1
    obtain ⟨n, D3, rfl, ⟨n0, n1⟩, hD3, hl3, h3⟩ := iv_thn iv_num hD2 hl2 h2
    obtain ⟨h4, h5⟩ := need_inv h3
    cases h5
    rw [Bool.or_eq_true, decide_eq_true_eq, Bool.not_eq_true', decide_eq_false_iff_not] at h4
    by_cases e2 : s = 1
    · subst e2
      rw [if_pos rfl]
      refine ⟨?_, show (-n).natAbs < 128 ^ 60 by omega⟩
      show _ = ([0, if -n < 0 then 1 else 0] ++ cN ((-n).natAbs : Nat)) ++ r
      rw [if_pos (by omega), show (((-n).natAbs : Nat) : Int) = n by omega]
      rfl
    · rw [if_neg e2]
      obtain rfl : s = 0 := by omega
      refine ⟨?_, show n.natAbs < 128 ^ 60 by omega⟩
      show _ = ([0, if n < 0 then 1 else 0] ++ cN (n.natAbs : Nat)) ++ r
      rw [if_neg (by omega), show ((n.natAbs : Nat) : Int) = n by omega]
      rfl
theorem iv_row : Iv pRow cR rdR := iv_list iv_val
theorem iv_term : Iv pTerm cT Term.rd := fun D t r hD hl h => by
  obtain ⟨b, D1, rfl, ⟨b0, b1, _⟩, hD1, hl1, h1⟩ := iv_thn iv_byte hD hl h
  obtain rfl | rfl | rfl : b = 0 ∨ b = 1 ∨ b = 2 := by omega
  · obtain ⟨v, D2, rfl, hv, _, _, h2⟩ := iv_thn iv_val hD1 hl1 h1
    cases h2
    exact ⟨by show [0] ++ (cV v ++ r) = [0] ++ cV v ++ r; rw [List.append_assoc], hv⟩
  · obtain ⟨v, D2, rfl, hv, _, _, h2⟩ := iv_thn iv_str hD1 hl1 h1
    cases h2
    exact ⟨by show [1] ++ (cS v ++ r) = [1] ++ cS v ++ r; rw [List.append_assoc], hv⟩
  · cases h1
    exact ⟨rfl, trivial⟩
theorem iv_terms : Iv pTerms cTs rdTs := iv_list iv_term
theorem opsC_in {o : Int} (h0 : 0 ≤ o) (h1 : o < 6) : opsC.getD o.toNat "" ∈ opsC ∧ (opsC.idxOf (opsC.getD o.toNat "") : Int) = o := by
  have : ∀ k, k < 6 → opsC.getD k "" ∈ opsC ∧ opsC.idxOf (opsC.getD k "") = k := by decide +kernel
  obtain ⟨h2, h3⟩ := this o.toNat (by omega)
  exact ⟨h2, by rw [h3]; omega⟩
theorem opsI_in {o : Int} (h0 : 0 ≤ o) (h1 : o < 3) : opsI.getD o.toNat "" ∈ opsI ∧ (opsI.idxOf (opsI.getD o.toNat "") : Int) = o := by
  have : ∀ k, k < 3 → opsI.getD k "" ∈ opsI ∧ opsI.idxOf (opsI.getD k "") = k := by decide +kernel
  obtain ⟨h2, h3⟩ := this o.toNat (by omega)
  exact ⟨h2, by rw [h3]; omega⟩
theorem iv_lit : Iv pLit cLit Lit.rd := fun D t r hD hl h => by
  obtain ⟨b, D1, rfl, ⟨b0, b1, _⟩, hD1, hl1, h1⟩ := iv_thn iv_byte hD hl h
  by_cases e2 : b = 2
  · subst e2
    rw [if_pos rfl] at h1
    obtain ⟨o, D2, rfl, ⟨o0, o1, _⟩, hD2, hl2, h2⟩ := iv_thn iv_byte hD1 hl1 h1
    obtain ⟨s, D3, rfl, hs, hD3, hl3, h3⟩ := iv_thn iv_term hD2 hl2 h2
    obtain ⟨t, D4, rfl, ht, hD4, hl4, h4⟩ := iv_thn iv_term hD3 hl3 h3
    cases h4
    obtain ⟨q1, q2⟩ := opsC_in o0 o1
    refine ⟨?_, q1, hs, ht⟩
    show _ = ([2, (opsC.idxOf (opsC.getD o.toNat "") : Int)] ++ cT s ++ cT t) ++ r
    rw [q2]
    simp
  · rw [if_neg e2] at h1
    obtain ⟨n, D2, rfl, hn, hD2, hl2, h2⟩ := iv_thn iv_str hD1 hl1 h1
    by_cases e3 : b = 3
    · subst e3
      rw [if_pos rfl] at h2
      obtain ⟨o, D3, rfl, ⟨o0, o1, _⟩, hD3, hl3, h3⟩ := iv_thn iv_byte hD2 hl2 h2
      obtain ⟨s, D4, rfl, hs, hD4, hl4, h4⟩ := iv_thn iv_term hD3 hl3 h3
      obtain ⟨t, D5, rfl, ht, hD5, hl5, h5⟩ := iv_thn iv_term hD4 hl4 h4
      cases h5
      obtain ⟨q1, q2⟩ := opsI_in o0 o1
      refine ⟨?_, hn, q1, hs, ht⟩
      show _ = ([3] ++ cS n ++ [(opsI.idxOf (opsI.getD o.toNat "") : Int)] ++ cT s ++ cT t) ++ r
      rw [q2]
      simp
    · rw [if_neg e3] at h2
      by_cases e4 : b = 4
      · subst e4
        rw [if_pos rfl] at h2
        obtain ⟨m, D3, rfl, hm, hD3, hl3, h3⟩ := iv_thn iv_str hD2 hl2 h2
        obtain ⟨ts, D4, rfl, hts, hD4, hl4, h4⟩ := iv_thn iv_terms hD3 hl3 h3
        cases h4
        refine ⟨?_, hn, hm, hts⟩
        show _ = ([4] ++ cS n ++ cS m ++ cTs ts) ++ r
        simp
      · rw [if_neg e4] at h2
        obtain ⟨ts, D3, rfl, hts, hD3, hl3, h3⟩ := iv_thn iv_terms hD2 hl2 h2
        obtain rfl | rfl : b = 0 ∨ b = 1 := by omega
        · rw [if_pos rfl] at h3
          cases h3
          refine ⟨?_, hn, hts⟩
          show _ = ([0] ++ cS n ++ cTs ts) ++ r
          simp
        · rw [if_neg (by decide)] at h3
          cases h3
          refine ⟨?_, hn, hts⟩
          show _ = ([1] ++ cS n ++ cTs ts) ++ r
          simp
theorem iv_body : Iv pBody cB rdB := iv_list iv_lit
theorem iv_item : Iv pItem cI Item.rd := fun D t r hD hl h => by
  obtain ⟨b, D1, rfl, ⟨b0, b1, _⟩, hD1, hl1, h1⟩ := iv_thn iv_byte hD hl h
  obtain ⟨n, D2, rfl, hn, hD2, hl2, h2⟩ := iv_thn iv_str hD1 hl1 h1
  obtain rfl | rfl | rfl | rfl : b = 0 ∨ b = 1 ∨ b = 2 ∨ b = 3 := by omega
  · obtain ⟨w, D3, rfl, hw, hD3, hl3, h3⟩ := iv_thn iv_num hD2 hl2 h2
    cases h3
    refine ⟨?_, hn, hw⟩
    show _ = ([0] ++ cS n ++ cN w) ++ r
    simp
  · obtain ⟨w, D3, rfl, hw, hD3, hl3, h3⟩ := iv_thn iv_row hD2 hl2 h2
    cases h3
    refine ⟨?_, hn, hw⟩
    show _ = ([1] ++ cS n ++ cR w) ++ r
    simp
  · obtain ⟨m, D3, rfl, hm, hD3, hl3, h3⟩ := iv_thn iv_str hD2 hl2 h2
    obtain ⟨ts, D4, rfl, hts, hD4, hl4, h4⟩ := iv_thn iv_terms hD3 hl3 h3
    obtain ⟨bd, D5, rfl, hbd, hD5, hl5, h5⟩ := iv_thn iv_body hD4 hl4 h4
    cases h5
    refine ⟨?_, hn, hm, hts, hbd⟩
    show _ = ([2] ++ cS n ++ cS m ++ cTs ts ++ cB bd) ++ r
    simp
  · obtain ⟨w, D3, rfl, hw, hD3, hl3, h3⟩ := iv_thn iv_body hD2 hl2 h2
    cases h3
    refine ⟨?_, hn, hw⟩
    show _ = ([3] ++ cS n ++ cB w) ++ r
    simp
theorem iv_chg : Iv pChg cC Chk.rd := fun D t r hD hl h => by
  obtain ⟨b, D1, rfl, ⟨b0, b1, _⟩, hD1, hl1, h1⟩ := iv_thn iv_byte hD hl h
  obtain rfl | rfl : b = 0 ∨ b = 1 := by omega
  · obtain ⟨it, D2, rfl, hit, hD2, hl2, h2⟩ := iv_thn iv_item hD1 hl1 h1
    cases h2
    refine ⟨?_, hit⟩
    show _ = ([0] ++ cI it) ++ r
    simp
  · obtain ⟨s, D2, rfl, ⟨s0, s1, _⟩, hD2, hl2, h2⟩ := iv_thn iv_byte hD1 hl1 h1
    obtain ⟨n, D3, rfl, hn, hD3, hl3, h3⟩ := iv_thn iv_str hD2 hl2 h2
    obtain ⟨row, D4, rfl, hrow, hD4, hl4, h4⟩ := iv_thn iv_row hD3 hl3 h3
    cases h4
    refine ⟨?_, s0, s1, hn, hrow⟩
    show _ = ([1, s] ++ cS n ++ cR row) ++ r
    simp
theorem iv_chgs : Iv pChgs cCs (rdL Chk.rd) := iv_list iv_chg
end Ab
set_option Elab.async false
set_option linter.all false
set_option maxRecDepth 1000000
set_option  maxHeartbeats 4000000
namespace L2
open PySem PySem.Spec PyProof.Rows
theorem funFrames_base {h B B2 : Heap} (k : ∀ b, B.get? b = none → B2.get? b = none) : ∀ {l : List Env}, h.FunFrames B l → h.FunFrames B2 l
  | [], _ => trivial
  | _ :: _, ⟨k1, ⟨L, o, e1, e2, e3, e4⟩, r⟩ => ⟨k1, ⟨L, o, e1, k L e2, e3, e4⟩, funFrames_base k r⟩
/-- a block of names changes -/
theorem heldZ_cut {B h1 h2 : Heap} {l : List Env} {a L C : Addr} {Z : Obj → Prop} {m1 m2 : Str → Option Value} (hh : HandSPX.HeldZ B l a Z L h1) (n1 : h1.Ns C m1) (n2 : h2.Ns C m2) (sb : Heap.SameBut C h1 h2) {oB : Obj} (eB : B.get? C = some oB) :
    ∃ o2 B2, h2.get? C = some o2 ∧ (∀ vs, o2.data ≠ .fields vs) ∧ o2.isFreed = false ∧ B2.get? C = some o2 ∧ (∀ b, b ≠ C → B2.get? b = B.get? b) ∧ HandSPX.HeldZ B2 l a Z L h2 := by
  have n2' := n2
  obtain ⟨o2, es2, ep2, g2, d2, _⟩ := n2'
  obtain ⟨o1, es1, ep1, g1, d1, _⟩ := n1
  have nf2 : o2.isFreed = false := Obj.isFreed_of_dict d2
  have oth : ∀ b, b ≠ C → (B.update C fun _ => o2).get? b = B.get? b := fun b hb => Heap.get?_update_other _ _ (Ne.symm hb)
  have own : (B.update C fun _ => o2).get? C = some o2 := Heap.get?_update_self _ eB nf2
  have nod : ∀ b o vs, h1.get? b = some o → o.data = .fields vs → b ≠ C := fun b o vs e z q => by
    rw [q, g1] at e
    cases e
    rw [d1] at z
    cases z
  obtain ⟨k1, k2, k3, oe, vs, T, oT, ts, he, hz, hd, hv, hnT, hTe, hT, hdT, ht⟩ := hh
  have ne : a ≠ C := nod a oe vs he hd
  have nT : T ≠ C := nod T oT ts hT hdT
  have df2 : ∀ vs, o2.data ≠ .fields vs := fun vs z => by
    rw [d2] at z
    cases z
  refine ⟨o2, B.update C fun _ => o2, g2, df2, nf2, own, oth, fun b o e => ?_, by rw [oth a ne]; exact k2, ?_, oe, vs, T, oT, ts, by rw [sb.2 a ne]; exact he, hz, hd, hv, by rw [oth T nT]; exact hnT, hTe, by rw [sb.2 T nT]; exact hT, hdT, ht⟩
  · by_cases q : b = C
    · subst q
      rw [own] at e
      cases e
      exact g2
    · rw [oth b q] at e
      rw [sb.2 b q]
      exact k1 b o e
  · refine (funFrames_base (fun b e => ?_) k3).sameBut sb n2
    rw [oth b fun q => by rw [q, eB] at e; cases e]
    exact e
/-- noted by this frame, whatever frame it flies in -/
theorem looks_atZ {M : Model} {A : Around} {E : Value → Shared → Prop} {s : Shared} {Z : Obj → Prop} {base : Heap} {env : Env} {outer : List Env} {L e : Addr} {fl : Value} {Q : Unit → Shared → Prop} (hZ : HandSPX.Steady Z) (hfr : A.frames = some (env :: outer)) (hf : env.frame = some L)
    (b1 : base.StaysIn s.heap) (b2 : base.get? e = none) (b3 : s.heap.FunFrames base (env :: outer)) (tr : HandSPX.TracedZ s.heap base e Z fl)
    (q : ∀ h', HandSPX.HeldZ base (env :: outer) e Z L h' → s.heap.UpToSlots h' → Q () { s with heap := h' }) : wpAny M A (noteFrame (.ref e) env) Q E s := by
  by_cases same : (fl == rawInt L) = true
  · have same : fl = rawInt L := eq_of_beq same
    subst same
    exact HandSPX.againZ hf tr (q s.heap ⟨b1, b2, b3, tr⟩ (Heap.UpToSlots.refl _))
  · obtain ⟨oe, vs, T, oT, ts, he, hz, hd, hv, hnT, hTe, hT, hdT, ht⟩ := tr
    have sz3 : 3 < ts.size := (Array.getElem?_eq_some_iff.mp ht).1
    let g : Heap := s.heap.update T (Obj.mapFields (·.setIfInBounds 3 Value.none))
    have og : ∀ b, b ≠ T → g.get? b = s.heap.get? b := fun b hb => Heap.get?_update_other _ _ (Ne.symm hb)
    have rcd : ∀ b o, s.heap.get? b = some o → (∀ vs, o.data ≠ .fields vs) → b ≠ T := fun b o eb nf z => by
      rw [z, hT] at eb
      cases eb
      exact nf ts hdT
    unfold noteFrame
    simp only [hf]
    refine wpAny_bind (wpAny_field he hd hv ?_)
    rw [if_pos (by simp : (Value.ref T != Value.none) = true)]
    refine wpAny_bind (wpAny_field hT hdT ht ?_)
    rw [if_neg same]
    refine wpAny_bind (wpAny_setField hT hdT sz3 ?_)
    refine HandSPX.wpAny_entryZ hZ hfr (b3.of_keeps fun b o eb nf => ⟨o, (og b (rcd b o eb nf)).trans eb, rfl⟩) hf ((og e (Ne.symm hTe)).trans he) (fun b o eb => (og b fun z => by rw [z, hnT] at eb; cases eb).trans (b1 b o eb)) b2 hd (Array.getElem?_eq_some_iff.mp hv).1 hz fun h' N => ?_
    obtain ⟨y1, y2, y3, y4⟩ := N
    exact q h' ⟨y1, b2, y2, y3⟩ fun b o eb nf => y4 b o ((og b (rcd b o eb nf)).trans eb) nf
section
variable {X : Cx} {W : WX} {pins : List (Addr × Obj)} {σ : St} {s3 : Shared} {H3 : Hp} {scope : Scope} {ce : Env} {fp : List Addr}
/-- an exception that flies in the block of a comprehension leaves it -/
theorem comp_flies {xb : Value → Shared → Prop} (tk : Takes X W) (hW : ∀ c d σ σ' H, W c d σ H → W c d σ' H) (hs : X.stack = X.env :: X.outer) (hf : X.env.frame = some X.env.locals) (I3 : Inv X pins σ H3 s3) (cf : ce.frame = X.env.frame) (cL : ce.locals = s3.heap.objs.size)
    (hfp : ∀ b ∈ fp, (b ∈ X.ex ∨ X.s_0.heap.objs.size ≤ b) ∧ b ≠ X.env.locals ∧ (∀ x c, X.env.cells.lookup x = some c → c ≠ b) ∧ ∀ p ∈ X.pn ++ pins, p.1 ≠ b) {u : Value} {s' : Shared} (x : XE ((X.blk s3 H3 scope ce fp).tr [] xb) W u s') :
    notedBy (model X.prog X.w) X.A ce (CompFails (model X.prog X.w) X.A X.xe ce) u s' := by
  obtain ⟨a, B, sI, pins', σ', H', cls, d, rfl, I, nb, up, sky, na, os, ag, w⟩ := x
  obtain ⟨m, hn, _⟩ := I.loc
  have hn : sI.heap.Ns ce.locals m := hn
  have J : Inv X pins σ H' sI := I3.call' (ch := fp) I.os I.base I.hok I.bare hfp
  have hfr : X.A.frames = some (X.env :: X.outer) := by rw [← hs]; exact J.ok.frames
  have Cfr : ce.locals ∉ frs X.stack := fun hb => by
    obtain ⟨_, o, ho, _⟩ := I3.stack.mem hb
    rw [cL] at ho
    exact absurd (Heap.lt_size ho) (Nat.lt_irrefl _)
  obtain ⟨oB, eB⟩ : ∃ o, B.get? ce.locals = some o := by
    obtain ⟨o, _, _, g, _⟩ := hn
    exact ⟨o, nb _ o g Cfr⟩
  have fC : FpOk X pins H' ce.locals := I3.fpOk (by rw [cL]; exact Nat.le_refl _) I.free
  obtain ⟨f0, f1, f2, f3, f4, f5⟩ := fC
  have fin : ∀ h1, HandSPX.HeldZ B (X.env :: X.outer) a (Zc cls d) X.env.locals h1 → s'.heap.UpToSlots h1 → CompFails (model X.prog X.w) X.A X.xe ce (.ref a) { s' with heap := h1 } := fun h1 hh up1 => by
    have upI : sI.heap.UpToSlots h1 := up.trans up1
    have n1 : h1.Ns ce.locals m := hn.upToSlots upI
    refine ⟨m, n1, fun h2 m2 n2 sb => ?_⟩
    obtain ⟨o2, B2, g2, nf2, fr2, gB2, oth, hh2⟩ := heldZ_cut hh n1 n2 sb eB
    have tr := hh2.2.2.2
    obtain ⟨oe, vs, T, oT, ts, he, hz, hd, hv, _⟩ := tr
    unfold PySem.passOn
    refine wpAny_bind (wpAny_field he hd hv ?_)
    rw [if_neg (fun z : (Value.ref T == Value.none) = true => by simp at z), cf, hf]
    refine wpAny_bind (HandSPX.setFlight_onZ hh2 fun h3 hh3 up3 => wpAny_throw (tk _ _ ?_))
    have gI : (sI.heap.update ce.locals fun _ => o2).get? ce.locals = some o2 := by
      obtain ⟨o, _, _, g, _⟩ := hn
      exact Heap.get?_update_self _ g fr2
    have oI : ∀ b, b ≠ ce.locals → (sI.heap.update ce.locals fun _ => o2).get? b = sI.heap.get? b := fun b hb => Heap.get?_update_other _ _ (Ne.symm hb)
    refine ⟨a, B2, { sI with heap := sI.heap.update ce.locals fun _ => o2 }, pins, σ, H', cls, d, rfl, J.turned (t' := sI.toks) (fun b o hb e => by rw [oI b hb]; exact e) f0 f1 f3 f4 f5, fun b o e hb => ?_, fun b o e nf => ?_, .inr (.inr (by rw [hs]; exact hh3)), na, os, ag, hW _ _ _ _ _ w⟩
    · by_cases q : b = ce.locals
      · subst q
        have e : (sI.heap.update ce.locals fun _ => o2).get? ce.locals = some o := e
        rw [gI] at e
        cases e
        exact gB2
      · have e : (sI.heap.update ce.locals fun _ => o2).get? b = some o := e
        rw [oI b q] at e
        rw [oth b q]
        exact nb b o e hb
    · by_cases q : b = ce.locals
      · subst q
        have e : (sI.heap.update ce.locals fun _ => o2).get? ce.locals = some o := e
        rw [gI] at e
        cases e
        exact up3 _ _ g2 nf2
      · have e : (sI.heap.update ce.locals fun _ => o2).get? b = some o := e
        rw [oI b q] at e
        obtain ⟨sl, e1⟩ := upI b o e nf
        rw [← sb.2 b q] at e1
        obtain ⟨sl2, e2⟩ := up3 b _ e1 nf
        exact ⟨sl2, e2⟩
  show wpAny _ _ (noteFrame (.ref a) ce) _ _ s'
  rw [noteFrame_env _ cf]
  have sky : Sky B X.stack a (Zc cls d) ce.locals s'.heap := sky
  rw [hs] at sky
  rcases sky with ⟨b1, b2, b3, oe, vs, he, hz, hd, hv⟩ | ⟨b1, b2, b3, tr⟩ | ⟨b1, b2, b3, tr⟩
  · exact HandSPX.look_newZ Zc.steady hfr b3 hf he b1 b2 hd hv hz fin
  · exact looks_atZ Zc.steady hfr hf b1 b2 b3 tr fin
  · exact looks_atZ Zc.steady hfr hf b1 b2 b3 tr fin
end
end L2
set_option Elab.async false
set_option linter.all false
set_option maxRecDepth 1000000
set_option  maxHeartbeats 4000000
namespace L2
open PySem PySem.Spec PyProof.Rows
section
variable {X : Cx} {pins : List (Addr × Obj)} {σ : St} {H : Hp} {s : Shared}
theorem Inv.air (I : Inv X pins σ H s) (pn0 : X.pn = []) (xb : Value → Shared → Prop) : Inv (X.tr [] xb) pins σ H s :=
  ⟨I.ok.toTry _ _, I.os, I.bare, I.base, I.loc, I.cell, I.free, I.freeC, fun p hp => I.pin p (by rw [pn0]; exact hp), I.hok, I.len⟩
theorem Inv.land {xb : Value → Shared → Prop} (I : Inv (X.tr [] xb) pins σ H s) (pn0 : X.pn = []) (ok : X.Ok) : Inv X pins σ H s :=
  ⟨ok, I.os, I.bare, I.base, I.loc, I.cell, I.free, I.freeC, fun p hp => I.pin p (by rw [pn0] at hp; exact hp), I.hok, I.len⟩
end
theorem wpAny_mono3 {α : Type} {M : Model} {A : Around} {t : Sem α} {Q Q' : α → Shared → Prop} {E E' : Value → Shared → Prop} {s : Shared} (h : wpAny M A t Q E s) (q : ∀ a s, Q a s → Q' a s) (e : ∀ v s, E v s → E' v s) : wpAny M A t Q' E' s := wpAny_mono h q e
section
variable {X : Cx} {W : WX}
/-- the whole of it: what the made list is for is told by use -/
theorem lcX {pins : List (Addr × Obj)} {s : Shared} {σ : St} {H : Hp} {Q : VK} {elt tg iter : Expr} {ifs : List Expr} {scope : Scope} {own : List (Str × Nat)} {pos pos' : Pos} {wi : TI} {g : TG} {tt : TT} {te : TE} {use : Option (Value → Sem Unit)} {Qf : Value → Shared → Prop}
    (tk : Takes X W) (hW : ∀ c d σ σ' H, W c d σ H → W c d σ' H) (hs : X.stack = X.env :: X.outer) (hf : X.env.frame = some X.env.locals) (calm : X.calm = true) (nd : X.N.Nodup) (I : Inv X pins σ H s) (hi : PI X tg iter wi) (ok : BlkOk X.N X.env.scope scope own)
    (hg : ∀ (s : Shared) (H : Hp) (C : Addr) (cl : List (Str × Addr)) (fp : List Addr), PG (X.blk s H scope (compEnvC scope cl C X.env) fp) tg g)
    (ht : ∀ (s : Shared) (H : Hp) (C : Addr) (cl : List (Str × Addr)) (fp : List Addr), PTs (X.blk s H scope (compEnvC scope cl C X.env) fp) ifs tt)
    (he : ∀ (s : Shared) (H : Hp) (C : Addr) (cl : List (Str × Addr)) (fp : List Addr) (xb : Value → Shared → Prop), Takes ((X.blk s H scope (compEnvC scope cl C X.env) fp).tr [] xb) W → PE ((X.blk s H scope (compEnvC scope cl C X.env) fp).tr [] xb) elt te)
    (fold : ∀ x, foldedSetIterable iter X.env x = pure x) (h : tLc wi g tt te (own.map (·.2)) σ H Q)
    (done : ∀ D ce s' m H', ce.frame = X.env.frame → Inv X pins σ H' s' → Q (.ref D) H' → s'.heap.Ns ce.locals m → FpOk X pins H' ce.locals → compEnds (model X.prog X.w) X.A X.xe use Qf (.ref D) ce (.ok .next) s') :
    wpAny (model X.prog X.w) X.A (comprehension (.ListComp elt [⟨tg, iter, ifs, 0⟩] scope pos) scope X.env pos' (newList []) false (eval iter X.env) use) Qf X.xe s := by
  have clo : ∀ y ∈ scope.names, y.2 = .free → ∃ c, X.env.cells.lookup y.1 = some c := fun y hy e => (ok.free y hy e).elim (fun k => I.ok.has _ (.inl k)) fun k => I.ok.has _ (.inr k)
  refine comprehension_at rfl fold (closure_ok clo) ok.kind (fun y hy e => by rw [ok.uniq y hy, e]) ?_
  refine thn (hi.run pins s σ H _ I h) fun xv s1 hx => thn hx fun itv s2 h2 => ?_
  obtain ⟨it, fp, tn, J, H2, rfl, I2, T, st2, f2, q⟩ := h2
  refine wpAny_newObj_type (newEnv_comp ?_) (Nat.zero_le _)
  let D := s2.heap.objs.size
  have freeD : H2 D = none := I2.hok.fresh (Nat.le_refl _)
  obtain ⟨Wv, ⟨m0, w0⟩, turn⟩ := q D freeD
  let s3 : Shared := { s2 with heap := s2.heap.push { cls := .type "list", data := .seq ([] : List Value).toArray } }
  have grow : ∀ b o, s2.heap.get? b = some o → s3.heap.get? b = some o := fun b o e => Heap.get?_push_of_some _ e
  have I3 : Inv X pins σ (upd H2 D (.lst [])) s3 := I2.laid (t' := s2.toks) grow (Nat.le_refl _) ⟨Nat.zero_le _, [], 0, .nil, Heap.get?_push_size _ rfl⟩
  have small : ∀ b ∈ fp, b < s2.heap.objs.size := fun b hb => by
    obtain ⟨o, e, _⟩ := T.obj _ _ st2 b hb
    exact Heap.lt_size e
  have f3 : ∀ b ∈ fp, FpOk X pins (upd H2 D (.lst [])) b ∧ b < s3.heap.objs.size := fun b hb =>
    ⟨⟨by rw [upd_ne (Nat.ne_of_lt (small b hb))]; exact (f2 b hb).1, (f2 b hb).2⟩, by show b < (s2.heap.push _).objs.size; rw [Heap.size_push]; exact Nat.lt_succ_of_lt (small b hb)⟩
  have st3 : tn 0 s3.heap := T.keep _ _ _ st2 fun b _ o e => grow b o e
  let C := s3.heap.objs.size
  let cl := cellsFrom (C + 1) scope.names (cloFrom X.env.cells scope.names [])
  let s4 : Shared := { s3 with heap := pushCells (s3.heap.push { cls := .type "dict", data := .dict #[] }) scope.names }
  suffices key : ∀ ce, ce = compEnvC scope cl C X.env → codeAny (model X.prog X.w) X.A (.compStart (.ListComp elt [⟨tg, iter, ifs, 0⟩] scope pos) 0 (.ref it) (.ref D) ce) (compEnds (model X.prog X.w) X.A X.xe use Qf (.ref D) ce) s4 from key _ rfl
  intro ce hce
  have cL : ce.locals = C := by subst hce; rfl
  have cf : ce.frame = X.env.frame := by subst hce; rfl
  generalize hH3 : upd H2 D (.lst []) = H3 at I3 f3 w0
  have I4 : Inv (X.blk s3 H3 scope ce fp) [] (wipe σ (own.map (·.2))) H3 s4 := by
    rw [hce]
    exact block_start I3 ok nd f3
  have pg : PG (X.blk s3 H3 scope ce fp) tg g := by
    rw [hce]
    exact hg s3 H3 C cl fp
  have pt : PTs (X.blk s3 H3 scope ce fp) ifs tt := by
    rw [hce]
    exact ht s3 H3 C cl fp
  have hold : ∀ b ∈ fp, (b ∈ X.ex ∨ X.s_0.heap.objs.size ≤ b) ∧ b ≠ X.env.locals ∧ (∀ x c, X.env.cells.lookup x = some c → c ≠ b) ∧ ∀ p ∈ X.pn ++ pins, p.1 ≠ b := fun b hb => by
    obtain ⟨_, a2, _, a4, a5, a6⟩ := (f3 b hb).1
    exact ⟨a4, a2, a5, a6⟩
  let xb := notedBy (model X.prog X.w) X.A ce (CompFails (model X.prog X.w) X.A X.xe ce)
  have pe : PE ((X.blk s3 H3 scope ce fp).tr [] xb) elt te := by
    have z := he s3 H3 C cl fp xb
    rw [← hce] at z
    exact z fun u s' x => comp_flies tk hW hs hf I3 cf cL hold x
  have st4 : tn 0 s4.heap := T.keep _ _ _ st3 fun b _ o e => pushCells_keeps _ _ _ _ (Heap.get?_push_of_some _ e)
  have nfp : ∀ b ∈ fp, H3 b = none := fun b hb => (f3 b hb).1.1
  have stat : ∀ {σ' : St} {H' : Hp} {s' : Shared}, Inv (X.blk s3 H3 scope ce fp) [] σ' H' s' → (∀ b ∈ fp, H' b = none) → ∀ b ∈ fp, FpOk (X.blk s3 H3 scope ce fp) [] H' b := fun {σ' H' s'} I' hn b hb =>
    ⟨hn b hb, (I'.ok.exf b hb).1, I'.ok.exfs b hb, .inl hb, (I'.ok.exf b hb).2, fun p hp => nomatch hp⟩
  have loop : codeAny (model X.prog X.w) X.A (.compLoop (.ListComp elt [⟨tg, iter, ifs, 0⟩] scope pos) 0 (.ref it) (.ref D) ce) (compEnds (model X.prog X.w) X.A X.xe use Qf (.ref D) ce) s4 := by
    refine compLoop_any (fun n s' => ∃ i H', Inv (X.blk s3 H3 scope ce fp) [] (wipe σ (own.map (·.2))) H' s' ∧ tn i s'.heap ∧ (∀ b ∈ fp, H' b = none) ∧ Wv i n H') ?_ m0 ⟨0, H3, I4, st4, nfp, w0⟩
    rintro n s5 ⟨i, H5, I5, st5, n5, w5⟩
    rcases turn i n H5 w5 with ⟨stop, qq⟩ | ⟨go, Nx, hNx, step⟩
    · refine thnF (T.done (X.blk s3 H3 scope ce fp) rfl rfl rfl calm i [] s5 _ H5 (fun _ _ => False) I5 (stat I5 n5) st5 stop) fun r s6 ⟨hr, I6⟩ => ?_
      subst hr
      have I7 : Inv X pins σ H5 s6 := I3.call' (ch := fp) I6.os I6.base I6.hok I6.bare hold
      obtain ⟨m, hn, _⟩ := I6.loc
      exact done D ce s6 m H5 cf I7 qq hn (I3.fpOk (by rw [cL]; exact Nat.le_refl _) I6.free)
    · refine thnF (T.item (X.blk s3 H3 scope ce fp) rfl rfl rfl calm i [] s5 _ H5 (fun _ _ => False) I5 (stat I5 n5) st5 go) fun r s6 ⟨u, hr, h6⟩ => ?_
      subst hr
      refine thnF h6 fun _ s7 ⟨x, H7, I7, r7, y7, st7, n7⟩ => ?_
      refine thnF (pg.run _ s7 _ H7 x u _ (I7.pinned (stat I7 n7) (T.obj _ _ st7)) r7 (step x H7 y7)) fun _ s8 ⟨σ8, H8, I8, hw8, q8⟩ => ?_
      refine thnF (pt.run _ s8 σ8 H8 _ I8 q8) fun b s9 ⟨H9, I9, q9⟩ => ?_
      have next : ∀ {s' : Shared} {H' : Hp}, Inv (X.blk s3 H3 scope ce fp) ([] ++ pinsAt fp s7.heap) σ8 H' s' → Nx H' → ∃ m, m < n ∧ ∃ i H', Inv (X.blk s3 H3 scope ce fp) [] (wipe σ (own.map (·.2))) H' s' ∧ tn i s'.heap ∧ (∀ b ∈ fp, H' b = none) ∧ Wv i m H' := fun {s' H'} J' nx => by
        obtain ⟨m', hm, w'⟩ := hNx H' nx
        have held : ∀ b ∈ fp, ∀ o, s7.heap.get? b = some o → s'.heap.get? b = some o ∧ H' b = none := fun b hb o e => by
          obtain ⟨z1, z2, _⟩ := J'.pin (b, o) (List.mem_append_right _ (List.mem_append_right _ (mem_pinsAt hb e)))
          exact ⟨z1, z2⟩
        have len8 : (wipe σ (own.map (·.2))).length = σ8.length := by rw [← hw8, wipe_length]
        refine ⟨m', hm, i + 1, H', (J'.unpinned (pins := [])).weak len8 (fun j v e => ?_), T.keep _ _ _ st7 fun b hb o e => (held b hb o e).1, fun b hb => ?_, w'⟩
        · rw [← hw8] at e
          exact (wipe_some e).1
        · obtain ⟨o, e, _⟩ := T.obj _ _ st7 b hb
          exact (held b hb o e).2
      cases b with
      | false =>
        rw [if_neg Bool.false_ne_true] at q9 ⊢
        exact next I9 q9
      | true =>
        rw [if_pos rfl] at q9 ⊢
        refine wpAny_mono3 (pe.run _ s9 σ8 H9 _ (I9.air rfl xb) q9) (fun z s10 ⟨yv, H10, J10, r10, acc, hD10, hz10, nx⟩ => ?_) fun v s' z => z
        exact app_ok (X := X.blk s3 H3 scope ce fp) (J10.land rfl I9.ok) hD10 hz10 r10 fun s11 I11 => next I11 nx
  exact codeAny_compStart_list loop (T.self X.A 0 _ _ _ st4 loop)
/-- as a value -/
theorem pe_lcX {elt tg iter : Expr} {ifs : List Expr} {scope : Scope} {own : List (Str × Nat)} {pos : Pos} {wi : TI} {g : TG} {tt : TT} {te : TE} (tk : Takes X W) (hW : ∀ c d σ σ' H, W c d σ H → W c d σ' H) (hs : X.stack = X.env :: X.outer) (hf : X.env.frame = some X.env.locals) (calm : X.calm = true) (nd : X.N.Nodup) (hi : PI X tg iter wi) (ok : BlkOk X.N X.env.scope scope own)
    (hg : ∀ (s : Shared) (H : Hp) (C : Addr) (cl : List (Str × Addr)) (fp : List Addr), PG (X.blk s H scope (compEnvC scope cl C X.env) fp) tg g)
    (ht : ∀ (s : Shared) (H : Hp) (C : Addr) (cl : List (Str × Addr)) (fp : List Addr), PTs (X.blk s H scope (compEnvC scope cl C X.env) fp) ifs tt)
    (he : ∀ (s : Shared) (H : Hp) (C : Addr) (cl : List (Str × Addr)) (fp : List Addr) (xb : Value → Shared → Prop), Takes ((X.blk s H scope (compEnvC scope cl C X.env) fp).tr [] xb) W → PE ((X.blk s H scope (compEnvC scope cl C X.env) fp).tr [] xb) elt te)
    (fold : ∀ x, foldedSetIterable iter X.env x = pure x := by intro _; rfl) : PE X (.ListComp elt [⟨tg, iter, ifs, 0⟩] scope pos) (tLc wi g tt te (own.map (·.2))) :=
  ⟨fun pins s σ H Q I h => by
    rw [eval_ListComp]
    refine lcX tk hW hs hf calm nd I hi ok hg ht he fold h fun D ce s' m H' _ I' q hn f => ⟨m, hn, fun h'' sb => ?_⟩
    obtain ⟨f0, f1, _, f3, f4, f5⟩ := f
    exact ⟨.ref D, H', I'.turned (t' := s'.toks) (fun b o hb e => by rw [sb.2 b hb]; exact e) f0 f1 f3 f4 f5, rfl, q⟩⟩
/-- name = [..] on one line, the name a local -/
theorem ps_setLcX {i : Nat} {y : Str} {py : Pos} {elt tg iter : Expr} {ifs : List Expr} {scope : Scope} {own : List (Str × Nat)} {pos spos : Pos} {wi : TI} {g : TG} {tt : TT} {te : TE} (tk : Takes X W) (hW : ∀ c d σ σ' H, W c d σ H → W c d σ' H) (hs : X.stack = X.env :: X.outer) (hf : X.env.frame = some X.env.locals) (calm : X.calm = true) (nd : X.N.Nodup)
    (hy : X.N[i]? = some y) (hyl : X.env.scope.names.lookup y = some .local) (hsw : swapsWith (.ListComp elt [⟨tg, iter, ifs, 0⟩] scope pos) (some (.Name y py)) spos.line X.env = pure true) (hi : PI X tg iter wi) (ok : BlkOk X.N X.env.scope scope own)
    (hg : ∀ (s : Shared) (H : Hp) (C : Addr) (cl : List (Str × Addr)) (fp : List Addr), PG (X.blk s H scope (compEnvC scope cl C X.env) fp) tg g)
    (ht : ∀ (s : Shared) (H : Hp) (C : Addr) (cl : List (Str × Addr)) (fp : List Addr), PTs (X.blk s H scope (compEnvC scope cl C X.env) fp) ifs tt)
    (he : ∀ (s : Shared) (H : Hp) (C : Addr) (cl : List (Str × Addr)) (fp : List Addr) (xb : Value → Shared → Prop), Takes ((X.blk s H scope (compEnvC scope cl C X.env) fp).tr [] xb) W → PE ((X.blk s H scope (compEnvC scope cl C X.env) fp).tr [] xb) elt te)
    (fold : ∀ x, foldedSetIterable iter X.env x = pure x := by intro _; rfl) : PS X (.Assign [.Name y py] (.ListComp elt [⟨tg, iter, ifs, 0⟩] scope pos) spos) (tAsg (tLc wi g tt te (own.map (·.2))) (gName i)) := by
  refine ⟨fun pins s σ H D I h => ?_⟩
  rw [exec_Assign_Name_used _ _ _ _ hsw]
  refine wpAny_bind (wpAny_standAt (wpAny_bind ?_))
  show wpAny _ X.A (do let _ ← comprehension (.ListComp elt [⟨tg, iter, ifs, 0⟩] scope pos) scope X.env (firstIterPos [⟨tg, iter, ifs, 0⟩] pos) (newList []) false (eval iter X.env) (some (assign (.Name y py) X.env))) _ _ s
  have h : tLc wi g tt te (own.map (·.2)) σ H (fun x H1 => gName i x σ H1 D.nx) := h
  refine wpAny_bind (thn (lcX (Qf := fun _ s' => SP X pins D .next s') tk hW hs hf calm nd I hi ok hg ht he fold h fun L ce s' m H' hce I' q hn f => ?_) fun _ s' hq => wpAny_pure (wpAny_pure hq))
  show wpAny _ _ (assign (.Name y py) X.env (.ref L)) _ _ _
  refine wpAny_assign_Name (store_ok2 (v := V.ref L) I' nd hy (.inl hyl) rfl (fun s2 I2 ⟨a, sb, ha⟩ => ?_) (.inr hyl))
  obtain ⟨f0, f1, f2, f3, f4, f5⟩ := f
  have haC : ce.locals ≠ a := by
    rcases ha with z | z
    · rw [z]; exact f1
    · exact fun e => f4 y a z e.symm
  refine ⟨m, hn.sameBut sb haC, fun h3 sb3 => ?_⟩
  exact ⟨_, H', I2.turned (t' := s2.toks) (fun b o hb e => (sb3.2 b hb).trans e) f0 f1 f3 f4 f5, q⟩
end
end L2
set_option Elab.async false
set_option linter.all false
set_option maxRecDepth 1000000
set_option  maxHeartbeats 4000000
namespace L2
open PySem PySem.Spec PyProof.Rows Ab
/-- sorted(xs), texts, as many as they are -/
def rSortedT (K : PySem.W.Frag) : List V → Hp → VK → Prop := fun vs H Q => ∃ (a : Addr) (xs : List Str), vs = [V.ref a] ∧ SqL K H a (xs.map V.str) ∧ xs.length ≤ 1000000 ∧ ∀ p, H p = none → Q (.ref p) (upd H p (.lst ((sortT xs).map V.str)))
theorem leT_data : PySem.W.dataLe false (fun z : Str => PyData.str z) = leT := by
  rw [PySem.W.dataLe_str (fun z : Str => z)]
  funext a b
  show decide (¬ (b.cps.toList < a.cps.toList)) = !decide (b.cps.toList < a.cps.toList)
  by_cases h : b.cps.toList < a.cps.toList <;> simp [h]
theorem each_strs : ∀ {us : List Value} {xs : List Str}, StrsAre us xs → PySem.W.EachIs (fun v z => ∃ t, v = Value.str z t) us xs
  | _, _, .nil => .nil
  | _, _, .cons z t h => .cons ⟨t, rfl⟩ (each_strs h)
theorem strs_each : ∀ {us : List Value} {xs : List Str}, PySem.W.EachIs (fun v z => ∃ t, v = Value.str z t) us xs → StrsAre us xs
  | _, _, .nil => .nil
  | _, _, .cons ⟨t, e⟩ h => by subst e; exact .cons _ t (strs_each h)
theorem cr_sortedT {X : Cx} (hu : X.A.units + 64 < cLine) : CallR X (.builtin "sorted") (rSortedT X.K) := by
  intro pins s σ H vs us Q I r h
  obtain ⟨a, xs, rfl, hs, h6, q⟩ := h
  obtain ⟨its, rv, hl, _⟩ := I.list hs
  rw [Vals.ref1 r]
  have e := each_strs rv.strs
  have h7 : xs.length ≤ sizeLine := Nat.le_trans h6 (by decide)
  refine PySem.W.sorted_data (R := fun v z => ∃ t, v = Value.str z t) (enc := fun z : Str => PyData.str z) (bs := xs) hl.isList e (e.mono fun v z ⟨t, ev⟩ => ⟨[], by rw [ev]; exact .str _ _⟩) (PySem.W.AllAlike.of fun b b' => by simp [PySem.W.alike]) (PySem.W.Sortable.others fun b => ⟨fun h => (nomatch h), fun _ h => (nomatch h)⟩) h7 (fun b _ => by show X.A.units + 2 + 0 < cLine; omega) fun out ho hR => ?_
  rw [leT_data] at hR
  obtain ⟨ep, he'⟩ := PyProof.Rows.sortedAll_at s.heap its out.toArray
  have hlen : ((sortT xs).map V.str).length ≤ sizeLine := by rw [List.length_map]; unfold sortT; rw [(List.mergeSort_perm _ _).length_eq]; exact h7
  exact ⟨.ref _, upd H (s.heap.objs.size + 1) (.lst ((sortT xs).map V.str)), I.laid (t' := s.toks) (fun _ _ => PyProof.Rows.sortedAll_old) (Nat.le_succ _) ⟨hlen, out, ep, vals_of_strs (strs_each hR), he'⟩, rfl, q _ (I.hok.fresh (Nat.le_succ _))⟩
end L2
namespace Ab
open PySem PyProof.Rows L2
section
variable {K : PySem.W.Frag} {M : MH} {Q : Sl → MH → Prop}
theorem wl_sortedT {s : Sl} {ys : List Str} (h : LsV K s M (ys.map fun y => .str y)) (hl : ys.length ≤ 1000000) (q : ∀ p, M p = none → Q (.raw (.ref p)) (um M p (.lst ((sortT ys).map fun y => .str y)))) : WL K (rSortedT K) [s] M Q := fun B H vs hS o Q0 k => by
  cases o with
  | cons o1 o2 =>
    cases o2
    obtain ⟨a, us, rfl, hr, hk⟩ := h.get hS o1
    have e := sla_str hk
    subst e
    refine ⟨a, ys, rfl, hr, hl, fun p hn => ?_⟩
    exact k _ _ (um M p _) B _ (q p (hS.freeM hn)) (Same.refl B) (hS.new hn ⟨_, rfl, sla_strs _⟩) slok_ref
end
end Ab
namespace Ab
open PySem PyProof.Rows L2
section
variable {K : KX} {ρ : Rho} {M : MH} {Q : Sl → MH → Prop} {te : TE}
/-- [f(x) for x in xs()], what xs() gives is told by itself -/
theorem w_lcDX {tl : TE} {j : Nat} {vs : List Nat} (hj : j ∈ vs) (α : Type) (enc : α → PyData) (f : α → PyData) (hl : W K tl ρ M fun s M2 => ∃ xs : List α, s = .dat (.list (xs.map enc)) ∧ xs.length ≤ 1000000 ∧
    (∀ x D o, x ∈ xs → M2 D = none → W K te ((wipeR ρ vs).set j (some (.dat (enc x)))) (um M2 D o) fun s M' => s = .dat (f x) ∧ M' = um M2 D o) ∧ Q (.dat (.list (xs.map f))) M2) : W K (tLc (iList K.K tl) (gName j) tYes te vs) ρ M Q :=
  w_lc hj (wi_list (hl.imp fun s M2 ⟨xs, e1, hz, he, q⟩ => by
    subst e1
    refine ⟨_, lsv_dat, fun i acc M' => M' = M2 ∧ acc = (xs.take i).map f, ⟨rfl, by simp⟩, fun _ _ _ _ _ _ _ _ => lsv_dat, fun i acc M' D hi ⟨eM, ea⟩ hD => ?_, fun acc M' ⟨eM, ea⟩ => ?_⟩
    · subst eM ea
      have hi' : i < xs.length := by simpa using hi
      refine wt_yes ?_
      show W K te ((wipeR ρ vs).set j (some (((xs.map enc).map Sl.dat).getD i .non))) _ _
      rw [getD_map hi']
      refine (he xs[i] D _ (List.getElem_mem hi') hD).imp fun s M' ⟨e1, e2⟩ => ⟨f xs[i], _, e1, e2, hD, ?_, rfl, ?_⟩
      · rw [List.length_map, List.length_take]
        omega
      · rw [List.take_succ_eq_append_getElem hi', List.map_append]
        rfl
    · subst eM ea
      rw [List.length_map, List.length_map, List.take_length]
      exact q))
end
end Ab
set_option Elab.async false
set_option linter.all false
set_option maxRecDepth 1000000
set_option  maxHeartbeats 4000000
namespace Ab
open PySem PyProof.Rows L2
theorem rdR_rkey {row : List Val} (h : rdR row) : okD 2 (rkey row) = true := okD_mkT (by rw [List.length_map]; have := h.1; omega) (okAll_of fun d hd => by
  obtain ⟨t, ht, rfl⟩ := List.mem_map.mp hd
  exact okD_mkT (by simp) (okAll_cons okD_int (okAll_cons (Val.rd_okD (h.2 t ht)) rfl)))
/-- what may stand in a state of so many items -/
structure CtR (c : Ct) (m : Nat) : Prop where
  row : ∀ {n : Str}, (∀ r ∈ rowsOf c n, rdR r) ∧ (rowsOf c n).length ≤ m
  sz : c.rel.length ≤ m ∧ c.fac.length ≤ m ∧ c.rul.length ≤ m ∧ c.den.length ≤ m
theorem CtR.up {c : Ct} {m k : Nat} (h : CtR c m) (hk : m ≤ k) : CtR c k := ⟨fun {n} => ⟨h.row.1, Nat.le_trans h.row.2 hk⟩, Nat.le_trans h.sz.1 hk, Nat.le_trans h.sz.2.1 hk, Nat.le_trans h.sz.2.2.1 hk, Nat.le_trans h.sz.2.2.2 hk⟩
theorem CtR.put {c : Ct} {m : Nat} {it : Item} (h : CtR c m) (hi : it.rd) : CtR (c.put it) (m + 1) := by
  have hu := h.up (Nat.le_succ m)
  obtain ⟨s1, s2, s3, s4⟩ := h.sz
  obtain ⟨u1, u2, u3, u4⟩ := hu.sz
  cases it with
  | relation n w => exact ⟨hu.row, Nat.le_trans (putG_len c.rel n w) (Nat.succ_le_succ s1), u2, u3, u4⟩
  | rule n rel hd b => exact ⟨hu.row, u1, u2, Nat.le_trans (putG_len c.rul n ⟨rel, hd, b⟩) (Nat.succ_le_succ s3), u4⟩
  | denial n b => exact ⟨hu.row, u1, u2, u3, Nat.le_trans (putG_len c.den n b) (Nat.succ_le_succ s4)⟩
  | fact n row =>
    show CtR (if row ∈ rowsOf c n then c else c.sFac (putG c.fac n (rowsOf c n ++ [row]))) (m + 1)
    split
    · exact hu
    · refine ⟨fun {n'} => ?_, u1, Nat.le_trans (putG_len c.fac n (rowsOf c n ++ [row])) (Nat.succ_le_succ s2), u3, u4⟩
      show (∀ r ∈ (valG (putG c.fac n (rowsOf c n ++ [row])) n').getD [], rdR r) ∧ ((valG (putG c.fac n (rowsOf c n ++ [row])) n').getD []).length ≤ m + 1
      rw [valG_put]
      by_cases e : n = n'
      · rw [if_pos e]
        show (∀ r ∈ rowsOf c n ++ [row], rdR r) ∧ (rowsOf c n ++ [row]).length ≤ m + 1
        refine ⟨fun r hr => ?_, by rw [List.length_append]; exact Nat.succ_le_succ h.row.2⟩
        rcases List.mem_append.mp hr with hr | hr
        · exact h.row.1 r hr
        · rw [List.mem_singleton.mp hr]
          exact hi.2
      · rw [if_neg e]
        exact hu.row
theorem ctR0 : CtR ct0 0 := ⟨fun {n} => ⟨fun _ h => (nomatch h), Nat.le_refl _⟩, Nat.le_refl _, Nat.le_refl _, Nat.le_refl _, Nat.le_refl _⟩
theorem puts_R (its : List Item) : (∀ it ∈ its, it.rd) → CtR (puts its) its.length := by
  refine snoc_ind (p := fun its => (∀ it ∈ its, it.rd) → CtR (puts its) its.length) (fun _ => ctR0) (fun xs x ih h => ?_) its
  rw [puts_snoc, List.length_append]
  exact (ih fun it hi => h it (List.mem_append_left _ hi)).put (h x (List.mem_append_right _ (List.mem_singleton.mpr rfl)))
abbrev CtR' (c : Ct) : Prop := CtR c 400000
def InitR (its : List Item) : Prop := (∀ it ∈ its, it.rd) ∧ its.length ≤ 400000
theorem InitR.take {its : List Item} (h : InitR its) (i : Nat) : CtR' (puts (its.take i)) :=
  (puts_R (its.take i) fun it z => h.1 it (List.mem_of_mem_take z)).up (by rw [List.length_take]; have := h.2; omega)
end Ab
set_option Elab.async false
set_option linter.all false
set_option maxRecDepth 1000000
set_option  maxHeartbeats 4000000
namespace K05
open PySem PyProof.Rows L2 Ab
def topS (i : Nat) : Stmt := PySem.Challenge.pw_rulestead_k05_only_written_bytes_are_rea.main.body.getD i (.Pass ⟨0, 0, 0, 0⟩)
abbrev s_value_key : Stmt := topS 6
theorem sc_value_key : FnScope ["value"] ["value"] (defScope s_value_key) := ⟨rfl, rfl, rfl, by decide +kernel, rfl, by decide +kernel, by decide +kernel⟩
abbrev s_row_key : Stmt := topS 7
theorem sc_row_key : FnScope ["row", "value"] ["row"] (defScope s_row_key) := ⟨rfl, rfl, rfl, by decide +kernel, rfl, by decide +kernel, by decide +kernel⟩
abbrev s_State___init__ : Stmt := inClass (topS 9) 0
theorem sc_State___init__ : FnScope ["self", "items", "item"] ["self", "items"] (defScope s_State___init__) := ⟨rfl, rfl, rfl, by decide +kernel, rfl, by decide +kernel, by decide +kernel⟩
abbrev s_State_put : Stmt := inClass (topS 9) 1
theorem sc_State_put : FnScope ["self", "item", "word", "name"] ["self", "item"] (defScope s_State_put) := ⟨rfl, rfl, rfl, by decide +kernel, rfl, by decide +kernel, by decide +kernel⟩
abbrev s_State_tidy : Stmt := inClass (topS 9) 3
theorem sc_State_tidy : FnScope ["self", "names", "name"] ["self"] (defScope s_State_tidy) := ⟨rfl, rfl, rfl, by decide +kernel, rfl, by decide +kernel, by decide +kernel⟩
abbrev s_State_has : Stmt := inClass (topS 9) 5
theorem sc_State_has : FnScope ["self", "relation", "row"] ["self", "relation", "row"] (defScope s_State_has) := ⟨rfl, rfl, rfl, by decide +kernel, rfl, by decide +kernel, by decide +kernel⟩
abbrev s_write_number : Stmt := topS 18
theorem sc_write_number : FnScope ["number", "data"] ["number"] (defScope s_write_number) := ⟨rfl, rfl, rfl, by decide +kernel, rfl, by decide +kernel, by decide +kernel⟩
abbrev s_write_items : Stmt := topS 19
theorem sc_write_items : FnScope ["written", "data", "each"] ["written"] (defScope s_write_items) := ⟨rfl, rfl, rfl, by decide +kernel, rfl, by decide +kernel, by decide +kernel⟩
abbrev s_write_string : Stmt := topS 20
theorem sc_write_string : FnScope ["text", "character"] ["text"] (defScope s_write_string) := ⟨rfl, rfl, rfl, by decide +kernel, rfl, by decide +kernel, by decide +kernel⟩
abbrev s_write_value : Stmt := topS 21
theorem sc_write_value : FnScope ["value"] ["value"] (defScope s_write_value) := ⟨rfl, rfl, rfl, by decide +kernel, rfl, by decide +kernel, by decide +kernel⟩
abbrev s_write_row : Stmt := topS 22
theorem sc_write_row : FnScope ["row", "value"] ["row"] (defScope s_write_row) := ⟨rfl, rfl, rfl, by decide +kernel, rfl, by decide +kernel, by decide +kernel⟩
abbrev s_write_term : Stmt := topS 23
theorem sc_write_term : FnScope ["term", "data"] ["term"] (defScope s_write_term) := ⟨rfl, rfl, rfl, by decide +kernel, rfl, by decide +kernel, by decide +kernel⟩
abbrev s_write_terms : Stmt := topS 24
theorem sc_write_terms : FnScope ["terms", "term"] ["terms"] (defScope s_write_terms) := ⟨rfl, rfl, rfl, by decide +kernel, rfl, by decide +kernel, by decide +kernel⟩
abbrev s_write_literal : Stmt := topS 25
theorem sc_write_literal : FnScope ["literal", "data", "_", "operator", "first", "second", "variable", "name"] ["literal"] (defScope s_write_literal) := ⟨rfl, rfl, rfl, by decide +kernel, rfl, by decide +kernel, by decide +kernel⟩
abbrev s_write_body : Stmt := topS 26
theorem sc_write_body : FnScope ["body", "literal"] ["body"] (defScope s_write_body) := ⟨rfl, rfl, rfl, by decide +kernel, rfl, by decide +kernel, by decide +kernel⟩
abbrev s_write_item : Stmt := topS 27
theorem sc_write_item : FnScope ["item", "data"] ["item"] (defScope s_write_item) := ⟨rfl, rfl, rfl, by decide +kernel, rfl, by decide +kernel, by decide +kernel⟩
abbrev s_write_change : Stmt := topS 28
theorem sc_write_change : FnScope ["change", "word", "what", "sort", "name", "row"] ["change"] (defScope s_write_change) := ⟨rfl, rfl, rfl, by decide +kernel, rfl, by decide +kernel, by decide +kernel⟩
abbrev s_write_changes : Stmt := topS 29
theorem sc_write_changes : FnScope ["changes", "change"] ["changes"] (defScope s_write_changes) := ⟨rfl, rfl, rfl, by decide +kernel, rfl, by decide +kernel, by decide +kernel⟩
abbrev s_Reader___init__ : Stmt := inClass (topS 30) 0
theorem sc_Reader___init__ : FnScope ["self", "data"] ["self", "data"] (defScope s_Reader___init__) := ⟨rfl, rfl, rfl, by decide +kernel, rfl, by decide +kernel, by decide +kernel⟩
abbrev s_Reader_need : Stmt := inClass (topS 30) 1
theorem sc_Reader_need : FnScope ["self", "holds"] ["self", "holds"] (defScope s_Reader_need) := ⟨rfl, rfl, rfl, by decide +kernel, rfl, by decide +kernel, by decide +kernel⟩
abbrev s_Reader_read_byte : Stmt := inClass (topS 30) 2
theorem sc_Reader_read_byte : FnScope ["self", "count"] ["self", "count"] (defScope s_Reader_read_byte) := ⟨rfl, rfl, rfl, by decide +kernel, rfl, by decide +kernel, by decide +kernel⟩
abbrev s_Reader_read_number : Stmt := inClass (topS 30) 3
theorem sc_Reader_read_number : FnScope ["self", "total", "factor", "place", "byte"] ["self"] (defScope s_Reader_read_number) := ⟨rfl, rfl, rfl, by decide +kernel, rfl, by decide +kernel, by decide +kernel⟩
abbrev s_Reader_read_count : Stmt := inClass (topS 30) 4
theorem sc_Reader_read_count : FnScope ["self", "count"] ["self"] (defScope s_Reader_read_count) := ⟨rfl, rfl, rfl, by decide +kernel, rfl, by decide +kernel, by decide +kernel⟩
abbrev s_Reader_read_string : Stmt := inClass (topS 30) 5
theorem sc_Reader_read_string : FnScope ["self", "text", "_", "code"] ["self"] (defScope s_Reader_read_string) := ⟨rfl, rfl, rfl, by decide +kernel, rfl, by decide +kernel, by decide +kernel⟩
abbrev s_Reader_read_value : Stmt := inClass (topS 30) 6
theorem sc_Reader_read_value : FnScope ["self", "is_negative", "number"] ["self"] (defScope s_Reader_read_value) := ⟨rfl, rfl, rfl, by decide +kernel, rfl, by decide +kernel, by decide +kernel⟩
abbrev s_Reader_read_row : Stmt := inClass (topS 30) 7
theorem sc_Reader_read_row : FnScope ["self", "_"] ["self"] (defScope s_Reader_read_row) := ⟨rfl, rfl, rfl, by decide +kernel, rfl, by decide +kernel, by decide +kernel⟩
abbrev s_Reader_read_term : Stmt := inClass (topS 30) 8
theorem sc_Reader_read_term : FnScope ["self", "word"] ["self"] (defScope s_Reader_read_term) := ⟨rfl, rfl, rfl, by decide +kernel, rfl, by decide +kernel, by decide +kernel⟩
abbrev s_Reader_read_terms : Stmt := inClass (topS 30) 9
theorem sc_Reader_read_terms : FnScope ["self", "_"] ["self"] (defScope s_Reader_read_terms) := ⟨rfl, rfl, rfl, by decide +kernel, rfl, by decide +kernel, by decide +kernel⟩
abbrev s_Reader_read_literal : Stmt := inClass (topS 30) 10
theorem sc_Reader_read_literal : FnScope ["self", "word", "operator", "first", "name", "relation"] ["self"] (defScope s_Reader_read_literal) := ⟨rfl, rfl, rfl, by decide +kernel, rfl, by decide +kernel, by decide +kernel⟩
abbrev s_Reader_read_body : Stmt := inClass (topS 30) 11
theorem sc_Reader_read_body : FnScope ["self", "_"] ["self"] (defScope s_Reader_read_body) := ⟨rfl, rfl, rfl, by decide +kernel, rfl, by decide +kernel, by decide +kernel⟩
abbrev s_Reader_read_item : Stmt := inClass (topS 30) 12
theorem sc_Reader_read_item : FnScope ["self", "word", "name", "relation", "terms"] ["self"] (defScope s_Reader_read_item) := ⟨rfl, rfl, rfl, by decide +kernel, rfl, by decide +kernel, by decide +kernel⟩
abbrev s_Reader_read_change : Stmt := inClass (topS 30) 13
theorem sc_Reader_read_change : FnScope ["self", "sort", "name"] ["self"] (defScope s_Reader_read_change) := ⟨rfl, rfl, rfl, by decide +kernel, rfl, by decide +kernel, by decide +kernel⟩
abbrev s_Reader_read_changes : Stmt := inClass (topS 30) 14
theorem sc_Reader_read_changes : FnScope ["self", "_"] ["self"] (defScope s_Reader_read_changes) := ⟨rfl, rfl, rfl, by decide +kernel, rfl, by decide +kernel, by decide +kernel⟩
abbrev s_Reader_read_image : Stmt := inClass (topS 30) 15
theorem sc_Reader_read_image : FnScope ["self", "commits", "items", "_"] ["self"] (defScope s_Reader_read_image) := ⟨rfl, rfl, rfl, by decide +kernel, rfl, by decide +kernel, by decide +kernel⟩
abbrev s_law_next : Stmt := topS 32
theorem sc_law_next : FnScope ["_law_state", "_law_limit", "_law_cell", "_law_value_here"] ["_law_state", "_law_limit"] (defScope s_law_next) := ⟨rfl, rfl, rfl, by decide +kernel, rfl, by decide +kernel, by decide +kernel⟩
abbrev s_law_same : Stmt := topS 33
theorem sc_law_same : FnScope ["_law_actual", "_law_expected", "_law_k"] ["_law_actual", "_law_expected"] (defScope s_law_same) := ⟨rfl, rfl, rfl, by decide +kernel, rfl, by decide +kernel, by decide +kernel⟩
abbrev s_law_characters : Stmt := topS 34
theorem sc_law_characters : FnScope [] [] (defScope s_law_characters) := ⟨rfl, rfl, rfl, by decide +kernel, rfl, by decide +kernel, by decide +kernel⟩
abbrev s_law_value : Stmt := topS 35
theorem sc_law_value : FnScope ["_law_state", "_law_pick", "_law_start", "_law_step", "_law_j"] ["_law_state"] (defScope s_law_value) := ⟨rfl, rfl, rfl, by decide +kernel, rfl, by decide +kernel, by decide +kernel⟩
abbrev s_law_row : Stmt := topS 36
theorem sc_law_row : FnScope ["_law_state", "_law_width", "_law_k"] ["_law_state", "_law_width"] (defScope s_law_row) := ⟨rfl, rfl, rfl, by decide +kernel, rfl, by decide +kernel, by decide +kernel⟩
abbrev s_law_name : Stmt := topS 37
theorem sc_law_name : FnScope ["_law_state"] ["_law_state"] (defScope s_law_name) := ⟨rfl, rfl, rfl, by decide +kernel, rfl, by decide +kernel, by decide +kernel⟩
abbrev s_law_term : Stmt := topS 38
theorem sc_law_term : FnScope ["_law_state", "_law_pick"] ["_law_state"] (defScope s_law_term) := ⟨rfl, rfl, rfl, by decide +kernel, rfl, by decide +kernel, by decide +kernel⟩
abbrev s_law_terms : Stmt := topS 39
theorem sc_law_terms : FnScope ["_law_state", "_law_k"] ["_law_state"] (defScope s_law_terms) := ⟨rfl, rfl, rfl, by decide +kernel, rfl, by decide +kernel, by decide +kernel⟩
abbrev s_law_literal : Stmt := topS 40
theorem sc_law_literal : FnScope ["_law_state", "_law_form", "_law_operator"] ["_law_state"] (defScope s_law_literal) := ⟨rfl, rfl, rfl, by decide +kernel, rfl, by decide +kernel, by decide +kernel⟩
abbrev s_law_body : Stmt := topS 41
theorem sc_law_body : FnScope ["_law_state", "_law_k"] ["_law_state"] (defScope s_law_body) := ⟨rfl, rfl, rfl, by decide +kernel, rfl, by decide +kernel, by decide +kernel⟩
abbrev s_law_item : Stmt := topS 42
theorem sc_law_item : FnScope ["_law_state", "_law_pick", "_law_name_here"] ["_law_state"] (defScope s_law_item) := ⟨rfl, rfl, rfl, by decide +kernel, rfl, by decide +kernel, by decide +kernel⟩
abbrev s_law_before : Stmt := topS 43
theorem sc_law_before : FnScope ["_law_first", "_law_second"] ["_law_first", "_law_second"] (defScope s_law_before) := ⟨rfl, rfl, rfl, by decide +kernel, rfl, by decide +kernel, by decide +kernel⟩
abbrev s_law_order : Stmt := topS 44
theorem sc_law_order : FnScope ["_law_first", "_law_second", "_law_k"] ["_law_first", "_law_second"] (defScope s_law_order) := ⟨rfl, rfl, rfl, by decide +kernel, rfl, by decide +kernel, by decide +kernel⟩
abbrev s_law_key : Stmt := topS 45
theorem sc_law_key : FnScope ["_law_item_here", "_law_sort"] ["_law_item_here"] (defScope s_law_key) := ⟨rfl, rfl, rfl, by decide +kernel, rfl, by decide +kernel, by decide +kernel⟩
abbrev s_law_key_order : Stmt := topS 46
theorem sc_law_key_order : FnScope ["_law_first", "_law_second"] ["_law_first", "_law_second"] (defScope s_law_key_order) := ⟨rfl, rfl, rfl, by decide +kernel, rfl, by decide +kernel, by decide +kernel⟩
abbrev s_law_placed : Stmt := topS 47
theorem sc_law_placed : FnScope ["_law_items_here", "_law_item_here", "_law_before_here", "_law_other", "_law_behind"] ["_law_items_here", "_law_item_here"] (defScope s_law_placed) := ⟨rfl, rfl, rfl, by decide +kernel, rfl, by decide +kernel, by decide +kernel⟩
abbrev s_law_items : Stmt := topS 48
theorem sc_law_items : FnScope ["_law_state", "_law_most", "_law_items_here", "_law_k", "_law_ordered", "_law_item_here"] ["_law_state", "_law_most"] (defScope s_law_items) := ⟨rfl, rfl, rfl, by decide +kernel, rfl, by decide +kernel, by decide +kernel⟩
abbrev s_law_number : Stmt := topS 49
theorem sc_law_number : FnScope ["_law_number_here", "_law_data", "_law_k"] ["_law_number_here"] (defScope s_law_number) := ⟨rfl, rfl, rfl, by decide +kernel, rfl, by decide +kernel, by decide +kernel⟩
abbrev s_law_listed : Stmt := topS 50
theorem sc_law_listed : FnScope ["_law_parts", "_law_data", "_law_part"] ["_law_parts"] (defScope s_law_listed) := ⟨rfl, rfl, rfl, by decide +kernel, rfl, by decide +kernel, by decide +kernel⟩
abbrev s_law_string_code : Stmt := topS 51
theorem sc_law_string_code : FnScope ["_law_text", "_law_chars", "_law_each"] ["_law_text"] (defScope s_law_string_code) := ⟨rfl, rfl, rfl, by decide +kernel, rfl, by decide +kernel, by decide +kernel⟩
abbrev s_law_value_code : Stmt := topS 52
theorem sc_law_value_code : FnScope ["_law_value_here"] ["_law_value_here"] (defScope s_law_value_code) := ⟨rfl, rfl, rfl, by decide +kernel, rfl, by decide +kernel, by decide +kernel⟩
abbrev s_law_row_code : Stmt := topS 53
theorem sc_law_row_code : FnScope ["_law_row_here", "_law_value_here"] ["_law_row_here"] (defScope s_law_row_code) := ⟨rfl, rfl, rfl, by decide +kernel, rfl, by decide +kernel, by decide +kernel⟩
abbrev s_law_term_code : Stmt := topS 54
theorem sc_law_term_code : FnScope ["_law_term_here"] ["_law_term_here"] (defScope s_law_term_code) := ⟨rfl, rfl, rfl, by decide +kernel, rfl, by decide +kernel, by decide +kernel⟩
abbrev s_law_terms_code : Stmt := topS 55
theorem sc_law_terms_code : FnScope ["_law_terms_here", "_law_term_here"] ["_law_terms_here"] (defScope s_law_terms_code) := ⟨rfl, rfl, rfl, by decide +kernel, rfl, by decide +kernel, by decide +kernel⟩
abbrev s_law_literal_code : Stmt := topS 56
theorem sc_law_literal_code : FnScope ["_law_literal_here", "_law_form", "_law_pair"] ["_law_literal_here"] (defScope s_law_literal_code) := ⟨rfl, rfl, rfl, by decide +kernel, rfl, by decide +kernel, by decide +kernel⟩
abbrev s_law_body_code : Stmt := topS 57
theorem sc_law_body_code : FnScope ["_law_body_here", "_law_literal_here"] ["_law_body_here"] (defScope s_law_body_code) := ⟨rfl, rfl, rfl, by decide +kernel, rfl, by decide +kernel, by decide +kernel⟩
abbrev s_law_item_code : Stmt := topS 58
theorem sc_law_item_code : FnScope ["_law_item_here", "_law_data"] ["_law_item_here"] (defScope s_law_item_code) := ⟨rfl, rfl, rfl, by decide +kernel, rfl, by decide +kernel, by decide +kernel⟩
abbrev s_law_change_code : Stmt := topS 59
theorem sc_law_change_code : FnScope ["_law_change", "_law_sort", "_law_name_here", "_law_row_here"] ["_law_change"] (defScope s_law_change_code) := ⟨rfl, rfl, rfl, by decide +kernel, rfl, by decide +kernel, by decide +kernel⟩
abbrev s_law_any_changes : Stmt := topS 60
theorem sc_law_any_changes : FnScope ["_law_state", "_law_most", "_law_changes", "_law_k", "_law_item_here"] ["_law_state", "_law_most"] (defScope s_law_any_changes) := ⟨rfl, rfl, rfl, by decide +kernel, rfl, by decide +kernel, by decide +kernel⟩
abbrev s_law_again : Stmt := topS 61
theorem sc_law_again : FnScope ["_law_reader", "_law_form"] ["_law_reader", "_law_form"] (defScope s_law_again) := ⟨rfl, rfl, rfl, by decide +kernel, rfl, by decide +kernel, by decide +kernel⟩
abbrev s_law_tried : Stmt := topS 62
theorem sc_law_tried : FnScope ["_law_data", "_law_form", "_law_reader", "_law_written", "e"] ["_law_data", "_law_form"] (defScope s_law_tried) := ⟨rfl, rfl, rfl, by decide +kernel, rfl, by decide +kernel, by decide +kernel⟩
abbrev s_law_image_at : Stmt := topS 63
theorem sc_law_image_at : FnScope ["_law_data", "_law_reader", "e"] ["_law_data"] (defScope s_law_image_at) := ⟨rfl, rfl, rfl, by decide +kernel, rfl, by decide +kernel, by decide +kernel⟩
abbrev s_law_items_at : Stmt := topS 64
theorem sc_law_items_at : FnScope ["_law_data", "_law_reader", "_law_count", "_law_k"] ["_law_data"] (defScope s_law_items_at) := ⟨rfl, rfl, rfl, by decide +kernel, rfl, by decide +kernel, by decide +kernel⟩
abbrev s_law_drawn : Stmt := topS 65
theorem sc_law_drawn : FnScope ["_law_state", "_law_k", "_law_items_here", "_law_things", "_law_each", "_law_item_here", "_law_data", "_law_at", "_law_byte", "_law_pick"] ["_law_state"] (defScope s_law_drawn) := ⟨rfl, rfl, rfl, by decide +kernel, rfl, by decide +kernel, by decide +kernel⟩
abbrev s_law_faults : Stmt := topS 66
theorem sc_law_faults : FnScope ["_law_state", "_law_number_here", "_law_needless", "_law_code", "_law_wrong"] ["_law_state"] (defScope s_law_faults) := ⟨rfl, rfl, rfl, by decide +kernel, rfl, by decide +kernel, by decide +kernel⟩
abbrev s_law : Stmt := topS 67
theorem sc_law : FnScope ["_law_script", "_law_state", "_law_k", "_law_data", "_law_form", "_law_told", "_law_most", "_law_bounds"] ["_law_script"] (defScope s_law) := ⟨rfl, rfl, rfl, by decide +kernel, rfl, by decide +kernel, by decide +kernel⟩
structure AD where
  value_key : Addr
  row_key : Addr
  State___init__ : Addr
  State_put : Addr
  State_tidy : Addr
  State_has : Addr
  write_number : Addr
  write_items : Addr
  write_string : Addr
  write_value : Addr
  write_row : Addr
  write_term : Addr
  write_terms : Addr
  write_literal : Addr
  write_body : Addr
  write_item : Addr
  write_change : Addr
  write_changes : Addr
  Reader___init__ : Addr
  Reader_need : Addr
  Reader_read_byte : Addr
  Reader_read_number : Addr
  Reader_read_count : Addr
  Reader_read_string : Addr
  Reader_read_value : Addr
  Reader_read_row : Addr
  Reader_read_term : Addr
  Reader_read_terms : Addr
  Reader_read_literal : Addr
  Reader_read_body : Addr
  Reader_read_item : Addr
  Reader_read_change : Addr
  Reader_read_changes : Addr
  Reader_read_image : Addr
  law_next : Addr
  law_same : Addr
  law_characters : Addr
  law_value : Addr
  law_row : Addr
  law_name : Addr
  law_term : Addr
  law_terms : Addr
  law_literal : Addr
  law_body : Addr
  law_item : Addr
  law_before : Addr
  law_order : Addr
  law_key : Addr
  law_key_order : Addr
  law_placed : Addr
  law_items : Addr
  law_number : Addr
  law_listed : Addr
  law_string_code : Addr
  law_value_code : Addr
  law_row_code : Addr
  law_term_code : Addr
  law_terms_code : Addr
  law_literal_code : Addr
  law_body_code : Addr
  law_item_code : Addr
  law_change_code : Addr
  law_any_changes : Addr
  law_again : Addr
  law_tried : Addr
  law_image_at : Addr
  law_items_at : Addr
  law_drawn : Addr
  law_faults : Addr
  law : Addr
  e0_State___init__ : Addr
  Reader : Addr
  State : Addr
  DamagedData : Addr
  RuleError : Addr
  t_CHARACTERS_BEFORE : Tok
  t_CHARACTERS_BEHIND : Tok
  t_NUMBER_BYTES : Tok
  c_COMPARISONS : Addr
  c_LITERALS : Addr
  c_OPERATORS : Addr
  c_TERMS : Addr
  c_WORDS : Addr
structure FD where
  value_key : FuncData
  row_key : FuncData
  State___init__ : FuncData
  State_put : FuncData
  State_tidy : FuncData
  State_has : FuncData
  write_number : FuncData
  write_items : FuncData
  write_string : FuncData
  write_value : FuncData
  write_row : FuncData
  write_term : FuncData
  write_terms : FuncData
  write_literal : FuncData
  write_body : FuncData
  write_item : FuncData
  write_change : FuncData
  write_changes : FuncData
  Reader___init__ : FuncData
  Reader_need : FuncData
  Reader_read_byte : FuncData
  Reader_read_number : FuncData
  Reader_read_count : FuncData
  Reader_read_string : FuncData
  Reader_read_value : FuncData
  Reader_read_row : FuncData
  Reader_read_term : FuncData
  Reader_read_terms : FuncData
  Reader_read_literal : FuncData
  Reader_read_body : FuncData
  Reader_read_item : FuncData
  Reader_read_change : FuncData
  Reader_read_changes : FuncData
  Reader_read_image : FuncData
  law_next : FuncData
  law_same : FuncData
  law_characters : FuncData
  law_value : FuncData
  law_row : FuncData
  law_name : FuncData
  law_term : FuncData
  law_terms : FuncData
  law_literal : FuncData
  law_body : FuncData
  law_item : FuncData
  law_before : FuncData
  law_order : FuncData
  law_key : FuncData
  law_key_order : FuncData
  law_placed : FuncData
  law_items : FuncData
  law_number : FuncData
  law_listed : FuncData
  law_string_code : FuncData
  law_value_code : FuncData
  law_row_code : FuncData
  law_term_code : FuncData
  law_terms_code : FuncData
  law_literal_code : FuncData
  law_body_code : FuncData
  law_item_code : FuncData
  law_change_code : FuncData
  law_any_changes : FuncData
  law_again : FuncData
  law_tried : FuncData
  law_image_at : FuncData
  law_items_at : FuncData
  law_drawn : FuncData
  law_faults : FuncData
  law : FuncData
structure Txt (K : PySem.W.Frag) (mg : Str → Option Value) (a : AD) (d : FD) : Prop where
  F_value_key : Fun K "value_key" "value_key" s_value_key a.value_key d.value_key
  g_value_key : mg "value_key" = some (.ref a.value_key)
  b_value_key : Binds K d.value_key ["value"] []
  F_row_key : Fun K "row_key" "row_key" s_row_key a.row_key d.row_key
  g_row_key : mg "row_key" = some (.ref a.row_key)
  b_row_key : Binds K d.row_key ["row"] []
  F_State___init__ : FunD K "__init__" "State.__init__" (defArgs s_State___init__) (defBody s_State___init__) (defScope s_State___init__) [.ref a.e0_State___init__] [] a.State___init__ d.State___init__
  bd_State___init__ : Binds K d.State___init__ ["self", "items"] [.ref a.e0_State___init__]
  e0_State___init__ : Tup0 K a.e0_State___init__
  m_State___init__ : Meth K a.State "__init__" a.State___init__
  b_State___init__ : Binds K d.State___init__ ["self", "items"] []
  F_State_put : Fun K "put" "State.put" s_State_put a.State_put d.State_put
  m_State_put : Meth K a.State "put" a.State_put
  b_State_put : Binds K d.State_put ["self", "item"] []
  F_State_tidy : Fun K "tidy" "State.tidy" s_State_tidy a.State_tidy d.State_tidy
  m_State_tidy : Meth K a.State "tidy" a.State_tidy
  b_State_tidy : Binds K d.State_tidy ["self"] []
  F_State_has : Fun K "has" "State.has" s_State_has a.State_has d.State_has
  m_State_has : Meth K a.State "has" a.State_has
  b_State_has : Binds K d.State_has ["self", "relation", "row"] []
  F_write_number : Fun K "write_number" "write_number" s_write_number a.write_number d.write_number
  g_write_number : mg "write_number" = some (.ref a.write_number)
  b_write_number : Binds K d.write_number ["number"] []
  F_write_items : Fun K "write_items" "write_items" s_write_items a.write_items d.write_items
  g_write_items : mg "write_items" = some (.ref a.write_items)
  b_write_items : Binds K d.write_items ["written"] []
  F_write_string : Fun K "write_string" "write_string" s_write_string a.write_string d.write_string
  g_write_string : mg "write_string" = some (.ref a.write_string)
  b_write_string : Binds K d.write_string ["text"] []
  F_write_value : Fun K "write_value" "write_value" s_write_value a.write_value d.write_value
  g_write_value : mg "write_value" = some (.ref a.write_value)
  b_write_value : Binds K d.write_value ["value"] []
  F_write_row : Fun K "write_row" "write_row" s_write_row a.write_row d.write_row
  g_write_row : mg "write_row" = some (.ref a.write_row)
  b_write_row : Binds K d.write_row ["row"] []
  F_write_term : Fun K "write_term" "write_term" s_write_term a.write_term d.write_term
  g_write_term : mg "write_term" = some (.ref a.write_term)
  b_write_term : Binds K d.write_term ["term"] []
  F_write_terms : Fun K "write_terms" "write_terms" s_write_terms a.write_terms d.write_terms
  g_write_terms : mg "write_terms" = some (.ref a.write_terms)
  b_write_terms : Binds K d.write_terms ["terms"] []
  F_write_literal : Fun K "write_literal" "write_literal" s_write_literal a.write_literal d.write_literal
  g_write_literal : mg "write_literal" = some (.ref a.write_literal)
  b_write_literal : Binds K d.write_literal ["literal"] []
  F_write_body : Fun K "write_body" "write_body" s_write_body a.write_body d.write_body
  g_write_body : mg "write_body" = some (.ref a.write_body)
  b_write_body : Binds K d.write_body ["body"] []
  F_write_item : Fun K "write_item" "write_item" s_write_item a.write_item d.write_item
  g_write_item : mg "write_item" = some (.ref a.write_item)
  b_write_item : Binds K d.write_item ["item"] []
  F_write_change : Fun K "write_change" "write_change" s_write_change a.write_change d.write_change
  g_write_change : mg "write_change" = some (.ref a.write_change)
  b_write_change : Binds K d.write_change ["change"] []
  F_write_changes : Fun K "write_changes" "write_changes" s_write_changes a.write_changes d.write_changes
  g_write_changes : mg "write_changes" = some (.ref a.write_changes)
  b_write_changes : Binds K d.write_changes ["changes"] []
  F_Reader___init__ : Fun K "__init__" "Reader.__init__" s_Reader___init__ a.Reader___init__ d.Reader___init__
  m_Reader___init__ : Meth K a.Reader "__init__" a.Reader___init__
  b_Reader___init__ : Binds K d.Reader___init__ ["self", "data"] []
  F_Reader_need : Fun K "need" "Reader.need" s_Reader_need a.Reader_need d.Reader_need
  m_Reader_need : Meth K a.Reader "need" a.Reader_need
  b_Reader_need : Binds K d.Reader_need ["self", "holds"] []
  F_Reader_read_byte : Fun K "read_byte" "Reader.read_byte" s_Reader_read_byte a.Reader_read_byte d.Reader_read_byte
  m_Reader_read_byte : Meth K a.Reader "read_byte" a.Reader_read_byte
  b_Reader_read_byte : Binds K d.Reader_read_byte ["self", "count"] []
  F_Reader_read_number : Fun K "read_number" "Reader.read_number" s_Reader_read_number a.Reader_read_number d.Reader_read_number
  m_Reader_read_number : Meth K a.Reader "read_number" a.Reader_read_number
  b_Reader_read_number : Binds K d.Reader_read_number ["self"] []
  F_Reader_read_count : Fun K "read_count" "Reader.read_count" s_Reader_read_count a.Reader_read_count d.Reader_read_count
  m_Reader_read_count : Meth K a.Reader "read_count" a.Reader_read_count
  b_Reader_read_count : Binds K d.Reader_read_count ["self"] []
  F_Reader_read_string : Fun K "read_string" "Reader.read_string" s_Reader_read_string a.Reader_read_string d.Reader_read_string
  m_Reader_read_string : Meth K a.Reader "read_string" a.Reader_read_string
  b_Reader_read_string : Binds K d.Reader_read_string ["self"] []
  F_Reader_read_value : Fun K "read_value" "Reader.read_value" s_Reader_read_value a.Reader_read_value d.Reader_read_value
  m_Reader_read_value : Meth K a.Reader "read_value" a.Reader_read_value
  b_Reader_read_value : Binds K d.Reader_read_value ["self"] []
  F_Reader_read_row : Fun K "read_row" "Reader.read_row" s_Reader_read_row a.Reader_read_row d.Reader_read_row
  m_Reader_read_row : Meth K a.Reader "read_row" a.Reader_read_row
  b_Reader_read_row : Binds K d.Reader_read_row ["self"] []
  F_Reader_read_term : Fun K "read_term" "Reader.read_term" s_Reader_read_term a.Reader_read_term d.Reader_read_term
  m_Reader_read_term : Meth K a.Reader "read_term" a.Reader_read_term
  b_Reader_read_term : Binds K d.Reader_read_term ["self"] []
  F_Reader_read_terms : Fun K "read_terms" "Reader.read_terms" s_Reader_read_terms a.Reader_read_terms d.Reader_read_terms
  m_Reader_read_terms : Meth K a.Reader "read_terms" a.Reader_read_terms
  b_Reader_read_terms : Binds K d.Reader_read_terms ["self"] []
  F_Reader_read_literal : Fun K "read_literal" "Reader.read_literal" s_Reader_read_literal a.Reader_read_literal d.Reader_read_literal
  m_Reader_read_literal : Meth K a.Reader "read_literal" a.Reader_read_literal
  b_Reader_read_literal : Binds K d.Reader_read_literal ["self"] []
  F_Reader_read_body : Fun K "read_body" "Reader.read_body" s_Reader_read_body a.Reader_read_body d.Reader_read_body
  m_Reader_read_body : Meth K a.Reader "read_body" a.Reader_read_body
  b_Reader_read_body : Binds K d.Reader_read_body ["self"] []
  F_Reader_read_item : Fun K "read_item" "Reader.read_item" s_Reader_read_item a.Reader_read_item d.Reader_read_item
  m_Reader_read_item : Meth K a.Reader "read_item" a.Reader_read_item
  b_Reader_read_item : Binds K d.Reader_read_item ["self"] []
  F_Reader_read_change : Fun K "read_change" "Reader.read_change" s_Reader_read_change a.Reader_read_change d.Reader_read_change
  m_Reader_read_change : Meth K a.Reader "read_change" a.Reader_read_change
  b_Reader_read_change : Binds K d.Reader_read_change ["self"] []
  F_Reader_read_changes : Fun K "read_changes" "Reader.read_changes" s_Reader_read_changes a.Reader_read_changes d.Reader_read_changes
  m_Reader_read_changes : Meth K a.Reader "read_changes" a.Reader_read_changes
  b_Reader_read_changes : Binds K d.Reader_read_changes ["self"] []
  F_Reader_read_image : Fun K "read_image" "Reader.read_image" s_Reader_read_image a.Reader_read_image d.Reader_read_image
  m_Reader_read_image : Meth K a.Reader "read_image" a.Reader_read_image
  b_Reader_read_image : Binds K d.Reader_read_image ["self"] []
  F_law_next : Fun K "_law_next" "_law_next" s_law_next a.law_next d.law_next
  g_law_next : mg "_law_next" = some (.ref a.law_next)
  b_law_next : Binds K d.law_next ["_law_state", "_law_limit"] []
  F_law_same : Fun K "_law_same" "_law_same" s_law_same a.law_same d.law_same
  g_law_same : mg "_law_same" = some (.ref a.law_same)
  b_law_same : Binds K d.law_same ["_law_actual", "_law_expected"] []
  F_law_characters : Fun K "_law_characters" "_law_characters" s_law_characters a.law_characters d.law_characters
  g_law_characters : mg "_law_characters" = some (.ref a.law_characters)
  b_law_characters : Binds K d.law_characters [] []
  F_law_value : Fun K "_law_value" "_law_value" s_law_value a.law_value d.law_value
  g_law_value : mg "_law_value" = some (.ref a.law_value)
  b_law_value : Binds K d.law_value ["_law_state"] []
  F_law_row : Fun K "_law_row" "_law_row" s_law_row a.law_row d.law_row
  g_law_row : mg "_law_row" = some (.ref a.law_row)
  b_law_row : Binds K d.law_row ["_law_state", "_law_width"] []
  F_law_name : Fun K "_law_name" "_law_name" s_law_name a.law_name d.law_name
  g_law_name : mg "_law_name" = some (.ref a.law_name)
  b_law_name : Binds K d.law_name ["_law_state"] []
  F_law_term : Fun K "_law_term" "_law_term" s_law_term a.law_term d.law_term
  g_law_term : mg "_law_term" = some (.ref a.law_term)
  b_law_term : Binds K d.law_term ["_law_state"] []
  F_law_terms : Fun K "_law_terms" "_law_terms" s_law_terms a.law_terms d.law_terms
  g_law_terms : mg "_law_terms" = some (.ref a.law_terms)
  b_law_terms : Binds K d.law_terms ["_law_state"] []
  F_law_literal : Fun K "_law_literal" "_law_literal" s_law_literal a.law_literal d.law_literal
  g_law_literal : mg "_law_literal" = some (.ref a.law_literal)
  b_law_literal : Binds K d.law_literal ["_law_state"] []
  F_law_body : Fun K "_law_body" "_law_body" s_law_body a.law_body d.law_body
  g_law_body : mg "_law_body" = some (.ref a.law_body)
  b_law_body : Binds K d.law_body ["_law_state"] []
  F_law_item : Fun K "_law_item" "_law_item" s_law_item a.law_item d.law_item
  g_law_item : mg "_law_item" = some (.ref a.law_item)
  b_law_item : Binds K d.law_item ["_law_state"] []
  F_law_before : Fun K "_law_before" "_law_before" s_law_before a.law_before d.law_before
  g_law_before : mg "_law_before" = some (.ref a.law_before)
  b_law_before : Binds K d.law_before ["_law_first", "_law_second"] []
  F_law_order : Fun K "_law_order" "_law_order" s_law_order a.law_order d.law_order
  g_law_order : mg "_law_order" = some (.ref a.law_order)
  b_law_order : Binds K d.law_order ["_law_first", "_law_second"] []
  F_law_key : Fun K "_law_key" "_law_key" s_law_key a.law_key d.law_key
  g_law_key : mg "_law_key" = some (.ref a.law_key)
  b_law_key : Binds K d.law_key ["_law_item_here"] []
  F_law_key_order : Fun K "_law_key_order" "_law_key_order" s_law_key_order a.law_key_order d.law_key_order
  g_law_key_order : mg "_law_key_order" = some (.ref a.law_key_order)
  b_law_key_order : Binds K d.law_key_order ["_law_first", "_law_second"] []
  F_law_placed : Fun K "_law_placed" "_law_placed" s_law_placed a.law_placed d.law_placed
  g_law_placed : mg "_law_placed" = some (.ref a.law_placed)
  b_law_placed : Binds K d.law_placed ["_law_items_here", "_law_item_here"] []
  F_law_items : Fun K "_law_items" "_law_items" s_law_items a.law_items d.law_items
  g_law_items : mg "_law_items" = some (.ref a.law_items)
  b_law_items : Binds K d.law_items ["_law_state", "_law_most"] []
  F_law_number : Fun K "_law_number" "_law_number" s_law_number a.law_number d.law_number
  g_law_number : mg "_law_number" = some (.ref a.law_number)
  b_law_number : Binds K d.law_number ["_law_number_here"] []
  F_law_listed : Fun K "_law_listed" "_law_listed" s_law_listed a.law_listed d.law_listed
  g_law_listed : mg "_law_listed" = some (.ref a.law_listed)
  b_law_listed : Binds K d.law_listed ["_law_parts"] []
  F_law_string_code : Fun K "_law_string_code" "_law_string_code" s_law_string_code a.law_string_code d.law_string_code
  g_law_string_code : mg "_law_string_code" = some (.ref a.law_string_code)
  b_law_string_code : Binds K d.law_string_code ["_law_text"] []
  F_law_value_code : Fun K "_law_value_code" "_law_value_code" s_law_value_code a.law_value_code d.law_value_code
  g_law_value_code : mg "_law_value_code" = some (.ref a.law_value_code)
  b_law_value_code : Binds K d.law_value_code ["_law_value_here"] []
  F_law_row_code : Fun K "_law_row_code" "_law_row_code" s_law_row_code a.law_row_code d.law_row_code
  g_law_row_code : mg "_law_row_code" = some (.ref a.law_row_code)
  b_law_row_code : Binds K d.law_row_code ["_law_row_here"] []
  F_law_term_code : Fun K "_law_term_code" "_law_term_code" s_law_term_code a.law_term_code d.law_term_code
  g_law_term_code : mg "_law_term_code" = some (.ref a.law_term_code)
  b_law_term_code : Binds K d.law_term_code ["_law_term_here"] []
  F_law_terms_code : Fun K "_law_terms_code" "_law_terms_code" s_law_terms_code a.law_terms_code d.law_terms_code
  g_law_terms_code : mg "_law_terms_code" = some (.ref a.law_terms_code)
  b_law_terms_code : Binds K d.law_terms_code ["_law_terms_here"] []
  F_law_literal_code : Fun K "_law_literal_code" "_law_literal_code" s_law_literal_code a.law_literal_code d.law_literal_code
  g_law_literal_code : mg "_law_literal_code" = some (.ref a.law_literal_code)
  b_law_literal_code : Binds K d.law_literal_code ["_law_literal_here"] []
  F_law_body_code : Fun K "_law_body_code" "_law_body_code" s_law_body_code a.law_body_code d.law_body_code
  g_law_body_code : mg "_law_body_code" = some (.ref a.law_body_code)
  b_law_body_code : Binds K d.law_body_code ["_law_body_here"] []
  F_law_item_code : Fun K "_law_item_code" "_law_item_code" s_law_item_code a.law_item_code d.law_item_code
  g_law_item_code : mg "_law_item_code" = some (.ref a.law_item_code)
  b_law_item_code : Binds K d.law_item_code ["_law_item_here"] []
  F_law_change_code : Fun K "_law_change_code" "_law_change_code" s_law_change_code a.law_change_code d.law_change_code
  g_law_change_code : mg "_law_change_code" = some (.ref a.law_change_code)
  b_law_change_code : Binds K d.law_change_code ["_law_change"] []
  F_law_any_changes : Fun K "_law_any_changes" "_law_any_changes" s_law_any_changes a.law_any_changes d.law_any_changes
  g_law_any_changes : mg "_law_any_changes" = some (.ref a.law_any_changes)
  b_law_any_changes : Binds K d.law_any_changes ["_law_state", "_law_most"] []
  F_law_again : Fun K "_law_again" "_law_again" s_law_again a.law_again d.law_again
  g_law_again : mg "_law_again" = some (.ref a.law_again)
  b_law_again : Binds K d.law_again ["_law_reader", "_law_form"] []
  F_law_tried : Fun K "_law_tried" "_law_tried" s_law_tried a.law_tried d.law_tried
  g_law_tried : mg "_law_tried" = some (.ref a.law_tried)
  b_law_tried : Binds K d.law_tried ["_law_data", "_law_form"] []
  F_law_image_at : Fun K "_law_image_at" "_law_image_at" s_law_image_at a.law_image_at d.law_image_at
  g_law_image_at : mg "_law_image_at" = some (.ref a.law_image_at)
  b_law_image_at : Binds K d.law_image_at ["_law_data"] []
  F_law_items_at : Fun K "_law_items_at" "_law_items_at" s_law_items_at a.law_items_at d.law_items_at
  g_law_items_at : mg "_law_items_at" = some (.ref a.law_items_at)
  b_law_items_at : Binds K d.law_items_at ["_law_data"] []
  F_law_drawn : Fun K "_law_drawn" "_law_drawn" s_law_drawn a.law_drawn d.law_drawn
  g_law_drawn : mg "_law_drawn" = some (.ref a.law_drawn)
  b_law_drawn : Binds K d.law_drawn ["_law_state"] []
  F_law_faults : Fun K "_law_faults" "_law_faults" s_law_faults a.law_faults d.law_faults
  g_law_faults : mg "_law_faults" = some (.ref a.law_faults)
  b_law_faults : Binds K d.law_faults ["_law_state"] []
  F_law : Fun K "law" "law" s_law a.law d.law
  g_law : mg "law" = some (.ref a.law)
  b_law : Binds K d.law ["_law_script"] []
  g_Reader : mg "Reader" = some (.ref a.Reader)
  cl_Reader : Cls K a.Reader
  mk_Reader : Mk K a.Reader a.Reader___init__
  na_Reader_data : NoAttr K a.Reader "data"
  na_Reader_at : NoAttr K a.Reader "at"
  g_State : mg "State" = some (.ref a.State)
  cl_State : Cls K a.State
  mk_State : Mk K a.State a.State___init__
  na_State_relations : NoAttr K a.State "relations"
  na_State_facts : NoAttr K a.State "facts"
  na_State_rules : NoAttr K a.State "rules"
  na_State_denials : NoAttr K a.State "denials"
  g_DamagedData : mg "DamagedData" = some (.ref a.DamagedData)
  x_DamagedData : PySem.W.excIn K a.DamagedData [.type "ValueError", .type "Exception", .type "BaseException", .type "object"] "ValueError.__new__" = true
  kp_DamagedData : PySem.W.keepIn K (.ref a.DamagedData) = true
  bs_DamagedData : PySem.W.subIn K (.ref a.DamagedData) (.type "BaseException") = some true
  ty_DamagedData : PySem.W.typeIn K (.ref a.DamagedData) = some (.type "type")
  hd_DamagedData : PySem.W.hasDictIn K a.DamagedData = true
  s_DamagedData_DamagedData : PySem.W.subIn K (.ref a.DamagedData) (.ref a.DamagedData) = some true
  s_DamagedData_RuleError : PySem.W.subIn K (.ref a.DamagedData) (.ref a.RuleError) = some true
  g_RuleError : mg "RuleError" = some (.ref a.RuleError)
  x_RuleError : PySem.W.excIn K a.RuleError [.type "ValueError", .type "Exception", .type "BaseException", .type "object"] "ValueError.__new__" = true
  kp_RuleError : PySem.W.keepIn K (.ref a.RuleError) = true
  bs_RuleError : PySem.W.subIn K (.ref a.RuleError) (.type "BaseException") = some true
  ty_RuleError : PySem.W.typeIn K (.ref a.RuleError) = some (.type "type")
  hd_RuleError : PySem.W.hasDictIn K a.RuleError = true
  s_RuleError_DamagedData : PySem.W.subIn K (.ref a.RuleError) (.ref a.DamagedData) = some false
  s_RuleError_RuleError : PySem.W.subIn K (.ref a.RuleError) (.ref a.RuleError) = some true
  xc_DamagedData : ExcC K a.DamagedData
  ki_DamagedData_DamagedData : PySem.W.kitOne K (.ref a.DamagedData) (.ref a.DamagedData) = some true
  n_abs : mg "abs" = none
  n_bool : mg "bool" = none
  n_int : mg "int" = none
  n_isinstance : mg "isinstance" = none
  n_len : mg "len" = none
  n_list : mg "list" = none
  n_min : mg "min" = none
  n_ord : mg "ord" = none
  n_range : mg "range" = none
  n_sorted : mg "sorted" = none
  n_str : mg "str" = none
  n_tuple : mg "tuple" = none
  c_CHARACTERS_BEFORE : mg "CHARACTERS_BEFORE" = some (.str " !\"#$" a.t_CHARACTERS_BEFORE)
  c_CHARACTERS_BEHIND : mg "CHARACTERS_BEHIND" = some (.str "&'()*+,-./0123456789:;<=>?@ABCDEFGHIJKLMNOPQRSTUVWXYZ[\\]^_`abcdefghijklmnopqrstuvwxyz{|}~" a.t_CHARACTERS_BEHIND)
  c_NUMBER_BYTES : mg "NUMBER_BYTES" = some (.int 60 a.t_NUMBER_BYTES)
  c_COMPARISONS : mg "COMPARISONS" = some (.ref a.c_COMPARISONS)
  k_COMPARISONS : TupC K a.c_COMPARISONS ["=", "<>", "<", "<=", ">", ">="]
  c_LITERALS : mg "LITERALS" = some (.ref a.c_LITERALS)
  k_LITERALS : TupC K a.c_LITERALS ["fact", "not", "compare", "is", "count"]
  c_OPERATORS : mg "OPERATORS" = some (.ref a.c_OPERATORS)
  k_OPERATORS : TupC K a.c_OPERATORS ["+", "-", "*"]
  c_TERMS : mg "TERMS" = some (.ref a.c_TERMS)
  k_TERMS : TupC K a.c_TERMS ["value", "variable", "any"]
  c_WORDS : mg "WORDS" = some (.ref a.c_WORDS)
  k_WORDS : TupC K a.c_WORDS ["relation", "fact", "rule", "denial"]
local macro_rules | `(tactic| walk_at "len") => `(tactic| first | decide | omega | (simp only [List.length_append, List.length_map, List.length_replicate, List.length_cons, List.length_nil, List.length_take, List.length_drop, List.length_reverse, List.length_range]; omega))
local macro_rules | `(tactic| walk_at "str") => `(tactic| first | decide +kernel | exact goodS_ok (by assumption) | assumption)
local macro_rules | `(tactic| walk_at "1") => `(tactic| ((with_reducible show ∃ ds : List PyData, datsOf _ = some ds ∧ _); (refine ⟨_, rfl, ?_⟩)))
local macro_rules | `(tactic| walk_at "1") => `(tactic| ((with_reducible show List.length _ ≤ 1000000 ∧ _); (refine ⟨(by simp), ?_⟩)))
local macro_rules | `(tactic| walk_at "1") => `(tactic| ((with_reducible show ∃ i : Int, _ = Sl.int i ∧ _); (with_reducible refine ⟨_, rfl, ?_⟩)))
local macro_rules | `(tactic| walk_at "1") => `(tactic| ((with_reducible show ∃ b : Bool, _ = Sl.bl b ∧ _); (with_reducible refine ⟨_, rfl, ?_⟩)))
local macro_rules | `(tactic| walk_at "1") => `(tactic| ((with_reducible refine' ite_f ?hb ?_); (case hb => decide +kernel); skip))
local macro_rules | `(tactic| walk_at "1") => `(tactic| ((with_reducible refine' ite_t ?hb ?_); (case hb => decide +kernel); skip))
local macro_rules | `(tactic| walk_at "1") => `(tactic| (with_reducible refine ite_f rfl ?_))
local macro_rules | `(tactic| walk_at "1") => `(tactic| (with_reducible refine ite_t rfl ?_))
local macro_rules | `(tactic| walk_at "1") => `(tactic| ((with_reducible show WS _ Ends.nx _ _ _); (refine ws_next ?_)))
local macro_rules | `(tactic| walk_at "1") => `(tactic| (with_reducible refine ws_next ?_))
local macro_rules | `(tactic| walk_at "1") => `(tactic| ((with_reducible refine' ws_fldI ?hv ?c ?n ?_); (case hv => exact rfl); (case c => assumption); (case n => assumption); skip))
local macro_rules | `(tactic| walk_at "1") => `(tactic| ((with_reducible refine' w_dgetI ?hv ?hM ?hx ?_); (case hv => exact rfl); (case hM => first | assumption | exact um_same); (case hx => walk_at "wg"); skip))
local macro_rules | `(tactic| walk_at "1") => `(tactic| ((with_reducible refine' w_fldI ?hv ?hM ?c ?n ?l ?_); (case hv => exact rfl); (case hM => first | assumption | exact um_same); (case c => assumption); (case n => assumption); (case l => walk_at "fl"); skip))
local macro_rules | `(tactic| walk_at "1") => `(tactic| ((with_reducible show WL _ _ [_] _ _); (refine' wl_lenT ?hl ?_); (case hl => exact tpv_dat); skip))
local macro_rules | `(tactic| walk_at "1") => `(tactic| ((with_reducible show W2 _ (rCatA _) _ _ _ _); (refine' w2_catT ?hl ?_); (try (case hl => walk_at "len")); skip))
local macro_rules | `(tactic| walk_at "1") => `(tactic| ((with_reducible show WL _ (rTupS _) [Sl.dat (PyData.list _)] _ _); (refine wl_tuple lsv_dat ?_)))
local macro_rules | `(tactic| walk_at "1") => `(tactic| ((with_reducible show WSl _ (rSlA _) _ _ _ _ _); (refine wsl_tup ?_)))
local macro_rules | `(tactic| walk_at "1") => `(tactic| ((with_reducible show W _ (tC (V.ref _)) _ _ _); (refine w_raw ?_)))
local macro_rules | `(tactic| walk_at "1") => `(tactic| ((with_reducible show W _ (tC (V.ty _)) _ _ _); (refine w_raw ?_)))
local macro_rules | `(tactic| walk_at "1") => `(tactic| ((with_reducible show WL _ (rIsi _) [_, _] _ _); (refine' wl_isi ?hb ?_); (case hb => first | exact isi_bool _ | exact isi_int _ | exact isi_str _ | exact isi_tuple _ | exact isi_list _); skip))
local macro_rules | `(tactic| walk_at "1") => `(tactic| ((with_reducible show W2 _ (rIxT _) _ _ _ _); (refine' w2_ixT ?hx ?_); (case hx => exact rfl); skip))
local macro_rules | `(tactic| walk_at "1") => `(tactic| ((with_reducible show W2 _ (rIxL _) _ _ _ _); (refine' w2_ixL ?hs ?hx ?_); (case hs => first | exact lsv_dat | exact lsv_ref um_same | exact lsv_ref (by assumption)); (try (case hx => exact rfl)); skip))
local macro_rules | `(tactic| walk_at "1") => `(tactic| ((with_reducible first | show W2 _ (rIxL _) (Sl.dat (PyData.list (List.cons _ _))) (Sl.dat (PyData.int _)) _ _ | show W2 _ (rIxL _) (Sl.dat (PyData.list (List.map PyData.int (List.cons _ _)))) (Sl.dat (PyData.int _)) _ _); (refine' w2_ixAny ?h0 ?h1 ?_); (case h0 => omega); (case h1 => first | omega | (simp only [List.length_cons, List.length_nil, List.length_map]; omega)); skip))
local macro_rules | `(tactic| walk_at "1") => `(tactic| ((with_reducible show WL _ _ [_, _] _ _); (refine wl_min ?_)))
local macro_rules | `(tactic| walk_at "1") => `(tactic| ((with_reducible show WL _ _ [_] _ _); (refine wl_intb ?_)))
local macro_rules | `(tactic| walk_at "1") => `(tactic| ((with_reducible show WL _ _ [_] _ _); (refine wl_int ?_)))
local macro_rules | `(tactic| walk_at "1") => `(tactic| ((with_reducible show WSl _ (rSlL _) _ _ _ _ _); (refine' wsl_lst ?hl ?_); (case hl => first | exact lsv_dat | exact lsv_ref um_same | exact lsv_ref (by assumption)); skip))
local macro_rules | `(tactic| walk_at "1") => `(tactic| ((with_reducible show WL _ _ [_] _ _); (refine' wl_list ?hl ?_); (case hl => first | exact .inl lsv_dat | exact .inl (lsv_ref (by assumption))); skip))
local macro_rules | `(tactic| walk_at "1") => `(tactic| ((with_reducible show WL _ _ [_] _ _); (refine' wl_len ?hl ?_); (case hl => first | exact lsv_dat | exact lsv_ref um_same | exact lsv_ref (by assumption)); skip))
local macro_rules | `(tactic| walk_at "1") => `(tactic| ((with_reducible refine' w2_rep1 ?h1 ?h2 ?_); (try (case h1 => first | decide | omega)); (try (case h2 => first | decide | omega)); skip))
local macro_rules | `(tactic| walk_at "1") => `(tactic| ((with_reducible refine' w2_catE ?hl ?_); (try (case hl => walk_at "len")); skip))
local macro_rules | `(tactic| walk_at "1") => `(tactic| (with_reducible refine wsl_E ?_))
local macro_rules | `(tactic| walk_at "1") => `(tactic| (with_reducible refine wl_listE ?_))
local macro_rules | `(tactic| walk_at "1") => `(tactic| (with_reducible refine wl_lenTD ?_))
local macro_rules | `(tactic| walk_at "1") => `(tactic| (with_reducible refine wl_lenD ?_))
local macro_rules | `(tactic| walk_at "1") => `(tactic| (with_reducible refine wl_lenE ?_))
local macro_rules | `(tactic| walk_at "1") => `(tactic| ((with_reducible show W2 _ _ _ _ _ _); (refine w2_notN ?_)))
local macro_rules | `(tactic| walk_at "1") => `(tactic| ((with_reducible show W2 _ rNotB _ _ _ _); (refine w2_notB ?_)))
local macro_rules | `(tactic| walk_at "1") => `(tactic| ((with_reducible show W2 _ rIsB _ _ _ _); (refine w2_isB ?_)))
local macro_rules | `(tactic| walk_at "1") => `(tactic| ((with_reducible show W2 _ _ _ _ _ _); (refine w2_isN ?_)))
local macro_rules | `(tactic| walk_at "1") => `(tactic| ((with_reducible show W2 _ (rNeD _) _ _ _ _); (refine w2_ne ?ha ?hb ?_); (case ha => first | exact shaped_int _ | exact shaped_bool _ | exact shaped_none); (case hb => first | exact shaped_int _ | exact shaped_bool _ | exact shaped_none); skip))
local macro_rules | `(tactic| walk_at "1") => `(tactic| ((with_reducible show W2 _ (rEqD _) _ _ _ _); (refine w2_eq ?ha ?hb ?_); (case ha => first | exact shaped_int _ | exact shaped_bool _ | exact shaped_none); (case hb => first | exact shaped_int _ | exact shaped_bool _ | exact shaped_none); skip))
local macro_rules | `(tactic| walk_at "1") => `(tactic| ((with_reducible show W2 _ (rNeD _) (Sl.dat (PyData.str _)) (Sl.dat (PyData.str _)) _ _); (refine' w2_neS ?h1 ?h2 ?_); (case h1 => walk_at "str"); (case h2 => walk_at "str"); skip))
local macro_rules | `(tactic| walk_at "1") => `(tactic| ((with_reducible show W2 _ (rEqD _) (Sl.dat (PyData.str _)) (Sl.dat (PyData.str _)) _ _); (refine' w2_eqS ?h1 ?h2 ?_); (case h1 => walk_at "str"); (case h2 => walk_at "str"); skip))
local macro_rules | `(tactic| walk_at "1") => `(tactic| ((with_reducible show W2 _ (rNeD _) (Sl.dat (PyData.int _)) (Sl.dat (PyData.int _)) _ _); (refine w2_neI ?_)))
local macro_rules | `(tactic| walk_at "1") => `(tactic| ((with_reducible show W2 _ (rEqD _) (Sl.dat (PyData.int _)) (Sl.dat (PyData.int _)) _ _); (refine w2_eqI ?_)))
local macro_rules | `(tactic| walk_at "1") => `(tactic| ((with_reducible refine' w_var ?hv ?_); (case hv => exact rfl); skip))
local macro_rules | `(tactic| walk_at "1") => `(tactic| ((with_reducible refine w2_i ?hc ?_); (case hc => first | decide | exact ⟨by decide, by decide⟩ | exact Or.inl ⟨by decide, by decide⟩ | exact Or.inr ⟨by decide, by decide⟩ | exact ⟨by decide, by decide, by decide⟩ | omega); skip))
local macro_rules | `(tactic| walk_at "1") => `(tactic| (with_reducible refine w1_neg ?_))
local macro_rules | `(tactic| walk_at "1") => `(tactic| (with_reducible refine w2_b0 ?_))
local macro_rules | `(tactic| walk_at "1") => `(tactic| (with_reducible refine w2_i0 ?_))
local macro_rules | `(tactic| walk_at "1") => `(tactic| (with_reducible refine wt_yes ?_))
local macro_rules | `(tactic| walk_at "1") => `(tactic| (with_reducible refine wt_not ?_))
local macro_rules | `(tactic| walk_at "1") => `(tactic| (with_reducible refine wt_or ?_))
local macro_rules | `(tactic| walk_at "1") => `(tactic| (with_reducible refine wt_and ?_))
local macro_rules | `(tactic| walk_at "1") => `(tactic| (with_reducible refine wt_B ?_))
local macro_rules | `(tactic| walk_at "1") => `(tactic| (with_reducible refine wt_test ?_))
local macro_rules | `(tactic| walk_at "1") => `(tactic| (with_reducible refine wa_nil ?_))
local macro_rules | `(tactic| walk_at "1") => `(tactic| (with_reducible refine wa_cons ?_))
local macro_rules | `(tactic| walk_at "1") => `(tactic| (with_reducible refine wo_some ?_))
local macro_rules | `(tactic| walk_at "1") => `(tactic| (with_reducible refine wo_none ?_))
local macro_rules | `(tactic| walk_at "1") => `(tactic| (with_reducible refine w_notV ?_))
local macro_rules | `(tactic| walk_at "1") => `(tactic| (with_reducible refine w_orV ?_))
local macro_rules | `(tactic| walk_at "1") => `(tactic| (with_reducible refine w_andV ?_))
local macro_rules | `(tactic| walk_at "1") => `(tactic| (with_reducible refine w_chain ?_))
local macro_rules | `(tactic| walk_at "1") => `(tactic| (with_reducible refine w_tupD ?_))
local macro_rules | `(tactic| walk_at "1") => `(tactic| (with_reducible refine w_sl ?_))
local macro_rules | `(tactic| walk_at "1") => `(tactic| (with_reducible refine w_call ?_))
local macro_rules | `(tactic| walk_at "1") => `(tactic| (with_reducible refine w_cb ?_))
local macro_rules | `(tactic| walk_at "1") => `(tactic| (with_reducible refine w_str ?_))
local macro_rules | `(tactic| walk_at "1") => `(tactic| (with_reducible refine w_non ?_))
local macro_rules | `(tactic| walk_at "1") => `(tactic| (with_reducible refine w_bl ?_))
local macro_rules | `(tactic| walk_at "1") => `(tactic| (with_reducible refine w_int ?_))
local macro_rules | `(tactic| walk_at "1") => `(tactic| (with_reducible refine w_un ?_))
local macro_rules | `(tactic| walk_at "1") => `(tactic| (with_reducible refine w_op ?_))
local macro_rules | `(tactic| walk_at "1") => `(tactic| (with_reducible refine ws_drop ?_))
local macro_rules | `(tactic| walk_at "1") => `(tactic| (with_reducible refine ws_if ?_))
local macro_rules | `(tactic| walk_at "1") => `(tactic| (with_reducible refine ws_ret ?_))
local macro_rules | `(tactic| walk_at "1") => `(tactic| (with_reducible refine ws_set ?_))
local macro_rules | `(tactic| walk_at "1e") => `(tactic| walk_at "1")
local macro_rules | `(tactic| walk_at "1e") => `(tactic| (with_reducible refine ws_seq ?_))
local macro_rules | `(tactic| walk_at "1g") => `(tactic| (with_reducible refine w_lstD ?_))
local macro_rules | `(tactic| walk_at "1g") => `(tactic| ((with_reducible refine w_lstI (wa_cons ?_)); (repeat (walk_at "1")); (with_reducible show ∃ ns : List Int, itemsI _ = some ns ∧ _); (refine ⟨_, rfl, ?_⟩)))
local macro_rules | `(tactic| walk_at "1g") => `(tactic| walk_at "1")
local macro_rules | `(tactic| walk_at "1f") => `(tactic| walk_at "1g")
local macro_rules | `(tactic| walk_at "1f") => `(tactic| (with_reducible refine ws_seq ?_))
local macro_rules | `(tactic| walk_at "e") => `(tactic| repeat (walk_at "1e"))
local macro_rules | `(tactic| walk_at "g") => `(tactic| repeat (walk_at "1g"))
local macro_rules | `(tactic| walk_at "f") => `(tactic| repeat (walk_at "1f"))
local macro_rules | `(tactic| walk_at "k") => `(tactic| first | dsimp only [cxOf, Cx.nox, Cx.wish] | skip)
section
variable {P : Program} {w : World} {K : PySem.W.Frag} {mg : Str → Option Value} {base : Heap} {a : AD} {d : FD}
def A_value_key : ASp := fun ss M Q => ∃ v : Val, ss = [.dat v.enc] ∧ Q (.dat (vkey v)) M
theorem ok_value_key (T : Txt K mg a d) : FnOk P w K mg base CX0 1 a.value_key d.value_key ["value"] (conc K A_value_key) := by
  refine ab_ok T.F_value_key sc_value_key (fun ss M Q ⟨v, e, _⟩ => by subst e; rfl) fun cdv Ar outer s H E hr => ⟨_, (pss_cons (ps_if (pt_val (pe_callB (r := rIsi K) call_isi (by rfl) T.n_isinstance (by decide +kernel) (pa_cons (pv 0) (pa_cons (pe_bltn (v := .ty "str") (u := .type "str") (by rfl) T.n_str (by decide +kernel) rfl) pa_nil)))) (pss_one (ps_ret (pe_tup (pa_cons pe_int (pa_cons (pv 0) pa_nil))))) pss_nil)
  (pss_one (ps_ret (pe_tup (pa_cons pe_int (pa_cons (pv 0) pa_nil)))))), ?_⟩
  rintro ss M Q ⟨v, rfl, q⟩
  walk_at "k"
  show WS K _ [some (.dat v.enc)] M _
  cases v with
  | int n =>
    walk_at "e"
    exact q
  | str z =>
    walk_at "e"
    exact q
def A_row_key : ASp := fun ss M Q => ∃ row : List Val, ss = [.dat (encR row)] ∧ row.length ≤ 1000000 ∧ Q (.dat (rkey row)) M
theorem ok_row_key (T : Txt K mg a d) : FnOk P w K mg base CX0 2 a.row_key d.row_key ["row"] (conc K A_row_key) := by
  have G_value_key : FnOk P w K mg base CX0 1 a.value_key d.value_key ["value"] (conc K A_value_key) := ok_value_key T
  refine ab_ok T.F_row_key sc_row_key (fun ss M Q ⟨v, e, _⟩ => by subst e; rfl) fun cdv Ar outer s H E hr => ⟨_, (pss_one (ps_ret (pe_callTy (r := rTupS K) call_tuple_of (by rfl) T.n_tuple (by decide +kernel) (pa_cons (pe_lc (own := [("value", 1)]) rfl sc_row_key.nd (pi_tup (pv 0)) (blkOk_by (own := [("value", 1)]) (N := ["row", "value"]) (sc := (defScope s_row_key)) (by decide +kernel)) (fun _ _ _ _ _ => (pg_name (i := 1) sc_row_key.nd rfl (Or.inl rfl))) (fun _ _ _ _ _ => pts_nil) (fun _ _ _ _ _ => (pe_call G_value_key (hr.mono (by omega)) (by rfl) T.g_value_key T.F_value_key.kp T.b_value_key .nil pass0 (pa_cons (pv 1) pa_nil)))) pa_nil)))), ?_⟩
  rintro ss M Q ⟨row, rfl, hl, q⟩
  walk_at "k"
  show WS K _ [some (.dat (encR row)), none] M _
  walk_at "e"
  refine w_lcT (xs := row) (enc := Val.enc) (M1 := M) (by decide) (by walk_at "e"; exact ⟨rfl, rfl⟩) hl vkey ?_ ?_
  · intro v D o hv hD
    walk_at "e"
    exact ⟨v, rfl, rfl, rfl⟩
  · walk_at "e"
    exact q
end
section
section
variable {P : Program} {w : World} {K : PySem.W.Frag} {mg : Str → Option Value} {base : Heap} {a : AD} {d : FD}
def MidN (M : MH) (p : Addr) (n : Int) (ρ' : Rho) (M' : MH) : Prop := ∃ (xs : List Sl) (y z : Option Sl), ρ' = [some (.ref p), some (.int n), y, z] ∧ M' = um M p (.lst xs) ∧ DrawL xs
theorem ok_next (T : Txt K mg a d) : FnOk P w K mg base CX0 1 a.law_next d.law_next ["_law_state", "_law_limit"] (conc K A_next) := by
  refine ab_ok T.F_law_next sc_law_next (fun ss M Q ⟨p, n, xs, e, _⟩ => by subst e; rfl) fun cdv Ar outer s H E hr => ?_
  have hu64 := hr.units
  refine ⟨_, (pss_cons (ps_if (PW.pt (pw_and (pt_cmpR (r := rEqD K) (op_eqD hu64) (pe_ix (r := rIxL K) ix_list (pv 0) pe_int (fun _ _ => rfl)) pe_int (nomark _)) (pw_and1 (pt_cmpR op_lt (pe_ix (r := rIxL K) ix_list (pv 0) pe_int (fun _ _ => rfl)) (pe_callB (r := rLenS K) call_len_seq (by rfl) T.n_len PySem.boot_len (pa_cons (pe_ix (r := rIxL K) ix_list (pv 0) pe_int (fun _ _ => rfl)) pa_nil)) (nomark _))))) (pss_cons (ps_set (i := 2) sc_law_next.nd rfl (Or.inl rfl) (pe_ix (r := rIxL K) ix_list (pe_ix (r := rIxL K) ix_list (pv 0) pe_int (fun _ _ => rfl)) (pe_ix (r := rIxL K) ix_list (pv 0) pe_int (fun _ _ => rfl)) (fun _ _ => rfl)))
  (pss_cons (ps_augS (pv 0) pe_int pget_list pe_int ip_add set_list)
  (pss_one (ps_if (pt_cmpR op_ge (pv 2) (pe_op op_pow pe_int pe_int) (nomark _)) (pss_one (ps_asg (pv 2) (pg_sub (pv 0) pe_int set_list))) (pss_one (ps_asg (pe_op op_mod (pe_callTy (r := rInt1) call_int1 (by rfl) T.n_int (by decide +kernel) (pa_cons (pe_op op_add (pe_op op_add (pe_op op_mul (pe_ix (r := rIxL K) ix_list (pv 0) pe_int (fun _ _ => rfl)) pe_int) (pe_op op_mod (pe_callTy (r := rInt1) call_int1 (by rfl) T.n_int (by decide +kernel) (pa_cons (pv 2) pa_nil)) pe_int)) pe_int) pa_nil)) pe_int) (pg_sub (pv 0) pe_int set_list))))))) pss_nil)
  (pss_cons (ps_if (pt_cmpR op_gt (pe_ix (r := rIxL K) ix_list (pv 0) pe_int (fun _ _ => rfl)) pe_int (nomark _)) (pss_cons (ps_set (i := 3) sc_law_next.nd rfl (Or.inl rfl) (pe_op op_mod (pe_callTy (r := rInt1) call_int1 (by rfl) T.n_int (by decide +kernel) (pa_cons (pe_ix (r := rIxL K) ix_list (pv 0) pe_int (fun _ _ => rfl)) pa_nil)) (pv 1)))
  (pss_cons (ps_asg (pe_op op_fdivW (pe_ix (r := rIxL K) ix_list (pv 0) pe_int (fun _ _ => rfl)) (pv 1)) (pg_sub (pv 0) pe_int set_list))
  (pss_one (ps_ret (pv 3))))) pss_nil)
  (pss_cons (ps_asg (pe_op op_mod (pe_callTy (r := rInt1) call_int1 (by rfl) T.n_int (by decide +kernel) (pa_cons (pe_op op_add (pe_op op_mul (pe_ix (r := rIxL K) ix_list (pv 0) pe_int (fun _ _ => rfl)) pe_int) pe_int) pa_nil)) pe_int) (pg_sub (pv 0) pe_int set_list))
  (pss_one (ps_ret (pe_op op_mod (pe_callTy (r := rInt1) call_int1 (by rfl) T.n_int (by decide +kernel) (pa_cons (pe_op op_fdiv (pe_ix (r := rIxL K) ix_list (pv 0) pe_int (fun _ _ => rfl)) pe_int) pa_nil)) (pv 1))))))), ?_⟩
  rintro ss M Q ⟨p, n, xs, rfl, hp, ⟨sc, pos, cur, seed, rfl, hpos⟩, hn0, hn1, q⟩
  walk_at "k"
  show WS K _ [some (.ref p), some (.int n), none, none] M _
  refine ws_mid (MidN M p n) ?_ ?_
  · have same : MidN M p n [some (.ref p), some (.int n), none, none] M := ⟨_, none, none, rfl, (um_id hp).symm, sc, pos, cur, seed, rfl, hpos⟩
    walk_at "e"
    refine ite_b (fun _ => ?_) (fun _ => ite_f rfl (ws_next same))
    walk_at "e"
    refine ite_b (fun hlt => ?_) (fun _ => ws_next same)
    have hlt' := of_decide_eq_true hlt
    have hk : pos.toNat < sc.length := by omega
    walk_at "e"
    case hx => exact atI_ok hpos (get_two (List.getElem?_eq_getElem hk))
    refine ws_seq (ws_augL (w_var rfl (w_int ⟨p, _, 1, pos, rfl, rfl, hp, rfl, w_int ⟨1, rfl, hp, ?_⟩⟩)))
    have hp3 : um M p (.lst [.dat (.list (sc.map .int)), .int (pos + 1), .int cur, .int seed]) p = some (.lst [.dat (.list (sc.map .int)), .int (pos + 1), .int cur, .int seed]) := um_same
    show WS K _ [some (.ref p), some (.int n), some (.int sc[pos.toNat]), none] (um M p (.lst [.dat (.list (sc.map .int)), .int (pos + 1), .int cur, .int seed])) _
    walk_at "e"
    refine ite_b (fun _ => ?_) (fun _ => ?_)
    · refine ws_setL (w_var rfl (w_var rfl (w_int ⟨p, _, 2, 2, rfl, rfl, um_same, rfl, ?_⟩)))
      rw [um_um]
      exact ⟨_, some (.int sc[pos.toNat]), none, rfl, rfl, sc, pos + 1, _, seed, rfl, by omega⟩
    · refine ws_setL ?_
      walk_at "e"
      refine ⟨p, _, 3, 3, rfl, rfl, um_same, rfl, ?_⟩
      rw [um_um]
      exact ⟨_, some (.int sc[pos.toNat]), none, rfl, rfl, sc, pos + 1, cur, _, rfl, by omega⟩
  · rintro ρ' M' ⟨xs, y, z, rfl, rfl, sc, pos, cur, seed, rfl, hpos⟩
    have hp2 : um M p (.lst [.dat (.list (sc.map .int)), .int pos, .int cur, .int seed]) p = some (.lst [.dat (.list (sc.map .int)), .int pos, .int cur, .int seed]) := um_same
    have hdiv : CDivW cur n := wide_div (b := 140) hn0 (by omega) (by decide) (by decide)
    walk_at "e"
    refine ite_b (fun hc => ?_) (fun _ => ?_)
    · have hc' := of_decide_eq_true hc
      walk_at "e"
      refine ws_setL ?_
      walk_at "e"
      refine ⟨p, _, 2, 2, rfl, rfl, um_same, rfl, ?_⟩
      rw [um_um]
      walk_at "e"
      exact q _ _ (Int.emod_nonneg _ (by omega)) (Int.emod_lt_of_pos _ hn0) ⟨sc, pos, _, seed, rfl, hpos⟩
    · refine ws_next ?_
      refine ws_seq (ws_setL ?_)
      walk_at "e"
      refine ⟨p, _, 3, 3, rfl, rfl, um_same, rfl, ?_⟩
      rw [um_um]
      have hp4 : um M p (.lst [.dat (.list (sc.map .int)), .int pos, .int cur, .int ((seed * 69621 + 12345) % 2147483647)]) p = some (.lst [.dat (.list (sc.map .int)), .int pos, .int cur, .int ((seed * 69621 + 12345) % 2147483647)]) := um_same
      show WS K _ [some (.ref p), some (.int n), y, z] (um M p (.lst [.dat (.list (sc.map .int)), .int pos, .int cur, .int ((seed * 69621 + 12345) % 2147483647)])) _
      walk_at "e"
      exact q _ _ (Int.emod_nonneg _ (by omega)) (Int.emod_lt_of_pos _ hn0) ⟨sc, pos, cur, _, rfl, hpos⟩
def A_same (n : Nat) : ASp := fun ss M Q => ∃ x : PyData, ss = [.dat x, .dat x] ∧ okD n x = true ∧ Q (.bl true) M
def A_sameN : Nat → ASp
  | 0 => fun _ _ _ => False
  | n + 1 => A_same n
theorem ok_sameN (T : Txt K mg a d) : ∀ n : Nat, FnOk P w K mg base CX0 n a.law_same d.law_same ["_law_actual", "_law_expected"] (conc K (A_sameN n)) := by
  intro n
  induction n with
  | zero => exact ⟨fun vs H Q E h => by obtain ⟨_, _, _, _, _, _, z, _⟩ := h; exact z.elim, fun A outer s H args us vs Q E _ _ _ _ h => by obtain ⟨_, _, _, _, _, _, z, _⟩ := h; exact z.elim⟩
  | succ n ih =>
    have G_law_same := ih
    refine ab_ok T.F_law_same sc_law_same (fun ss M Q ⟨x, e, _⟩ => by subst e; rfl) fun cdv Ar outer s H E hr => ?_
    have hu64 := hr.units
    refine ⟨_, (pss_cons (ps_if (pt_cmpR op_isN (pv 1) pe_non (nomark _)) (pss_one (ps_ret (pe_cmpR op_isN (pv 0) pe_non (nomark _)))) pss_nil)
  (pss_cons (ps_if (pt_val (pe_callB (r := rIsi K) call_isi (by rfl) T.n_isinstance (by decide +kernel) (pa_cons (pv 1) (pa_cons (pe_bltn (v := .ty "bool") (u := .type "bool") (by rfl) T.n_bool (by decide +kernel) rfl) pa_nil)))) (pss_one (ps_ret (pe_and (pe_callB (r := rIsi K) call_isi (by rfl) T.n_isinstance (by decide +kernel) (pa_cons (pv 0) (pa_cons (pe_bltn (v := .ty "bool") (u := .type "bool") (by rfl) T.n_bool (by decide +kernel) rfl) pa_nil))) (pe_one (pe_cmpR (r := rEqD K) (op_eqD hu64) (pv 0) (pv 1) (nomark _)))))) pss_nil)
  (pss_cons (ps_if (pt_val (pe_callB (r := rIsi K) call_isi (by rfl) T.n_isinstance (by decide +kernel) (pa_cons (pv 1) (pa_cons (pe_bltn (v := .ty "int") (u := .type "int") (by rfl) T.n_int (by decide +kernel) rfl) pa_nil)))) (pss_one (ps_ret (pe_and (pe_callB (r := rIsi K) call_isi (by rfl) T.n_isinstance (by decide +kernel) (pa_cons (pv 0) (pa_cons (pe_bltn (v := .ty "int") (u := .type "int") (by rfl) T.n_int (by decide +kernel) rfl) pa_nil))) (pe_and (pe_not (pe_callB (r := rIsi K) call_isi (by rfl) T.n_isinstance (by decide +kernel) (pa_cons (pv 0) (pa_cons (pe_bltn (v := .ty "bool") (u := .type "bool") (by rfl) T.n_bool (by decide +kernel) rfl) pa_nil)))) (pe_one (pe_cmpR (r := rEqD K) (op_eqD hu64) (pv 0) (pv 1) (nomark _))))))) pss_nil)
  (pss_cons (ps_if (pt_val (pe_callB (r := rIsi K) call_isi (by rfl) T.n_isinstance (by decide +kernel) (pa_cons (pv 1) (pa_cons (pe_bltn (v := .ty "str") (u := .type "str") (by rfl) T.n_str (by decide +kernel) rfl) pa_nil)))) (pss_one (ps_ret (pe_and (pe_callB (r := rIsi K) call_isi (by rfl) T.n_isinstance (by decide +kernel) (pa_cons (pv 0) (pa_cons (pe_bltn (v := .ty "str") (u := .type "str") (by rfl) T.n_str (by decide +kernel) rfl) pa_nil))) (pe_one (pe_cmpR (r := rEqD K) (op_eqD hu64) (pv 0) (pv 1) (nomark _)))))) pss_nil)
  (pss_cons (ps_if (PW.pt (pw_and (pt_val (pe_callB (r := rIsi K) call_isi (by rfl) T.n_isinstance (by decide +kernel) (pa_cons (pv 1) (pa_cons (pe_bltn (v := .ty "tuple") (u := .type "tuple") (by rfl) T.n_tuple (by decide +kernel) rfl) pa_nil)))) (pw_and1 (pt_not (pt_val (pe_callB (r := rIsi K) call_isi (by rfl) T.n_isinstance (by decide +kernel) (pa_cons (pv 0) (pa_cons (pe_bltn (v := .ty "tuple") (u := .type "tuple") (by rfl) T.n_tuple (by decide +kernel) rfl) pa_nil)))))))) (pss_one (ps_ret pe_bl)) pss_nil)
  (pss_cons (ps_if (PW.pt (pw_and (pt_val (pe_callB (r := rIsi K) call_isi (by rfl) T.n_isinstance (by decide +kernel) (pa_cons (pv 1) (pa_cons (pe_bltn (v := .ty "list") (u := .type "list") (by rfl) T.n_list (by decide +kernel) rfl) pa_nil)))) (pw_and1 (pt_not (pt_val (pe_callB (r := rIsi K) call_isi (by rfl) T.n_isinstance (by decide +kernel) (pa_cons (pv 0) (pa_cons (pe_bltn (v := .ty "list") (u := .type "list") (by rfl) T.n_list (by decide +kernel) rfl) pa_nil)))))))) (pss_one (ps_ret pe_bl)) pss_nil)
  (pss_cons (ps_if (pt_cmpR (r := rNeD K) (op_neD hu64) (pe_callB (r := rLenS K) call_len_seq (by rfl) T.n_len PySem.boot_len (pa_cons (pv 0) pa_nil)) (pe_callB (r := rLenS K) call_len_seq (by rfl) T.n_len PySem.boot_len (pa_cons (pv 1) pa_nil)) (nomark _)) (pss_one (ps_ret pe_bl)) pss_nil)
  (pss_cons (ps_for PassesOwn.never rfl (pi_range1 rfl T.n_range (pa_cons (pe_callB (r := rLenS K) call_len_seq (by rfl) T.n_len PySem.boot_len (pa_cons (pv 1) pa_nil)) pa_nil)) (pg_name (i := 2) sc_law_same.nd rfl (Or.inl rfl)) (pss_one (ps_if (pt_not (pt_val (pe_call G_law_same (hr.mono (by omega)) (by rfl) T.g_law_same T.F_law_same.kp T.b_law_same .nil pass0 (pa_cons (pe_ix (r := rIx K) ix_seq (pv 0) (pv 2) (fun _ _ => rfl)) (pa_cons (pe_ix (r := rIx K) ix_seq (pv 1) (pv 2) (fun _ _ => rfl)) pa_nil))))) (pss_one (ps_ret pe_bl)) pss_nil)))
  (pss_one (ps_ret pe_bl)))))))))), ?_⟩
    rintro ss M Q ⟨x, rfl, hx, q⟩
    walk_at "k"
    show WS K _ [some (.dat x), some (.dat x), none] M _
    walk_at "e"
    cases x with
    | none =>
      walk_at "e"
      exact q
    | bool b =>
      walk_at "e"
      rw [show PyData.eqv (.bool b) (.bool b) = true by cases b <;> rfl]
      exact q
    | int i =>
      walk_at "e"
      rw [decide_eq_true rfl]
      exact q
    | str x =>
      have hsh : PyData.strOk x = true := by cases n <;> simpa [okD] using hx
      walk_at "e"
      rw [decide_eq_true rfl]
      walk_at "e"
      exact q
    | dict _ => cases n <;> cases hx
    | tuple xs =>
      cases n with
      | zero => cases hx
      | succ m =>
        obtain ⟨hl, ho⟩ := okD_tuple hx
        walk_at "e"
        rw [decide_eq_true rfl]
        walk_at "e"
        refine ws_forR1 (n := (xs.length : Int)) (M1 := M) (by walk_at "e"; exact ⟨rfl, rfl⟩) (by omega)
          (fun i ρ' M' => ∃ y, ρ' = [some (.dat (.tuple xs)), some (.dat (.tuple xs)), y] ∧ M' = M) ⟨_, rfl, rfl⟩ ?_ ?_
        · rintro i ρ' M' hi ⟨y, rfl, rfl⟩
          have hi' : i < xs.length := by omega
          refine wg_name ?_
          have hat : atI xs (i : Int) = some xs[i] := atI_nat (List.getElem?_eq_getElem hi')
          walk_at "e"
          refine w2_ixDT hat ?_
          walk_at "e"
          refine w2_ixDT hat ?_
          walk_at "e"
          refine ⟨xs[i], rfl, okD_mem ho (List.getElem_mem hi'), ?_⟩
          walk_at "e"
          exact ⟨_, rfl, rfl⟩
        · rintro ρ' M' ⟨y, rfl, rfl⟩
          walk_at "e"
          exact q
    | list xs =>
      cases n with
      | zero => cases hx
      | succ m =>
        obtain ⟨hl, ho⟩ := okD_list hx
        walk_at "e"
        rw [decide_eq_true rfl]
        walk_at "e"
        refine ws_forR1 (n := (xs.length : Int)) (M1 := M) (by walk_at "e"; exact ⟨rfl, rfl⟩) (by omega)
          (fun i ρ' M' => ∃ y, ρ' = [some (.dat (.list xs)), some (.dat (.list xs)), y] ∧ M' = M) ⟨_, rfl, rfl⟩ ?_ ?_
        · rintro i ρ' M' hi ⟨y, rfl, rfl⟩
          have hi' : i < xs.length := by omega
          refine wg_name ?_
          have hat : atI xs (i : Int) = some xs[i] := atI_nat (List.getElem?_eq_getElem hi')
          walk_at "e"
          refine w2_ixDL hat ?_
          walk_at "e"
          refine w2_ixDL hat ?_
          walk_at "e"
          refine ⟨xs[i], rfl, okD_mem ho (List.getElem_mem hi'), ?_⟩
          walk_at "e"
          exact ⟨_, rfl, rfl⟩
        · rintro ρ' M' ⟨y, rfl, rfl⟩
          walk_at "e"
          exact q
end
end
section
section
variable {P : Program} {w : World} {K : PySem.W.Frag} {mg : Str → Option Value} {base : Heap} {a : AD} {d : FD}
abbrev A_draw (P : PyData → Prop) : ASp := A_gen (· = []) fun _ => P
def charS : Str := " !\"#$&'()*+,-./0123456789:;<=>?@ABCDEFGHIJKLMNOPQRSTUVWXYZ[\\]^_`abcdefghijklmnopqrstuvwxyz{|}~"
def A_chars : ASp := fun ss M Q => ss = [] ∧ Q (.str charS) M
theorem chars_ok : charS.length = 94 ∧ ∀ c ∈ charS.cps.toList, goodS ⟨#[c]⟩ = true := by decide +kernel
theorem ok_chars (T : Txt K mg a d) : FnOk P w K mg base CX0 1 a.law_characters d.law_characters [] (conc K A_chars) := by
  refine ab_ok T.F_law_characters sc_law_characters (fun ss M Q ⟨e, _⟩ => by subst e; rfl) fun cdv Ar outer s H E hr => ⟨_, (pss_one (ps_ret pe_str)), ?_⟩
  rintro ss M Q ⟨rfl, q⟩
  walk_at "k"
  show WS K _ [] M _
  walk_at "e"
  exact q
theorem sgn_mul {x n : Int} {M : MH} {Q : Sl → MH → Prop} (x0 : 0 ≤ x) (x1 : x < 2) (hn : n.natAbs < 10 ^ 30) (q : ∀ n : Int, n.natAbs < 10 ^ 30 → Q (.int n) M) : W2 K (rI CMulW fun i j => V.int (i * j)) (Sl.int (1 - 2 * x)) (Sl.int n) M Q := by
  have hx : x = 0 ∨ x = 1 := by omega
  refine w2_i (wide_mul (a := 3) (b := 100) (by omega) (by omega) (by decide) (by decide) (by decide)) (q _ ?_)
  rcases hx with rfl | rfl
  · simpa using hn
  · simpa using hn
theorem ok_value (T : Txt K mg a d) : FnOk P w K mg base CX0 2 a.law_value d.law_value ["_law_state"] (conc K (A_draw fun d => isVal d = true)) := by
  have G_law_next : FnOk P w K mg base CX0 1 a.law_next d.law_next ["_law_state", "_law_limit"] (conc K A_next) := ok_next T
  have G_law_characters : FnOk P w K mg base CX0 1 a.law_characters d.law_characters [] (conc K A_chars) := ok_chars T
  refine ab_ok T.F_law_value sc_law_value (fun ss M Q ⟨p, xs, ds, e, e2, _⟩ => by subst e e2; rfl) fun cdv Ar outer s H E hr => ?_
  have hu64 := hr.units
  refine ⟨_, (pss_cons (ps_set (i := 1) sc_law_value.nd rfl (Or.inl rfl) (pe_call G_law_next (hr.mono (by omega)) (by rfl) T.g_law_next T.F_law_next.kp T.b_law_next .nil pass0 (pa_cons (pv 0) (pa_cons pe_int pa_nil))))
  (pss_cons (ps_if (pt_cmpR op_lt (pv 1) pe_int (nomark _)) (pss_one (ps_ret (pe_ix (r := rIxL K) ix_list (pe_lst (pa_cons pe_int (pa_cons pe_int (pa_cons pe_int (pa_cons (pe_un un_neg pe_int) pa_nil))))) (pv 1) (fun _ _ => rfl)))) pss_nil)
  (pss_cons (ps_if (pt_cmpR (r := rEqD K) (op_eqD hu64) (pv 1) pe_int (nomark _)) (pss_one (ps_ret (pe_op op_mulW (pe_op op_sub pe_int (pe_op op_mul pe_int (pe_call G_law_next (hr.mono (by omega)) (by rfl) T.g_law_next T.F_law_next.kp T.b_law_next .nil pass0 (pa_cons (pv 0) (pa_cons pe_int pa_nil))))) (pe_op op_sub (pe_op op_sub (pe_op op_pow pe_int pe_int) pe_int) (pe_call G_law_next (hr.mono (by omega)) (by rfl) T.g_law_next T.F_law_next.kp T.b_law_next .nil pass0 (pa_cons (pv 0) (pa_cons pe_int pa_nil))))))) pss_nil)
  (pss_cons (ps_if (pt_cmpR (r := rEqD K) (op_eqD hu64) (pv 1) pe_int (nomark _)) (pss_one (ps_ret (pe_op op_mulW (pe_op op_sub pe_int (pe_op op_mul pe_int (pe_call G_law_next (hr.mono (by omega)) (by rfl) T.g_law_next T.F_law_next.kp T.b_law_next .nil pass0 (pa_cons (pv 0) (pa_cons pe_int pa_nil))))) (pe_ix (r := rIxL K) ix_list (pe_lst (pa_cons pe_int (pa_cons pe_int (pa_cons pe_int (pa_cons pe_int (pa_cons (pe_call G_law_next (hr.mono (by omega)) (by rfl) T.g_law_next T.F_law_next.kp T.b_law_next .nil pass0 (pa_cons (pv 0) (pa_cons (pe_op op_pow pe_int pe_int) pa_nil))) pa_nil)))))) (pe_call G_law_next (hr.mono (by omega)) (by rfl) T.g_law_next T.F_law_next.kp T.b_law_next .nil pass0 (pa_cons (pv 0) (pa_cons pe_int pa_nil))) (fun _ _ => rfl))))) pss_nil)
  (pss_cons (ps_if (pt_cmpR op_lt (pv 1) pe_int (nomark _)) (pss_one (ps_ret (pe_ix (r := rIxL K) ix_list (pe_lst (pa_cons pe_str (pa_cons pe_str (pa_cons pe_str (pa_cons pe_str pa_nil))))) (pe_op op_sub (pv 1) pe_int) (fun _ _ => rfl)))) pss_nil)
  (pss_cons (ps_set (i := 2) sc_law_value.nd rfl (Or.inr rfl) (pe_call G_law_next (hr.mono (by omega)) (by rfl) T.g_law_next T.F_law_next.kp T.b_law_next .nil pass0 (pa_cons (pv 0) (pa_cons pe_int pa_nil))))
  (pss_cons (ps_set (i := 3) sc_law_value.nd rfl (Or.inr rfl) (pe_call G_law_next (hr.mono (by omega)) (by rfl) T.g_law_next T.F_law_next.kp T.b_law_next .nil pass0 (pa_cons (pv 0) (pa_cons pe_int pa_nil))))
  (pss_one (ps_ret (pe_join pe_str (pe_lc (own := [("_law_j", 4)]) rfl sc_law_value.nd (pi_range1 rfl T.n_range (pa_cons (pe_call G_law_next (hr.mono (by omega)) (by rfl) T.g_law_next T.F_law_next.kp T.b_law_next .nil pass0 (pa_cons (pv 0) (pa_cons pe_int pa_nil))) pa_nil)) (blkOk_by (own := [("_law_j", 4)]) (N := ["_law_state", "_law_pick", "_law_start", "_law_step", "_law_j"]) (sc := (defScope s_law_value)) (by decide +kernel)) (fun _ _ _ _ _ => (pg_name (i := 4) sc_law_value.nd rfl (Or.inl rfl))) (fun _ _ _ _ _ => pts_nil) (fun _ _ _ _ _ => (pe_ix ix_str (pe_call0 G_law_characters (hr.mono (by omega)) (by rfl) T.g_law_characters T.F_law_characters.kp T.b_law_characters .nil pass0) (pe_op op_mod (pe_op op_add (pv 2) (pe_op op_mulW (pv 3) (pv 4))) pe_int) (fun _ _ => rfl)))))))))))))), ?_⟩
  rintro ss M Q ⟨p, xs, ds, rfl, rfl, hM, hD, q⟩
  obtain ⟨M0, rfl⟩ : ∃ M0, M = um M0 p (.lst xs) := ⟨M, (um_id hM).symm⟩
  simp only [um_um] at q
  walk_at "k"
  show WS K _ [some (.ref p), none, none, none, none] (um M0 p (.lst xs)) _
  walk_at "e"
  refine a_next hD (by decide) (by decide) fun v ys h0 h1 hD1 => ?_
  walk_at "f"
  refine ite_d (fun h => ?_) (fun h => ?_)
  · walk_at "f"
    have all : ∀ d ∈ List.map PyData.int [0, 1, 2, -1], isVal d = true := by decide +kernel
    exact fun d hd => q d _ (all d hd) hD1
  walk_at "f"
  refine ite_d (fun h4 => ?_) (fun h4 => ?_)
  · walk_at "f"
    refine a_next hD1 (by decide) (by decide) fun x zs x0 x1 hD2 => ?_
    walk_at "f"
    refine a_next hD2 (by decide) (by decide) fun y zs y0 y1 hD3 => ?_
    walk_at "f"
    have e30 : (10 : Int) ^ Int.toNat 30 = 1000000000000000000000000000000 := by decide +kernel
    rw [e30]
    exact sgn_mul x0 x1 (by omega) fun n hn => q (.int n) _ (decide_eq_true hn) hD3
  walk_at "f"
  refine ite_d (fun h5 => ?_) (fun h5 => ?_)
  · walk_at "f"
    refine a_next hD1 (by decide) (by decide) fun x zs x0 x1 hD2 => ?_
    walk_at "f"
    refine a_next hD2 (by decide) (by decide) fun y zs y0 y1 hD3 => ?_
    walk_at "f"
    refine a_next hD3 (by decide) (by decide) fun z zs z0 z1 hD4 => ?_
    walk_at "f"
    have e30 : (10 : Int) ^ Int.toNat 30 = 1000000000000000000000000000000 := by decide +kernel
    rw [e30] at y1
    intro d hd
    have : ∃ n : Int, d = .int n ∧ n.natAbs < 10 ^ 30 := by
      simp only [List.mem_cons, List.not_mem_nil, or_false] at hd
      rcases hd with rfl | rfl | rfl | rfl | rfl <;> exact ⟨_, rfl, by omega⟩
    obtain ⟨n, rfl, hn⟩ := this
    exact sgn_mul x0 x1 hn fun n hn => q (.int n) _ (decide_eq_true hn) hD4
  walk_at "f"
  refine ite_d (fun h6 => ?_) (fun h6 => ?_)
  · walk_at "f"
    have all : ∀ d ∈ [PyData.str "", PyData.str "a", PyData.str "ab", PyData.str "1"], isVal d = true := by decide +kernel
    exact fun d hd => q d _ (all d hd) hD1
  walk_at "f"
  refine a_next hD1 (by decide) (by decide) fun x zs x0 x1 hD2 => ?_
  walk_at "f"
  refine a_next hD2 (by decide) (by decide) fun y zs y0 y1 hD3 => ?_
  walk_at "f"
  refine w_join ?_
  walk_at "f"
  refine ⟨_, rfl, ?_⟩
  refine w_lcGen (p := p) (by decide) (fun d => ∃ z : Str, d = .str z ∧ (z.cps.size = 1 ∧ goodS z = true)) ?_
  walk_at "f"
  refine a_next hD3 (by decide) (by decide) fun n zs n0 n1 hD4 => ?_
  walk_at "f"
  refine ⟨n, M0, zs, rfl, rfl, hD4, by omega, by omega, fun i M2 us hi hu => ?_, fun ds us hu hl hP => ?_⟩
  · walk_at "f"
    refine ⟨rfl, ?_⟩
    walk_at "f"
    refine w2_i (wide_mul (a := 10) (b := 40) (by omega) (by omega) (by decide) (by decide) (by decide)) ?_
    walk_at "f"
    refine w2_ixSAny (by rw [chars_ok.1]; decide) (by omega) (by rw [chars_ok.1]; omega) fun c hc => ?_
    exact ⟨_, us, rfl, rfl, hu, _, rfl, rfl, chars_ok.2 c hc⟩
  · obtain ⟨ys, rfl, hys⟩ := list_enc hP
    refine ⟨ys, rfl, ?_, ?_⟩
    · rw [sum_ones (sep := Str.ofString "") (by decide +kernel) hys]
      rw [List.length_map] at hl
      omega
    · refine q _ _ ?_ hu
      exact good_join (by decide +kernel) (by rw [List.length_map] at hl; omega) hys
end
end
section
section
variable {P : Program} {w : World} {K : PySem.W.Frag} {mg : Str → Option Value} {base : Heap} {a : AD} {d : FD}
abbrev A_row : ASp := A_gen (fun ds => ∃ n : Int, ds = [.int n] ∧ 0 ≤ n ∧ n ≤ 1000) fun ds d => ∃ row : List Val, d = encR row ∧ okR row ∧ ds = [.int (row.length : Int)]
theorem ok_row (T : Txt K mg a d) : FnOk P w K mg base CX0 3 a.law_row d.law_row ["_law_state", "_law_width"] (conc K A_row) := by
  have G_law_value : FnOk P w K mg base CX0 2 a.law_value d.law_value ["_law_state"] (conc K (A_draw fun d => isVal d = true)) := ok_value T
  refine ab_ok T.F_law_row sc_law_row (fun ss M Q ⟨p, xs, ds, e, ⟨n, e2, _⟩, _⟩ => by subst e e2; rfl) fun cdv Ar outer s H E hr => ⟨_, (pss_one (ps_ret (pe_callTy (r := rTupS K) call_tuple_of (by rfl) T.n_tuple (by decide +kernel) (pa_cons (pe_lc (own := [("_law_k", 2)]) rfl sc_law_row.nd (pi_range1 rfl T.n_range (pa_cons (pv 1) pa_nil)) (blkOk_by (own := [("_law_k", 2)]) (N := ["_law_state", "_law_width", "_law_k"]) (sc := (defScope s_law_row)) (by decide +kernel)) (fun _ _ _ _ _ => (pg_name (i := 2) sc_law_row.nd rfl (Or.inl rfl))) (fun _ _ _ _ _ => pts_nil) (fun _ _ _ _ _ => (pe_call G_law_value (hr.mono (by omega)) (by rfl) T.g_law_value T.F_law_value.kp T.b_law_value .nil pass0 (pa_cons (pv 0) pa_nil)))) pa_nil)))), ?_⟩
  rintro ss M Q ⟨p, xs, ds, rfl, ⟨n, rfl, n0, n1⟩, hM, hD, q⟩
  obtain ⟨M0, rfl⟩ : ∃ M0, M = um M0 p (.lst xs) := ⟨M, (um_id hM).symm⟩
  simp only [um_um] at q
  walk_at "k"
  show WS K _ [some (.ref p), some (.int n), none] (um M0 p (.lst xs)) _
  walk_at "f"
  refine w_lcGen (p := p) (by decide) (fun d => isVal d = true) ?_
  walk_at "f"
  refine ⟨n, M0, xs, rfl, rfl, hD, by omega, by omega, fun i M2 us hi hu => ?_, fun ds us hu hl hP => ?_⟩
  · walk_at "f"
    refine a_gen0 hu rfl fun d zs hP hD => ?_
    exact ⟨d, zs, rfl, rfl, hD, hP⟩
  · obtain ⟨row, rfl, hrow⟩ := list_enc (f := Val.enc) (R := Val.ok) fun d hd => isVal_of (hP d hd)
    walk_at "f"
    rw [List.length_map] at hl
    exact q _ _ ⟨row, rfl, ⟨by omega, hrow⟩, by rw [hl, Int.toNat_of_nonneg n0]⟩ hu
theorem ok_name (T : Txt K mg a d) : FnOk P w K mg base CX0 2 a.law_name d.law_name ["_law_state"] (conc K (A_draw fun d => isName d = true)) := by
  have G_law_next : FnOk P w K mg base CX0 1 a.law_next d.law_next ["_law_state", "_law_limit"] (conc K A_next) := ok_next T
  refine ab_ok T.F_law_name sc_law_name (fun ss M Q ⟨p, xs, ds, e, e2, _⟩ => by subst e e2; rfl) fun cdv Ar outer s H E hr => ⟨_, (pss_one (ps_ret (pe_ix (r := rIxL K) ix_list (pe_lst (pa_cons pe_str (pa_cons pe_str (pa_cons pe_str (pa_cons pe_str (pa_cons pe_str (pa_cons pe_str (pa_cons pe_str (pa_cons pe_str pa_nil))))))))) (pe_call G_law_next (hr.mono (by omega)) (by rfl) T.g_law_next T.F_law_next.kp T.b_law_next .nil pass0 (pa_cons (pv 0) (pa_cons pe_int pa_nil))) (fun _ _ => rfl)))), ?_⟩
  rintro ss M Q ⟨p, xs, ds, rfl, rfl, hM, hD, q⟩
  obtain ⟨M0, rfl⟩ : ∃ M0, M = um M0 p (.lst xs) := ⟨M, (um_id hM).symm⟩
  simp only [um_um] at q
  walk_at "k"
  show WS K _ [some (.ref p)] (um M0 p (.lst xs)) _
  walk_at "f"
  refine a_next hD (by decide) (by decide) fun v ys h0 h1 hD1 => ?_
  walk_at "f"
  have all : ∀ d ∈ [PyData.str "r", PyData.str "r1", PyData.str "r_", PyData.str "longest_name", PyData.str "longest_namf", PyData.str "a", PyData.str "ab", PyData.str "r1x"], isName d = true := by decide +kernel
  exact fun d hd => q d _ (all d hd) hD1
abbrev A_term : ASp := A_draw fun d => ∃ t : Term, d = t.enc ∧ t.ok
theorem ok_term (T : Txt K mg a d) : FnOk P w K mg base CX0 3 a.law_term d.law_term ["_law_state"] (conc K A_term) := by
  have G_law_next : FnOk P w K mg base CX0 1 a.law_next d.law_next ["_law_state", "_law_limit"] (conc K A_next) := ok_next T
  have G_law_name : FnOk P w K mg base CX0 2 a.law_name d.law_name ["_law_state"] (conc K (A_draw fun d => isName d = true)) := ok_name T
  have G_law_value : FnOk P w K mg base CX0 2 a.law_value d.law_value ["_law_state"] (conc K (A_draw fun d => isVal d = true)) := ok_value T
  refine ab_ok T.F_law_term sc_law_term (fun ss M Q ⟨p, xs, ds, e, e2, _⟩ => by subst e e2; rfl) fun cdv Ar outer s H E hr => ?_
  have hu64 := hr.units
  refine ⟨_, (pss_cons (ps_set (i := 1) sc_law_term.nd rfl (Or.inl rfl) (pe_call G_law_next (hr.mono (by omega)) (by rfl) T.g_law_next T.F_law_next.kp T.b_law_next .nil pass0 (pa_cons (pv 0) (pa_cons pe_int pa_nil))))
  (pss_cons (ps_if (pt_cmpR (r := rEqD K) (op_eqD hu64) (pv 1) pe_int (nomark _)) (pss_one (ps_ret (pe_tup (pa_cons pe_str pa_nil)))) pss_nil)
  (pss_cons (ps_if (pt_cmpR (r := rEqD K) (op_eqD hu64) (pv 1) pe_int (nomark _)) (pss_one (ps_ret (pe_tup (pa_cons pe_str (pa_cons (pe_call G_law_value (hr.mono (by omega)) (by rfl) T.g_law_value T.F_law_value.kp T.b_law_value .nil pass0 (pa_cons (pv 0) pa_nil)) pa_nil))))) pss_nil)
  (pss_one (ps_ret (pe_tup (pa_cons pe_str (pa_cons (pe_call G_law_name (hr.mono (by omega)) (by rfl) T.g_law_name T.F_law_name.kp T.b_law_name .nil pass0 (pa_cons (pv 0) pa_nil)) pa_nil)))))))), ?_⟩
  rintro ss M Q ⟨p, xs, ds, rfl, rfl, hM, hD, q⟩
  obtain ⟨M0, rfl⟩ : ∃ M0, M = um M0 p (.lst xs) := ⟨M, (um_id hM).symm⟩
  simp only [um_um] at q
  walk_at "k"
  show WS K _ [some (.ref p), none] (um M0 p (.lst xs)) _
  walk_at "f"
  refine a_next hD (by decide) (by decide) fun v ys h0 h1 hD1 => ?_
  walk_at "f"
  refine ite_d (fun h => ?_) (fun h => ?_)
  · walk_at "f"
    exact q _ _ ⟨.any, rfl, trivial⟩ hD1
  walk_at "f"
  refine ite_d (fun h => ?_) (fun h => ?_)
  · walk_at "f"
    refine a_gen0 hD1 rfl fun d zs hP hD2 => ?_
    obtain ⟨x, rfl, hx⟩ := isVal_of hP
    walk_at "f"
    exact q _ _ ⟨.value x, rfl, hx⟩ hD2
  walk_at "f"
  refine a_gen0 hD1 rfl fun d zs hP hD2 => ?_
  obtain ⟨x, rfl, hx⟩ := isName_of hP
  walk_at "f"
  exact q _ _ ⟨.variable x, rfl, hx⟩ hD2
abbrev A_terms : ASp := A_draw fun d => ∃ t : List Term, d = encT t ∧ okTs t ∧ t.length ≤ 5
theorem ok_terms (T : Txt K mg a d) : FnOk P w K mg base CX0 4 a.law_terms d.law_terms ["_law_state"] (conc K A_terms) := by
  have G_law_next : FnOk P w K mg base CX0 1 a.law_next d.law_next ["_law_state", "_law_limit"] (conc K A_next) := ok_next T
  have G_law_term : FnOk P w K mg base CX0 3 a.law_term d.law_term ["_law_state"] (conc K A_term) := ok_term T
  refine ab_ok T.F_law_terms sc_law_terms (fun ss M Q ⟨p, xs, ds, e, e2, _⟩ => by subst e e2; rfl) fun cdv Ar outer s H E hr => ⟨_, (pss_one (ps_ret (pe_callTy (r := rTupS K) call_tuple_of (by rfl) T.n_tuple (by decide +kernel) (pa_cons (pe_lc (own := [("_law_k", 1)]) rfl sc_law_terms.nd (pi_range1 rfl T.n_range (pa_cons (pe_call G_law_next (hr.mono (by omega)) (by rfl) T.g_law_next T.F_law_next.kp T.b_law_next .nil pass0 (pa_cons (pv 0) (pa_cons pe_int pa_nil))) pa_nil)) (blkOk_by (own := [("_law_k", 1)]) (N := ["_law_state", "_law_k"]) (sc := (defScope s_law_terms)) (by decide +kernel)) (fun _ _ _ _ _ => (pg_name (i := 1) sc_law_terms.nd rfl (Or.inl rfl))) (fun _ _ _ _ _ => pts_nil) (fun _ _ _ _ _ => (pe_call G_law_term (hr.mono (by omega)) (by rfl) T.g_law_term T.F_law_term.kp T.b_law_term .nil pass0 (pa_cons (pv 0) pa_nil)))) pa_nil)))), ?_⟩
  rintro ss M Q ⟨p, xs, ds, rfl, rfl, hM, hD, q⟩
  obtain ⟨M0, rfl⟩ : ∃ M0, M = um M0 p (.lst xs) := ⟨M, (um_id hM).symm⟩
  simp only [um_um] at q
  walk_at "k"
  show WS K _ [some (.ref p), none] (um M0 p (.lst xs)) _
  walk_at "f"
  refine w_lcGen (p := p) (by decide) (fun d => ∃ t : Term, d = t.enc ∧ t.ok) ?_
  walk_at "f"
  refine a_next hD (by decide) (by decide) fun n zs n0 n1 hD4 => ?_
  walk_at "f"
  refine ⟨n, M0, zs, rfl, rfl, hD4, by omega, by omega, fun i M2 us hi hu => ?_, fun ds us hu hl hP => ?_⟩
  · walk_at "f"
    refine a_gen0 hu rfl fun d zs hP hD => ?_
    exact ⟨d, zs, rfl, rfl, hD, hP⟩
  · obtain ⟨ts, rfl, hts⟩ := list_enc hP
    walk_at "f"
    rw [List.length_map] at hl
    exact q _ _ ⟨ts, rfl, ⟨by omega, hts⟩, by omega⟩ hu
abbrev A_lit : ASp := A_draw fun d => ∃ t : Lit, d = t.enc ∧ t.ok ∧ t.sm
theorem ok_literal (T : Txt K mg a d) : FnOk P w K mg base CX0 5 a.law_literal d.law_literal ["_law_state"] (conc K A_lit) := by
  have G_law_next : FnOk P w K mg base CX0 1 a.law_next d.law_next ["_law_state", "_law_limit"] (conc K A_next) := ok_next T
  have G_law_name : FnOk P w K mg base CX0 2 a.law_name d.law_name ["_law_state"] (conc K (A_draw fun d => isName d = true)) := ok_name T
  have G_law_term : FnOk P w K mg base CX0 3 a.law_term d.law_term ["_law_state"] (conc K A_term) := ok_term T
  have G_law_terms : FnOk P w K mg base CX0 4 a.law_terms d.law_terms ["_law_state"] (conc K A_terms) := ok_terms T
  refine ab_ok T.F_law_literal sc_law_literal (fun ss M Q ⟨p, xs, ds, e, e2, _⟩ => by subst e e2; rfl) fun cdv Ar outer s H E hr => ?_
  have hu64 := hr.units
  refine ⟨_, (pss_cons (ps_set (i := 1) sc_law_literal.nd rfl (Or.inl rfl) (pe_ix (r := rIxL K) ix_list (pe_lst (pa_cons pe_str (pa_cons pe_str (pa_cons pe_str (pa_cons pe_str (pa_cons pe_str (pa_cons pe_str pa_nil))))))) (pe_call G_law_next (hr.mono (by omega)) (by rfl) T.g_law_next T.F_law_next.kp T.b_law_next .nil pass0 (pa_cons (pv 0) (pa_cons pe_int pa_nil))) (fun _ _ => rfl)))
  (pss_cons (ps_if (pt_cmpR (r := rEqD K) (op_eqD hu64) (pv 1) pe_str (nomark _)) (pss_cons (ps_set (i := 2) sc_law_literal.nd rfl (Or.inl rfl) (pe_ix (r := rIxL K) ix_list (pe_lst (pa_cons pe_str (pa_cons pe_str (pa_cons pe_str (pa_cons pe_str (pa_cons pe_str (pa_cons pe_str pa_nil))))))) (pe_call G_law_next (hr.mono (by omega)) (by rfl) T.g_law_next T.F_law_next.kp T.b_law_next .nil pass0 (pa_cons (pv 0) (pa_cons pe_int pa_nil))) (fun _ _ => rfl)))
  (pss_one (ps_ret (pe_tup (pa_cons (pv 1) (pa_cons (pv 2) (pa_cons (pe_call G_law_term (hr.mono (by omega)) (by rfl) T.g_law_term T.F_law_term.kp T.b_law_term .nil pass0 (pa_cons (pv 0) pa_nil)) (pa_cons (pe_call G_law_term (hr.mono (by omega)) (by rfl) T.g_law_term T.F_law_term.kp T.b_law_term .nil pass0 (pa_cons (pv 0) pa_nil)) pa_nil)))))))) pss_nil)
  (pss_cons (ps_if (pt_cmpR (r := rEqD K) (op_eqD hu64) (pv 1) pe_str (nomark _)) (pss_one (ps_ret (pe_tup (pa_cons (pv 1) (pa_cons (pe_call G_law_name (hr.mono (by omega)) (by rfl) T.g_law_name T.F_law_name.kp T.b_law_name .nil pass0 (pa_cons (pv 0) pa_nil)) (pa_cons (pe_ix (r := rIxL K) ix_list (pe_lst (pa_cons pe_str (pa_cons pe_str (pa_cons pe_str pa_nil)))) (pe_call G_law_next (hr.mono (by omega)) (by rfl) T.g_law_next T.F_law_next.kp T.b_law_next .nil pass0 (pa_cons (pv 0) (pa_cons pe_int pa_nil))) (fun _ _ => rfl)) (pa_cons (pe_call G_law_term (hr.mono (by omega)) (by rfl) T.g_law_term T.F_law_term.kp T.b_law_term .nil pass0 (pa_cons (pv 0) pa_nil)) (pa_cons (pe_call G_law_term (hr.mono (by omega)) (by rfl) T.g_law_term T.F_law_term.kp T.b_law_term .nil pass0 (pa_cons (pv 0) pa_nil)) pa_nil)))))))) pss_nil)
  (pss_cons (ps_if (pt_cmpR (r := rEqD K) (op_eqD hu64) (pv 1) pe_str (nomark _)) (pss_one (ps_ret (pe_tup (pa_cons (pv 1) (pa_cons (pe_call G_law_name (hr.mono (by omega)) (by rfl) T.g_law_name T.F_law_name.kp T.b_law_name .nil pass0 (pa_cons (pv 0) pa_nil)) (pa_cons (pe_call G_law_name (hr.mono (by omega)) (by rfl) T.g_law_name T.F_law_name.kp T.b_law_name .nil pass0 (pa_cons (pv 0) pa_nil)) (pa_cons (pe_call G_law_terms (hr.mono (by omega)) (by rfl) T.g_law_terms T.F_law_terms.kp T.b_law_terms .nil pass0 (pa_cons (pv 0) pa_nil)) pa_nil))))))) pss_nil)
  (pss_one (ps_ret (pe_tup (pa_cons (pv 1) (pa_cons (pe_call G_law_name (hr.mono (by omega)) (by rfl) T.g_law_name T.F_law_name.kp T.b_law_name .nil pass0 (pa_cons (pv 0) pa_nil)) (pa_cons (pe_call G_law_terms (hr.mono (by omega)) (by rfl) T.g_law_terms T.F_law_terms.kp T.b_law_terms .nil pass0 (pa_cons (pv 0) pa_nil)) pa_nil)))))))))), ?_⟩
  rintro ss M Q ⟨p, xs, ds, rfl, rfl, hM, hD, q⟩
  obtain ⟨M0, rfl⟩ : ∃ M0, M = um M0 p (.lst xs) := ⟨M, (um_id hM).symm⟩
  simp only [um_um] at q
  walk_at "k"
  show WS K _ [some (.ref p), none, none] (um M0 p (.lst xs)) _
  walk_at "f"
  refine a_next hD (by decide) (by decide) fun v ys h0 h1 hD1 => ?_
  walk_at "f"
  intro f hf
  have hf' : f = .str "fact" ∨ f = .str "not" ∨ f = .str "compare" ∨ f = .str "is" ∨ f = .str "count" := by
    simp only [List.mem_cons, List.not_mem_nil, or_false] at hf
    rcases hf with h | h | h | h | h | h <;> simp [h]
  rcases hf' with rfl | rfl | rfl | rfl | rfl
  · walk_at "f"
    refine a_gen0 hD1 rfl fun d zs hP hD2 => ?_
    obtain ⟨x, rfl, hx⟩ := isName_of hP
    walk_at "f"
    refine a_gen0 hD2 rfl fun d zs hP hD3 => ?_
    obtain ⟨ts, rfl, hts, hsm⟩ := hP
    walk_at "f"
    exact q _ _ ⟨.fact x ts, rfl, ⟨hx, hts⟩, hsm⟩ hD3
  · walk_at "f"
    refine a_gen0 hD1 rfl fun d zs hP hD2 => ?_
    obtain ⟨x, rfl, hx⟩ := isName_of hP
    walk_at "f"
    refine a_gen0 hD2 rfl fun d zs hP hD3 => ?_
    obtain ⟨ts, rfl, hts, hsm⟩ := hP
    walk_at "f"
    exact q _ _ ⟨.neg x ts, rfl, ⟨hx, hts⟩, hsm⟩ hD3
  · walk_at "f"
    refine a_next hD1 (by decide) (by decide) fun v ys h0 h1 hD2 => ?_
    walk_at "f"
    intro o ho
    obtain ⟨op, rfl, hop⟩ : ∃ op : Str, o = .str op ∧ op ∈ opsC := by
      simp only [List.mem_cons, List.not_mem_nil, or_false] at ho
      rcases ho with h | h | h | h | h | h <;> exact ⟨_, h, by simp [opsC]⟩
    walk_at "f"
    refine a_gen0 hD2 rfl fun d zs hP hD3 => ?_
    obtain ⟨x, rfl, hx⟩ := hP
    walk_at "f"
    refine a_gen0 hD3 rfl fun d zs hP hD4 => ?_
    obtain ⟨y, rfl, hy⟩ := hP
    walk_at "f"
    exact q _ _ ⟨.compare op x y, rfl, ⟨hop, hx, hy⟩, trivial⟩ hD4
  · walk_at "f"
    refine a_gen0 hD1 rfl fun d zs hP hD2 => ?_
    obtain ⟨n, rfl, hn⟩ := isName_of hP
    walk_at "f"
    refine a_next hD2 (by decide) (by decide) fun v ys h0 h1 hD2 => ?_
    walk_at "f"
    intro o ho
    obtain ⟨op, rfl, hop⟩ : ∃ op : Str, o = .str op ∧ op ∈ opsI := by
      simp only [List.mem_cons, List.not_mem_nil, or_false] at ho
      rcases ho with h | h | h <;> exact ⟨_, h, by simp [opsI]⟩
    walk_at "f"
    refine a_gen0 hD2 rfl fun d zs hP hD3 => ?_
    obtain ⟨x, rfl, hx⟩ := hP
    walk_at "f"
    refine a_gen0 hD3 rfl fun d zs hP hD4 => ?_
    obtain ⟨y, rfl, hy⟩ := hP
    walk_at "f"
    exact q _ _ ⟨.is n op x y, rfl, ⟨hn, hop, hx, hy⟩, trivial⟩ hD4
  · walk_at "f"
    refine a_gen0 hD1 rfl fun d zs hP hD2 => ?_
    obtain ⟨x, rfl, hx⟩ := isName_of hP
    walk_at "f"
    refine a_gen0 hD2 rfl fun d zs hP hD2 => ?_
    obtain ⟨y, rfl, hy⟩ := isName_of hP
    walk_at "f"
    refine a_gen0 hD2 rfl fun d zs hP hD3 => ?_
    obtain ⟨ts, rfl, hts, hsm⟩ := hP
    walk_at "f"
    exact q _ _ ⟨.count x y ts, rfl, ⟨hx, hy, hts⟩, hsm⟩ hD3
abbrev A_body : ASp := A_draw fun d => ∃ t : List Lit, d = encB t ∧ okB t ∧ smB t
theorem ok_body (T : Txt K mg a d) : FnOk P w K mg base CX0 6 a.law_body d.law_body ["_law_state"] (conc K A_body) := by
  have G_law_next : FnOk P w K mg base CX0 1 a.law_next d.law_next ["_law_state", "_law_limit"] (conc K A_next) := ok_next T
  have G_law_literal : FnOk P w K mg base CX0 5 a.law_literal d.law_literal ["_law_state"] (conc K A_lit) := ok_literal T
  refine ab_ok T.F_law_body sc_law_body (fun ss M Q ⟨p, xs, ds, e, e2, _⟩ => by subst e e2; rfl) fun cdv Ar outer s H E hr => ⟨_, (pss_one (ps_ret (pe_callTy (r := rTupS K) call_tuple_of (by rfl) T.n_tuple (by decide +kernel) (pa_cons (pe_lc (own := [("_law_k", 1)]) rfl sc_law_body.nd (pi_range1 rfl T.n_range (pa_cons (pe_call G_law_next (hr.mono (by omega)) (by rfl) T.g_law_next T.F_law_next.kp T.b_law_next .nil pass0 (pa_cons (pv 0) (pa_cons pe_int pa_nil))) pa_nil)) (blkOk_by (own := [("_law_k", 1)]) (N := ["_law_state", "_law_k"]) (sc := (defScope s_law_body)) (by decide +kernel)) (fun _ _ _ _ _ => (pg_name (i := 1) sc_law_body.nd rfl (Or.inl rfl))) (fun _ _ _ _ _ => pts_nil) (fun _ _ _ _ _ => (pe_call G_law_literal (hr.mono (by omega)) (by rfl) T.g_law_literal T.F_law_literal.kp T.b_law_literal .nil pass0 (pa_cons (pv 0) pa_nil)))) pa_nil)))), ?_⟩
  rintro ss M Q ⟨p, xs, ds, rfl, rfl, hM, hD, q⟩
  obtain ⟨M0, rfl⟩ : ∃ M0, M = um M0 p (.lst xs) := ⟨M, (um_id hM).symm⟩
  simp only [um_um] at q
  walk_at "k"
  show WS K _ [some (.ref p), none] (um M0 p (.lst xs)) _
  walk_at "f"
  refine w_lcGen (p := p) (by decide) (fun d => ∃ t : Lit, d = t.enc ∧ t.ok ∧ t.sm) ?_
  walk_at "f"
  refine a_next hD (by decide) (by decide) fun n zs n0 n1 hD4 => ?_
  walk_at "f"
  refine ⟨n, M0, zs, rfl, rfl, hD4, by omega, by omega, fun i M2 us hi hu => ?_, fun ds us hu hl hP => ?_⟩
  · walk_at "f"
    refine a_gen0 hu rfl fun d zs hP hD => ?_
    exact ⟨d, zs, rfl, rfl, hD, hP⟩
  · obtain ⟨ts, rfl, hts⟩ := list_enc hP
    walk_at "f"
    rw [List.length_map] at hl
    exact q _ _ ⟨ts, rfl, ⟨by omega, fun l hl => (hts l hl).1⟩, by omega, fun l hl => (hts l hl).2⟩ hu
abbrev A_item : ASp := A_draw fun d => ∃ t : Item, d = t.enc ∧ t.ok ∧ t.sm
theorem ok_item (T : Txt K mg a d) : FnOk P w K mg base CX0 7 a.law_item d.law_item ["_law_state"] (conc K A_item) := by
  have G_law_next : FnOk P w K mg base CX0 1 a.law_next d.law_next ["_law_state", "_law_limit"] (conc K A_next) := ok_next T
  have G_law_name : FnOk P w K mg base CX0 2 a.law_name d.law_name ["_law_state"] (conc K (A_draw fun d => isName d = true)) := ok_name T
  have G_law_row : FnOk P w K mg base CX0 3 a.law_row d.law_row ["_law_state", "_law_width"] (conc K A_row) := ok_row T
  have G_law_terms : FnOk P w K mg base CX0 4 a.law_terms d.law_terms ["_law_state"] (conc K A_terms) := ok_terms T
  have G_law_body : FnOk P w K mg base CX0 6 a.law_body d.law_body ["_law_state"] (conc K A_body) := ok_body T
  refine ab_ok T.F_law_item sc_law_item (fun ss M Q ⟨p, xs, ds, e, e2, _⟩ => by subst e e2; rfl) fun cdv Ar outer s H E hr => ?_
  have hu64 := hr.units
  refine ⟨_, (pss_cons (ps_set (i := 1) sc_law_item.nd rfl (Or.inl rfl) (pe_call G_law_next (hr.mono (by omega)) (by rfl) T.g_law_next T.F_law_next.kp T.b_law_next .nil pass0 (pa_cons (pv 0) (pa_cons pe_int pa_nil))))
  (pss_cons (ps_set (i := 2) sc_law_item.nd rfl (Or.inl rfl) (pe_call G_law_name (hr.mono (by omega)) (by rfl) T.g_law_name T.F_law_name.kp T.b_law_name .nil pass0 (pa_cons (pv 0) pa_nil)))
  (pss_cons (ps_if (pt_cmpR op_lt (pv 1) pe_int (nomark _)) (pss_one (ps_ret (pe_tup (pa_cons pe_str (pa_cons (pv 2) (pa_cons (pe_op op_add pe_int (pe_call G_law_next (hr.mono (by omega)) (by rfl) T.g_law_next T.F_law_next.kp T.b_law_next .nil pass0 (pa_cons (pv 0) (pa_cons pe_int pa_nil)))) pa_nil)))))) pss_nil)
  (pss_cons (ps_if (pt_cmpR op_lt (pv 1) pe_int (nomark _)) (pss_one (ps_ret (pe_tup (pa_cons pe_str (pa_cons (pv 2) (pa_cons (pe_call G_law_row (hr.mono (by omega)) (by rfl) T.g_law_row T.F_law_row.kp T.b_law_row .nil pass0 (pa_cons (pv 0) (pa_cons (pe_op op_add pe_int (pe_call G_law_next (hr.mono (by omega)) (by rfl) T.g_law_next T.F_law_next.kp T.b_law_next .nil pass0 (pa_cons (pv 0) (pa_cons pe_int pa_nil)))) pa_nil))) pa_nil)))))) pss_nil)
  (pss_cons (ps_if (pt_cmpR op_lt (pv 1) pe_int (nomark _)) (pss_one (ps_ret (pe_tup (pa_cons pe_str (pa_cons (pv 2) (pa_cons (pe_call G_law_name (hr.mono (by omega)) (by rfl) T.g_law_name T.F_law_name.kp T.b_law_name .nil pass0 (pa_cons (pv 0) pa_nil)) (pa_cons (pe_call G_law_terms (hr.mono (by omega)) (by rfl) T.g_law_terms T.F_law_terms.kp T.b_law_terms .nil pass0 (pa_cons (pv 0) pa_nil)) (pa_cons (pe_call G_law_body (hr.mono (by omega)) (by rfl) T.g_law_body T.F_law_body.kp T.b_law_body .nil pass0 (pa_cons (pv 0) pa_nil)) pa_nil)))))))) pss_nil)
  (pss_one (ps_ret (pe_tup (pa_cons pe_str (pa_cons (pv 2) (pa_cons (pe_call G_law_body (hr.mono (by omega)) (by rfl) T.g_law_body T.F_law_body.kp T.b_law_body .nil pass0 (pa_cons (pv 0) pa_nil)) pa_nil))))))))))), ?_⟩
  rintro ss M Q ⟨p, xs, ds, rfl, rfl, hM, hD, q⟩
  obtain ⟨M0, rfl⟩ : ∃ M0, M = um M0 p (.lst xs) := ⟨M, (um_id hM).symm⟩
  simp only [um_um] at q
  walk_at "k"
  show WS K _ [some (.ref p), none, none] (um M0 p (.lst xs)) _
  walk_at "f"
  refine a_next hD (by decide) (by decide) fun v ys h0 h1 hD1 => ?_
  walk_at "f"
  refine a_gen0 hD1 rfl fun d zs hP hD2 => ?_
  obtain ⟨n, rfl, hn⟩ := isName_of hP
  walk_at "f"
  refine ite_d (fun h => ?_) (fun h => ?_)
  · walk_at "f"
    refine a_next hD2 (by decide) (by decide) fun x ys x0 x1 hD3 => ?_
    walk_at "f"
    exact q _ _ ⟨.relation n (1 + x), rfl, ⟨hn, by omega, by omega⟩, trivial⟩ hD3
  walk_at "f"
  refine ite_d (fun h => ?_) (fun h => ?_)
  · walk_at "f"
    refine a_next hD2 (by decide) (by decide) fun x ys x0 x1 hD3 => ?_
    walk_at "f"
    refine a_gen1 hD3 ⟨_, rfl, by omega, by omega⟩ fun d zs hP hD4 => ?_
    obtain ⟨row, rfl, hrow, hw⟩ := hP
    walk_at "f"
    exact q _ _ ⟨.fact n row, rfl, ⟨hn, hrow, fun e => by subst e; simp at hw; omega⟩, by simp at hw; show row.length ≤ 6; omega⟩ hD4
  walk_at "f"
  refine ite_d (fun h => ?_) (fun h => ?_)
  · walk_at "f"
    refine a_gen0 hD2 rfl fun d zs hP hD3 => ?_
    obtain ⟨r, rfl, hr'⟩ := isName_of hP
    walk_at "f"
    refine a_gen0 hD3 rfl fun d zs hP hD4 => ?_
    obtain ⟨ts, rfl, hts, hsm⟩ := hP
    walk_at "f"
    refine a_gen0 hD4 rfl fun d zs hP hD5 => ?_
    obtain ⟨b, rfl, hb, hsb⟩ := hP
    walk_at "f"
    exact q _ _ ⟨.rule n r ts b, rfl, ⟨hn, hr', hts, hb⟩, hsm, hsb⟩ hD5
  walk_at "f"
  refine a_gen0 hD2 rfl fun d zs hP hD5 => ?_
  obtain ⟨b, rfl, hb, hsb⟩ := hP
  walk_at "f"
  exact q _ _ ⟨.denial n b, rfl, ⟨hn, hb⟩, hsb⟩ hD5
end
end
section
section
variable {P : Program} {w : World} {K : PySem.W.Frag} {mg : Str → Option Value} {base : Heap} {a : AD} {d : FD}
def A_before : ASp := fun ss M Q => ∃ v w : Val, ss = [.dat v.enc, .dat w.enc] ∧ v.ok ∧ w.ok ∧ Q (.bl (vLt v w)) M
theorem ok_before (T : Txt K mg a d) : FnOk P w K mg base CX0 1 a.law_before d.law_before ["_law_first", "_law_second"] (conc K A_before) := by
  refine ab_ok T.F_law_before sc_law_before (fun ss M Q ⟨_, _, e, _⟩ => by subst e; rfl) fun cdv Ar outer s H E hr => ?_
  have hu64 := hr.units
  refine ⟨_, (pss_cons (ps_if (pt_cmpR (r := rNeD K) (op_neD hu64) (pe_callB (r := rIsi K) call_isi (by rfl) T.n_isinstance (by decide +kernel) (pa_cons (pv 0) (pa_cons (pe_bltn (v := .ty "str") (u := .type "str") (by rfl) T.n_str (by decide +kernel) rfl) pa_nil))) (pe_callB (r := rIsi K) call_isi (by rfl) T.n_isinstance (by decide +kernel) (pa_cons (pv 1) (pa_cons (pe_bltn (v := .ty "str") (u := .type "str") (by rfl) T.n_str (by decide +kernel) rfl) pa_nil))) (nomark _)) (pss_one (ps_ret (pe_callB (r := rIsi K) call_isi (by rfl) T.n_isinstance (by decide +kernel) (pa_cons (pv 1) (pa_cons (pe_bltn (v := .ty "str") (u := .type "str") (by rfl) T.n_str (by decide +kernel) rfl) pa_nil))))) pss_nil)
  (pss_one (ps_ret (pe_cmpR (r := rCmp .Lt K) (op_ltD hu64) (pv 0) (pv 1) (nomark _))))), ?_⟩
  rintro ss M Q ⟨v, w, rfl, hv, hw, q⟩
  walk_at "k"
  show WS K _ [some (.dat v.enc), some (.dat w.enc)] M _
  cases v with
  | int x =>
    cases w with
    | int y =>
      walk_at "e"
      refine w2_cmp rfl (shaped_int x) (shaped_int y) ?_
      exact q
    | str y =>
      walk_at "e"
      exact q
  | str x =>
    cases w with
    | int y =>
      walk_at "e"
      exact q
    | str y =>
      walk_at "e"
      refine w2_cmp rfl (shaped_str (goodS_ok hv)) (shaped_str (goodS_ok hw)) ?_
      exact q
def A_order : ASp := fun ss M Q => ∃ x y : List Val, ss = [.dat (encR x), .dat (encR y)] ∧ okR x ∧ okR y ∧ Q (.int (ordR x y)) M
theorem ok_order (T : Txt K mg a d) : FnOk P w K mg base CX0 2 a.law_order d.law_order ["_law_first", "_law_second"] (conc K A_order) := by
  have G_law_before : FnOk P w K mg base CX0 1 a.law_before d.law_before ["_law_first", "_law_second"] (conc K A_before) := ok_before T
  refine ab_ok T.F_law_order sc_law_order (fun ss M Q ⟨_, _, e, _⟩ => by subst e; rfl) fun cdv Ar outer s H E hr => ?_
  have hu64 := hr.units
  refine ⟨_, (pss_cons (ps_for PassesOwn.never rfl (pi_range1 rfl T.n_range (pa_cons (pe_callB (call_min2 rfl) (by rfl) T.n_min (by decide +kernel) (pa_cons (pe_callB (r := rLenS K) call_len_seq (by rfl) T.n_len PySem.boot_len (pa_cons (pv 0) pa_nil)) (pa_cons (pe_callB (r := rLenS K) call_len_seq (by rfl) T.n_len PySem.boot_len (pa_cons (pv 1) pa_nil)) pa_nil))) pa_nil)) (pg_name (i := 2) sc_law_order.nd rfl (Or.inl rfl)) (pss_cons (ps_if (pt_val (pe_call G_law_before (hr.mono (by omega)) (by rfl) T.g_law_before T.F_law_before.kp T.b_law_before .nil pass0 (pa_cons (pe_ix (r := rIxT K) ix_tup (pv 0) (pv 2) (fun _ _ => rfl)) (pa_cons (pe_ix (r := rIxT K) ix_tup (pv 1) (pv 2) (fun _ _ => rfl)) pa_nil)))) (pss_one (ps_ret (pe_un un_neg pe_int))) pss_nil)
  (pss_one (ps_if (pt_val (pe_call G_law_before (hr.mono (by omega)) (by rfl) T.g_law_before T.F_law_before.kp T.b_law_before .nil pass0 (pa_cons (pe_ix (r := rIxT K) ix_tup (pv 1) (pv 2) (fun _ _ => rfl)) (pa_cons (pe_ix (r := rIxT K) ix_tup (pv 0) (pv 2) (fun _ _ => rfl)) pa_nil)))) (pss_one (ps_ret pe_int)) pss_nil))))
  (pss_one (ps_ret (pe_op op_sub (pe_callTy (r := rInt1) call_int1 (by rfl) T.n_int (by decide +kernel) (pa_cons (pe_cmpR op_gt (pe_callB (r := rLenS K) call_len_seq (by rfl) T.n_len PySem.boot_len (pa_cons (pv 0) pa_nil)) (pe_callB (r := rLenS K) call_len_seq (by rfl) T.n_len PySem.boot_len (pa_cons (pv 1) pa_nil)) (nomark _)) pa_nil)) (pe_callTy (r := rInt1) call_int1 (by rfl) T.n_int (by decide +kernel) (pa_cons (pe_cmpR op_lt (pe_callB (r := rLenS K) call_len_seq (by rfl) T.n_len PySem.boot_len (pa_cons (pv 0) pa_nil)) (pe_callB (r := rLenS K) call_len_seq (by rfl) T.n_len PySem.boot_len (pa_cons (pv 1) pa_nil)) (nomark _)) pa_nil)))))), ?_⟩
  rintro ss M Q ⟨x, y, rfl, hx, hy, q⟩
  walk_at "k"
  show WS K _ [some (.dat (encR x)), some (.dat (encR y)), none] M _
  have hx1 := hx.1
  have hy1 := hy.1
  refine ws_seq (ws_forR1 (n := if (y.length : Int) < x.length then (y.length : Int) else x.length) (M1 := M) (by walk_at "e"; exact ⟨by simp, rfl⟩) (by split <;> omega)
    (fun i ρ' M' => ∃ z, ρ' = [some (.dat (encR x)), some (.dat (encR y)), z] ∧ M' = M ∧ ∀ j, j < i → x[j]? = y[j]?) ⟨none, rfl, rfl, fun j h => nomatch h⟩ ?_ ?_)
  · rintro i ρ' M' hi ⟨z, rfl, rfl, he⟩
    have h1 : i < x.length := by split at hi <;> omega
    have h2 : i < y.length := by split at hi <;> omega
    have a1 : atI (x.map Val.enc) (i : Int) = some (x[i].enc) := atI_nat (by rw [List.getElem?_map, List.getElem?_eq_getElem h1]; rfl)
    have a2 : atI (y.map Val.enc) (i : Int) = some (y[i].enc) := atI_nat (by rw [List.getElem?_map, List.getElem?_eq_getElem h2]; rfl)
    have k1 := hx.2 _ (List.getElem_mem h1)
    have k2 := hy.2 _ (List.getElem_mem h2)
    have s1 : x = x.take i ++ x[i] :: x.drop (i + 1) := split_at h1
    have s2 : y = x.take i ++ y[i] :: y.drop (i + 1) := by
      have : x.take i = y.take i := List.ext_getElem? fun j => by
        rw [List.getElem?_take, List.getElem?_take]
        by_cases hj : j < i
        · rw [if_pos hj, if_pos hj, he j hj]
        · rw [if_neg hj, if_neg hj]
      rw [this]
      exact split_at h2
    refine wg_name ?_
    walk_at "e"
    refine w2_ixT a1 ?_
    walk_at "e"
    refine w2_ixT a2 ?_
    walk_at "e"
    refine ⟨x[i], y[i], rfl, k1, k2, ?_⟩
    walk_at "e"
    refine ite_b (fun hb => ?_) (fun hb => ?_)
    · walk_at "e"
      rw [s1, s2, (ordR_at hb).1] at q
      exact q
    walk_at "e"
    refine w2_ixT a2 ?_
    walk_at "e"
    refine w2_ixT a1 ?_
    walk_at "e"
    refine ⟨y[i], x[i], rfl, k2, k1, ?_⟩
    walk_at "e"
    refine ite_b (fun hb2 => ?_) (fun hb2 => ?_)
    · walk_at "e"
      rw [s1, s2, (ordR_at hb2).2] at q
      exact q
    walk_at "e"
    refine ⟨_, rfl, rfl, fun j hj => ?_⟩
    by_cases e : j = i
    · subst e
      rw [List.getElem?_eq_getElem h1, List.getElem?_eq_getElem h2]
      by_cases e : x[j] = y[j]
      · rw [e]
      · have := vLt_tri e
        rw [hb, hb2] at this
        cases this
    · exact he j (by omega)
  · rintro ρ' M' ⟨z, rfl, rfl, he⟩
    walk_at "e"
    have hp := ordR_pre (a := x) (b := y) fun j h1 h2 => he j (by split <;> omega)
    simp only [List.length_map]
    have d1 : decide ((y.length : Int) < (x.length : Int)) = decide (y.length < x.length) := decide_eq_decide.mpr (by omega)
    have d2 : decide ((x.length : Int) < (y.length : Int)) = decide (x.length < y.length) := decide_eq_decide.mpr (by omega)
    rw [d1, d2, ← hp]
    exact q
theorem idx4 {ds : List PyData} {d : PyData} (j : Nat) (h : (ds.take j).all (fun z => !PyData.eqv z d) = true) : ∀ (m : Nat) (z' : PyData), m < j → ds[m]? = some z' → PyData.eqv z' d = false := fun m z' hm hz => by
  have hmem : z' ∈ ds.take j := List.mem_iff_getElem?.mpr ⟨m, by rw [List.getElem?_take, if_pos hm]; exact hz⟩
  have := List.all_eq_true.mp h z' hmem
  simpa using this
def A_law_key : ASp := fun ss M Q => ∃ it : Item, ss = [.dat it.enc] ∧ Q (.dat (keyOf it).enc) M
theorem ok_law_key (T : Txt K mg a d) : FnOk P w K mg base CX0 1 a.law_key d.law_key ["_law_item_here"] (conc K A_law_key) := by
  refine ab_ok T.F_law_key sc_law_key (fun ss M Q ⟨v, e, _⟩ => by subst e; rfl) fun cdv Ar outer s H E hr => ?_
  have hu64 := hr.units
  have hu65 := room65 hr
  refine ⟨_, (pss_cons (ps_set (i := 1) sc_law_key.nd rfl (Or.inl rfl) (pe_bm PySem.F.plainAttrs_list PySem.F.slot_list_index PySem.F.type_list_index (r := rIndexD K) (mt_indexD hu65) (pe_lst (pa_cons pe_str (pa_cons pe_str (pa_cons pe_str (pa_cons pe_str pa_nil))))) (pa_cons (pe_ix (r := rIxT K) ix_tup (pv 0) pe_int (fun _ _ => rfl)) pa_nil)))
  (pss_cons (ps_if (pt_cmpR (r := rEqD K) (op_eqD hu64) (pv 1) pe_int (nomark _)) (pss_one (ps_ret (pe_tup (pa_cons pe_int (pa_cons (pe_ix (r := rIxT K) ix_tup (pv 0) pe_int (fun _ _ => rfl)) (pa_cons (pe_ix (r := rIxT K) ix_tup (pv 0) pe_int (fun _ _ => rfl)) pa_nil)))))) pss_nil)
  (pss_one (ps_ret (pe_tup (pa_cons (pv 1) (pa_cons (pe_ix (r := rIxT K) ix_tup (pv 0) pe_int (fun _ _ => rfl)) (pa_cons (pe_tup pa_nil) pa_nil)))))))), ?_⟩
  rintro ss M Q ⟨it, rfl, q⟩
  walk_at "k"
  show WS K _ [some (.dat it.enc), none] M _
  cases it with
  | relation n x =>
    walk_at "f"
    refine w_bm ?_
    walk_at "f"
    refine ⟨ty_lst lsv_dat, ?_⟩
    walk_at "f"
    refine wm_index (j := 0) (by decide +kernel) (by decide +kernel) rfl (by decide +kernel) (idx4 0 (by decide +kernel)) ?_
    walk_at "f"
    exact q
  | fact n row =>
    walk_at "f"
    refine w_bm ?_
    walk_at "f"
    refine ⟨ty_lst lsv_dat, ?_⟩
    walk_at "f"
    refine wm_index (j := 1) (by decide +kernel) (by decide +kernel) rfl (by decide +kernel) (idx4 1 (by decide +kernel)) ?_
    walk_at "f"
    exact q
  | rule n rel hd b =>
    walk_at "f"
    refine w_bm ?_
    walk_at "f"
    refine ⟨ty_lst lsv_dat, ?_⟩
    walk_at "f"
    refine wm_index (j := 2) (by decide +kernel) (by decide +kernel) rfl (by decide +kernel) (idx4 2 (by decide +kernel)) ?_
    walk_at "f"
    exact q
  | denial n b =>
    walk_at "f"
    refine w_bm ?_
    walk_at "f"
    refine ⟨ty_lst lsv_dat, ?_⟩
    walk_at "f"
    refine wm_index (j := 3) (by decide +kernel) (by decide +kernel) rfl (by decide +kernel) (idx4 3 (by decide +kernel)) ?_
    walk_at "f"
    exact q
def A_key_order2 : ASp := fun ss M Q => ∃ k l : IKey, ss = [.dat k.enc, .dat l.enc] ∧ k.ok ∧ l.ok ∧ Q (.int (ordK k l)) M
theorem ok_law_key_order (T : Txt K mg a d) : FnOk P w K mg base CX0 3 a.law_key_order d.law_key_order ["_law_first", "_law_second"] (conc K A_key_order2) := by
  have G_law_order : FnOk P w K mg base CX0 2 a.law_order d.law_order ["_law_first", "_law_second"] (conc K A_order) := ok_order T
  refine ab_ok T.F_law_key_order sc_law_key_order (fun ss M Q ⟨_, _, e, _⟩ => by subst e; rfl) fun cdv Ar outer s H E hr => ?_
  have hu64 := hr.units
  refine ⟨_, (pss_cons (ps_if (pt_cmpR (r := rNeD K) (op_neD hu64) (pe_slice (r := rSlA K) sl_tupA (pv 0) po_none (po_some pe_int)) (pe_slice (r := rSlA K) sl_tupA (pv 1) po_none (po_some pe_int)) (nomark _)) (pss_one (ps_ret (pe_op op_sub pe_int (pe_op op_mul pe_int (pe_callTy (r := rInt1) call_int1 (by rfl) T.n_int (by decide +kernel) (pa_cons (pe_cmpR (r := rCmp .Lt K) (op_ltD hu64) (pe_slice (r := rSlA K) sl_tupA (pv 0) po_none (po_some pe_int)) (pe_slice (r := rSlA K) sl_tupA (pv 1) po_none (po_some pe_int)) (nomark _)) pa_nil)))))) pss_nil)
  (pss_one (ps_ret (pe_call G_law_order (hr.mono (by omega)) (by rfl) T.g_law_order T.F_law_order.kp T.b_law_order .nil pass0 (pa_cons (pe_ix (r := rIxT K) ix_tup (pv 0) pe_int (fun _ _ => rfl)) (pa_cons (pe_ix (r := rIxT K) ix_tup (pv 1) pe_int (fun _ _ => rfl)) pa_nil)))))), ?_⟩
  rintro ss M Q ⟨k, l, rfl, hk, hl, q⟩
  walk_at "k"
  show WS K _ [some (.dat k.enc), some (.dat l.enc)] M _
  walk_at "e"
  have cut : ∀ x y z : PyData, cutG [x, y, z] none (some 2) = [x, y] := fun _ _ _ => rfl
  have sh : ∀ {k : IKey}, k.ok → SeqAt.shaped (.tuple [.int k.s, .str k.n]) = true := fun h => okD_shaped (n := 1) (okD_mkT (by simp) (okAll_cons okD_int (okAll_cons (okD_good h.1) rfl))) (by decide)
  rw [cut, cut]
  refine w2_ne (sh hk) (sh hl) ?_
  have e1 : PyData.eqv (.tuple [.int k.s, .str k.n]) (.tuple [.int l.s, .str l.n]) = decide (k.s = l.s ∧ k.n = l.n) := by
    have e1 := eqv_int k.s l.s
    have e2 := eqv_str k.n l.n
    simp only [PyData.eqv, PyData.eqvAll, Bool.and_true] at e1 e2 ⊢
    rw [e1, e2]
    by_cases h1 : k.s = l.s <;> by_cases h2 : k.n = l.n <;> simp [h1, h2]
  rw [e1]
  walk_at "e"
  refine ite_n (fun h => ?_) (fun h => ?_)
  · walk_at "e"
    rw [cut, cut]
    have hc : cmpOk (.tuple [.int k.s, .str k.n]) (.tuple [.int l.s, .str l.n]) = true := by
      show cmpOks _ _ = true
      simp only [cmpOks, eqv_int, eqv_str]
      simp [cmpOk]
    refine w2_cmp hc (sh hk) (sh hl) ?_
    have e2 : cmpV .Lt (.tuple [.int k.s, .str k.n]) (.tuple [.int l.s, .str l.n]) = hdLt k l := by
      unfold hdLt
      simp only [cmpV, cmpVs, eqv_int, eqv_str, cmpI, cmpS, cmpN, List.length_cons, List.length_nil]
      by_cases h1 : k.s = l.s
      · have h2 : k.n ≠ l.n := fun e => h ⟨h1, e⟩
        simp [h1, h2]
      · simp [h1]
    rw [e2]
    walk_at "e"
    unfold ordK at q
    rw [if_neg h] at q
    cases hh : hdLt k l with
    | true => rw [hh] at q; exact q
    | false => rw [hh] at q; exact q
  · walk_at "e"
    refine ⟨k.row, l.row, rfl, hk.2, hl.2, ?_⟩
    unfold ordK at q
    rw [if_pos h] at q
    exact q
end
end
section
structure SA where
  o : Addr
  dx : Addr
  r : Addr
  f : Addr
  u : Addr
  n : Addr
  fa : List (Str × Addr)
def SA.sFa (A : SA) (x : List (Str × Addr)) : SA := { A with fa := x }
def SA.sF (A : SA) (x : Addr) : SA := { A with f := x }
def sfld (A : SA) : List (Str × Sl) := [("relations", .raw (.ref A.r)), ("facts", .raw (.ref A.f)), ("rules", .raw (.ref A.u)), ("denials", .raw (.ref A.n))]
theorem sl_r (A : SA) : (sfld A).lookup ("relations" : Str) = some (.raw (.ref A.r) : Sl) := by kernel_rfl
theorem sl_f (A : SA) : (sfld A).lookup ("facts" : Str) = some (.raw (.ref A.f) : Sl) := by kernel_rfl
theorem sl_u (A : SA) : (sfld A).lookup ("rules" : Str) = some (.raw (.ref A.u) : Sl) := by kernel_rfl
theorem sl_n (A : SA) : (sfld A).lookup ("denials" : Str) = some (.raw (.ref A.n) : Sl) := by kernel_rfl
theorem sp_f (A : SA) (x : Addr) : putS "facts" (.raw (.ref x)) (sfld A) = sfld (A.sF x) := by kernel_rfl
def rowsM (rs : List (List Val)) : MO := .lst (rs.map fun r => .dat (encR r))
def kvR (c : Ct) : List (Key × Sl) := c.rel.map fun p => ((.inr p.1 : Key), .int p.2)
def kvF (A : SA) : List (Key × Sl) := A.fa.map fun p => ((.inr p.1 : Key), .raw (.ref p.2))
def kvU (c : Ct) : List (Key × Sl) := c.rul.map fun p => ((.inr p.1 : Key), .dat p.2.enc)
def kvN (c : Ct) : List (Key × Sl) := c.den.map fun p => ((.inr p.1 : Key), .dat (encB p.2))
structure SeAt (C : Addr) (M : MH) (A : SA) (c : Ct) : Prop where
  ho : M A.o = some (.ins C A.dx (sfld A))
  hr : M A.r = some (.dK (kvR c))
  hf : M A.f = some (.dK (kvF A))
  hu : M A.u = some (.dK (kvU c))
  hn : M A.n = some (.dK (kvN c))
  ne : A.r ≠ A.f ∧ A.r ≠ A.u ∧ A.r ≠ A.n ∧ A.f ≠ A.u ∧ A.f ≠ A.n ∧ A.u ≠ A.n
  keys : A.fa.map (·.1) = c.fac.map (·.1)
  rows : ∀ n a, valG A.fa n = some a → M a = some (rowsM (rowsOf c n))
  inj : ∀ n n' a, valG A.fa n = some a → valG A.fa n' = some a → n = n'
def SA.own (A : SA) (b : Addr) : Prop := b = A.o ∨ b = A.r ∨ b = A.f ∨ b = A.u ∨ b = A.n ∨ ∃ n, valG A.fa n = some b
/-- all but the state's own stands as it stood, and is none of the state's new own -/
def SFr (M M' : MH) (A A' : SA) : Prop := A'.o = A.o ∧ ∀ b u, M b = some u → ¬ A.own b → M' b = some u ∧ ¬ A'.own b
theorem SFr.refl {M : MH} {A : SA} : SFr M M A A := ⟨rfl, fun b u hb hn => ⟨hb, hn⟩⟩
theorem SFr.trans {M M' M2 : MH} {A A' A2 : SA} (h : SFr M M' A A') (h' : SFr M' M2 A' A2) : SFr M M2 A A2 := ⟨h'.1.trans h.1, fun b u hb hn => by
  obtain ⟨h1, h2⟩ := h.2 b u hb hn
  exact h'.2 b u h1 h2⟩
section
variable {C : Addr} {M M' : MH} {A A' : SA} {c : Ct}
theorem SeAt.emp (h : SeAt C M A c) {n : Str} (e : valG A.fa n = none) : rowsOf c n = [] := by
  have h1 := valG_isSome n A.fa
  have h2 := valG_isSome n c.fac
  rw [e, h.keys, ← h2] at h1
  unfold rowsOf
  cases hv : valG c.fac n with
  | none => rfl
  | some x => rw [hv] at h1; cases h1
/-- where the rows stand nothing else of the state does -/
theorem SeAt.off (h : SeAt C M A c) {n : Str} {a : Addr} (e : valG A.fa n = some a) : a ≠ A.o ∧ a ≠ A.r ∧ a ≠ A.f ∧ a ≠ A.u ∧ a ≠ A.n := by
  have hr := h.rows n a e
  refine ⟨fun z => ?_, fun z => ?_, fun z => ?_, fun z => ?_, fun z => ?_⟩
  · rw [z, h.ho] at hr; cases hr
  · rw [z, h.hr] at hr; cases hr
  · rw [z, h.hf] at hr; cases hr
  · rw [z, h.hu] at hr; cases hr
  · rw [z, h.hn] at hr; cases hr
theorem SeAt.oo (h : SeAt C M A c) : A.r ≠ A.o ∧ A.f ≠ A.o ∧ A.u ≠ A.o ∧ A.n ≠ A.o := by
  have ho := h.ho
  refine ⟨fun z => ?_, fun z => ?_, fun z => ?_, fun z => ?_⟩
  · rw [← z, h.hr] at ho; cases ho
  · rw [← z, h.hf] at ho; cases ho
  · rw [← z, h.hu] at ho; cases ho
  · rw [← z, h.hn] at ho; cases ho
theorem SeAt.new (h : SeAt C M A c) {b : Addr} (hb : M b = none) : ¬ A.own b := fun z => by
  rcases z with rfl | rfl | rfl | rfl | rfl | ⟨n, e⟩
  · rw [h.ho] at hb; cases hb
  · rw [h.hr] at hb; cases hb
  · rw [h.hf] at hb; cases hb
  · rw [h.hu] at hb; cases hb
  · rw [h.hn] at hb; cases hb
  · rw [h.rows n b e] at hb; cases hb
/-- what is none of its own may change -/
theorem SeAt.um (h : SeAt C M A c) {b : Addr} {x : MO} (hb : ¬ A.own b) : SeAt C (Ab.um M b x) A c := by
  have k : ∀ a, A.own a → a ≠ b := fun a ha e => hb (e ▸ ha)
  refine ⟨?_, ?_, ?_, ?_, ?_, h.ne, h.keys, fun n a e => ?_, h.inj⟩
  · rw [um_ne (k _ (.inl rfl))]; exact h.ho
  · rw [um_ne (k _ (.inr (.inl rfl)))]; exact h.hr
  · rw [um_ne (k _ (.inr (.inr (.inl rfl))))]; exact h.hf
  · rw [um_ne (k _ (.inr (.inr (.inr (.inl rfl)))))]; exact h.hu
  · rw [um_ne (k _ (.inr (.inr (.inr (.inr (.inl rfl))))))]; exact h.hn
  · rw [um_ne (k _ (.inr (.inr (.inr (.inr (.inr ⟨n, e⟩))))))]; exact h.rows n a e
theorem SFr.um {b : Addr} {x : MO} (hb : A.own b) : SFr M (Ab.um M b x) A A := ⟨rfl, fun a u ha hn => ⟨by rw [um_ne fun e => hn (by rw [e]; exact hb)]; exact ha, hn⟩⟩
theorem SFr.umN {b : Addr} {x : MO} (hb : M b = none) : SFr M (Ab.um M b x) A A := ⟨rfl, fun a u ha hn => ⟨by rw [um_ne fun e => by rw [e, hb] at ha; cases ha]; exact ha, hn⟩⟩
theorem SeAt.setR (h : SeAt C M A c) (x : List (Str × Int)) : SeAt C (Ab.um M A.r (.dK (kvR (c.sRel x)))) A (c.sRel x) := by
  obtain ⟨n1, n2, n3, n4, n5, n6⟩ := h.ne
  obtain ⟨o1, o2, o3, o4⟩ := h.oo
  exact ⟨by rw [um_ne o1.symm]; exact h.ho, um_same, by rw [um_ne n1.symm]; exact h.hf, by rw [um_ne n2.symm]; exact h.hu, by rw [um_ne n3.symm]; exact h.hn, h.ne, h.keys, fun n a e => by rw [um_ne (h.off e).2.1]; exact h.rows n a e, h.inj⟩
theorem SeAt.setU (h : SeAt C M A c) (x : List (Str × Rul)) : SeAt C (Ab.um M A.u (.dK (kvU (c.sRul x)))) A (c.sRul x) := by
  obtain ⟨n1, n2, n3, n4, n5, n6⟩ := h.ne
  obtain ⟨o1, o2, o3, o4⟩ := h.oo
  exact ⟨by rw [um_ne o3.symm]; exact h.ho, by rw [um_ne n2]; exact h.hr, by rw [um_ne n4]; exact h.hf, um_same, by rw [um_ne n6.symm]; exact h.hn, h.ne, h.keys, fun n a e => by rw [um_ne (h.off e).2.2.2.1]; exact h.rows n a e, h.inj⟩
theorem SeAt.setN (h : SeAt C M A c) (x : List (Str × List Lit)) : SeAt C (Ab.um M A.n (.dK (kvN (c.sDen x)))) A (c.sDen x) := by
  obtain ⟨n1, n2, n3, n4, n5, n6⟩ := h.ne
  obtain ⟨o1, o2, o3, o4⟩ := h.oo
  exact ⟨by rw [um_ne o4.symm]; exact h.ho, by rw [um_ne n3]; exact h.hr, by rw [um_ne n5]; exact h.hf, by rw [um_ne n6]; exact h.hu, um_same, h.ne, h.keys, fun n a e => by rw [um_ne (h.off e).2.2.2.2]; exact h.rows n a e, h.inj⟩
theorem keys_val {α β : Type} : ∀ {xs : List (Str × α)} {ys : List (Str × β)} {n : Str}, xs.map (·.1) = ys.map (·.1) → (valG xs n).isSome = (valG ys n).isSome := fun {xs ys n} e => by
  rw [valG_isSome, valG_isSome, e]
/-- rows at a name that stands -/
theorem SeAt.setRow (h : SeAt C M A c) {n : Str} {a : Addr} (e : valG A.fa n = some a) (rs : List (List Val)) : SeAt C (Ab.um M a (rowsM rs)) A (c.sFac (putG c.fac n rs)) := by
  obtain ⟨k1, k2, k3, k4, k5⟩ := h.off e
  have hk : n ∈ c.fac.map (·.1) := by
    have := valG_isSome n c.fac
    rw [← keys_val h.keys, e] at this
    exact of_decide_eq_true this.symm
  refine ⟨by rw [um_ne k1.symm]; exact h.ho, by rw [um_ne k2.symm]; exact h.hr, by rw [um_ne k3.symm]; exact h.hf, by rw [um_ne k4.symm]; exact h.hu, by rw [um_ne k5.symm]; exact h.hn, h.ne, ?_, fun n' a' e' => ?_, h.inj⟩
  · rw [h.keys]
    show _ = (putG c.fac n rs).map (·.1)
    rw [putG_keys, if_pos hk]
  · show Ab.um M a (rowsM rs) a' = some (rowsM ((valG (putG c.fac n rs) n').getD []))
    rw [valG_put]
    by_cases en : n = n'
    · subst en
      rw [e] at e'
      cases e'
      rw [if_pos rfl]
      exact um_same
    · have ea : a' ≠ a := fun z => en (h.inj n n' a e (z ▸ e'))
      rw [if_neg en, um_ne ea]
      exact h.rows n' a' e'
/-- rows at a name that is new -/
theorem SeAt.newRow (h : SeAt C M A c) {n : Str} {p : Addr} (e : valG A.fa n = none) (hp : M p = none) (rs : List (List Val)) : SeAt C (Ab.um (Ab.um M p (rowsM rs)) A.f (.dK (kvF (A.sFa (putG A.fa n p))))) (A.sFa (putG A.fa n p)) (c.sFac (putG c.fac n rs)) := by
  obtain ⟨n1, n2, n3, n4, n5, n6⟩ := h.ne
  obtain ⟨o1, o2, o3, o4⟩ := h.oo
  have hk := h.new hp
  have k : ∀ a, A.own a → a ≠ p := fun a ha e => hk (e ▸ ha)
  refine ⟨?_, ?_, um_same, ?_, ?_, h.ne, ?_, fun n' a' e' => ?_, fun n1 n2 a e1 e2 => ?_⟩
  · show Ab.um _ A.f _ A.o = _
    rw [um_ne o2.symm, um_ne (k _ (.inl rfl))]; exact h.ho
  · show Ab.um _ A.f _ A.r = _
    rw [um_ne n1, um_ne (k _ (.inr (.inl rfl)))]; exact h.hr
  · show Ab.um _ A.f _ A.u = _
    rw [um_ne n4.symm, um_ne (k _ (.inr (.inr (.inr (.inl rfl)))))]; exact h.hu
  · show Ab.um _ A.f _ A.n = _
    rw [um_ne n5.symm, um_ne (k _ (.inr (.inr (.inr (.inr (.inl rfl))))))]; exact h.hn
  · show (putG A.fa n p).map (·.1) = (putG c.fac n rs).map (·.1)
    rw [putG_keys, putG_keys, h.keys]
  · have e' : valG (putG A.fa n p) n' = some a' := e'
    show Ab.um _ A.f _ a' = some (rowsM ((valG (putG c.fac n rs) n').getD []))
    rw [valG_put] at e' ⊢
    by_cases en : n = n'
    · subst en
      rw [if_pos rfl] at e' ⊢
      cases e'
      rw [um_ne fun z => k _ (.inr (.inr (.inl rfl))) z.symm]
      exact um_same
    · rw [if_neg en] at e' ⊢
      rw [um_ne (h.off e').2.2.1, um_ne (k _ (.inr (.inr (.inr (.inr (.inr ⟨n', e'⟩))))))]
      exact h.rows n' a' e'
  · have e1 : valG (putG A.fa n p) n1 = some a := e1
    have e2 : valG (putG A.fa n p) n2 = some a := e2
    rw [valG_put] at e1 e2
    by_cases en1 : n = n1
    · by_cases en2 : n = n2
      · exact en1.symm.trans en2
      · rw [if_pos en1] at e1
        rw [if_neg en2] at e2
        cases e1
        exact absurd rfl (k _ (.inr (.inr (.inr (.inr (.inr ⟨n2, e2⟩))))))
    · by_cases en2 : n = n2
      · rw [if_neg en1] at e1
        rw [if_pos en2] at e2
        cases e2
        exact absurd rfl (k _ (.inr (.inr (.inr (.inr (.inr ⟨n1, e1⟩))))))
      · rw [if_neg en1] at e1
        rw [if_neg en2] at e2
        exact h.inj n1 n2 a e1 e2
end
end
section
local macro_rules | `(tactic| walk_at "fl") => `(tactic| with_reducible first | exact sl_r _ | exact sl_f _ | exact sl_u _ | exact sl_n _)
section
variable {P : Program} {w : World} {K : PySem.W.Frag} {mg : Str → Option Value} {base : Heap} {a : AD} {d : FD}
theorem any_rows (rs : List (List Val)) (row : List Val) : ((rs.map encR).any fun z => PyData.eqv z (encR row)) = decide (row ∈ rs) := by
  induction rs with
  | nil => simp
  | cons r rs ih =>
    rw [List.map_cons, List.any_cons, ih, eqv_row]
    by_cases e : r = row
    · subst e; simp
    · have : ¬ row = r := fun z => e z.symm
      simp [e, this]
theorem rows_shaped {rs : List (List Val)} (h : ∀ r ∈ rs, rdR r) (hl : rs.length ≤ 400000) : SeqAt.shaped (.list (rs.map encR)) = true := okD_shaped (n := 2) (okD_mkL (by rw [List.length_map]; omega) (okAll_of fun d hd => by
  obtain ⟨r, hr, rfl⟩ := List.mem_map.mp hd
  exact rdR_okD (n := 0) (h r hr))) (by decide)
def A_has (C : Addr) : ASp := fun ss M Q => ∃ A c n row, ss = [.raw (.ref (SA.o A)), .str n, .dat (encR row)] ∧ SeAt C M A c ∧ CtR' c ∧ rdR row ∧ Q (.bl (decide (row ∈ rowsOf c n))) M
theorem ok_has (T : Txt K mg a d) : FnOk P w K mg base CX0 1 a.State_has d.State_has ["self", "relation", "row"] (conc K (A_has a.State)) := by
  have cl := T.cl_State
  have n1 := T.na_State_facts
  refine ab_ok T.F_State_has sc_State_has (fun ss M Q ⟨A, c, n, row, e, _⟩ => by subst e; rfl) fun cdv Ar outer s H E hr => ?_
  have hu64 := hr.units
  have hu65 := room65 hr
  refine ⟨_, (pss_one (ps_ret (pe_cmpR (r := rInD K) (op_inD hu65) (pv 2) (pe_dget2 (hu1 hu64) (pe_fld (pv 0) rfl) (pv 1) (pe_lst pa_nil) ⟨rfl, rfl, rfl, rfl⟩) (by rfl)))), ?_⟩
  rintro ss M Q ⟨A, c, n, row, rfl, h, hc, hrow, q⟩
  walk_at "k"
  show WS K _ [some (.raw (.ref A.o)), some (.str n), some (.dat (encR row))] M _
  have ho := h.ho
  have sr : SeqAt.shaped (encR row) = true := okD_shaped (rdR_okD (n := 0) hrow) (by decide)
  refine ws_ret (w_op (w_var rfl (w_dget2 (w_fldI rfl ho cl n1 (sl_f _) ⟨⟨_, dcv_ref h.hf⟩, w_var rfl (w_lstD (wa_nil ⟨[], rfl, by simp, _, .inr n, dcv_ref h.hf, rfl, ?_⟩))⟩))))
  unfold kvF
  rw [valG_inr (fun p : Addr => Sl.raw (.ref p))]
  cases e : valG A.fa n with
  | none =>
    refine w2_inL (ds := []) lsv_dat sr (by decide +kernel) ?_
    rw [h.emp e] at q
    simpa using q
  | some p =>
    obtain ⟨h1, h2⟩ := hc.row (n := n)
    have hp := h.rows n p e
    refine w2_inL (ds := (rowsOf c n).map encR) (lsv_ref (by rw [List.map_map]; exact hp)) sr (rows_shaped h1 h2) ?_
    rw [any_rows]
    exact q
def A_put (C : Addr) : ASp := fun ss M Q => ∃ A c it, ss = [.raw (.ref (SA.o A)), .dat (Item.enc it)] ∧ SeAt C M A c ∧ CtR' c ∧ it.rd ∧ ∀ M' A', SeAt C M' A' (c.put it) → SFr M M' A A' → Q .non M'
theorem ok_put (T : Txt K mg a d) : FnOk P w K mg base CX0 2 a.State_put d.State_put ["self", "item"] (conc K (A_put a.State)) := by
  have cl := T.cl_State
  have n1 := T.na_State_relations
  have n2 := T.na_State_facts
  have n3 := T.na_State_rules
  have n4 := T.na_State_denials
  have G_State_has : FnOk P w K mg base CX0 1 a.State_has d.State_has ["self", "relation", "row"] (conc K (A_has a.State)) := ok_has T
  refine ab_ok T.F_State_put sc_State_put (fun ss M Q ⟨A, c, it, e, _⟩ => by subst e; rfl) fun cdv Ar outer s H E hr => ?_
  have hu64 := hr.units
  refine ⟨_, (pss_cons (ps_asg (pe_slice (r := rSlA K) sl_tupA (pv 1) po_none (po_some pe_int)) (pg_tupK (K := K) (n := 2) rfl rfl (pgs_cons (pg_name (i := 2) sc_State_put.nd rfl (Or.inl rfl)) (pgs_cons (pg_name (i := 3) sc_State_put.nd rfl (Or.inl rfl)) pgs_nil))))
  (pss_one (ps_if (pt_cmpR (r := rEqD K) (op_eqD hu64) (pv 2) pe_str (nomark _)) (pss_one (ps_dput (hu1 hu64) (pe_fld (pv 0) rfl) (pv 3) (pe_ix (r := rIxT K) ix_tup (pv 1) pe_int (fun _ _ => rfl)) rfl)) (pss_one (ps_if (pt_cmpR (r := rEqD K) (op_eqD hu64) (pv 2) pe_str (nomark _)) (pss_one (ps_dput (hu1 hu64) (pe_fld (pv 0) rfl) (pv 3) (pe_slice (r := rSlA K) sl_tupA (pv 1) (po_some pe_int) po_none) rfl)) (pss_one (ps_if (pt_cmpR (r := rEqD K) (op_eqD hu64) (pv 2) pe_str (nomark _)) (pss_one (ps_dput (hu1 hu64) (pe_fld (pv 0) rfl) (pv 3) (pe_ix (r := rIxT K) ix_tup (pv 1) pe_int (fun _ _ => rfl)) rfl)) (pss_one (ps_if (pt_not (pt_val (pe_meth (pv 0) T.cl_State T.m_State_has G_State_has (hr.mono (by omega)) T.b_State_has .nil pass0 (pa_cons (pv 3) (pa_cons (pe_ix (r := rIxT K) ix_tup (pv 1) pe_int (fun _ _ => rfl)) pa_nil))))) (pss_one (ps_expr (pe_bm PySem.F.plainAttrs_list PySem.F.slot_list_append PySem.F.type_list_append mt_append (pe_dsetd (pe_fld (pv 0) rfl) (pv 3) (pe_lst pa_nil) ⟨rfl, rfl, rfl, rfl⟩) (pa_cons (pe_ix (r := rIxT K) ix_tup (pv 1) pe_int (fun _ _ => rfl)) pa_nil)))) pss_nil))))))))), ?_⟩
  rintro ss M Q ⟨A, c, it, rfl, h, hc, hit, q⟩
  walk_at "k"
  show WS K _ [some (.raw (.ref A.o)), some (.dat it.enc), none, none] M _
  have ho := h.ho
  cases it with
  | relation n x =>
    refine ws_seq (ws_asg ?_)
    walk_at "f"
    refine wg_tup rfl rfl (wgs_cons (wg_name (wgs_cons (wg_name (wgs_nil ?_)))))
    walk_at "f"
    refine ws_dput ?_
    walk_at "f"
    refine ⟨A.r, kvR c, .inr n, rfl, rfl, h.hr, by unfold kvR; rw [List.length_map]; have := hc.sz.1; omega, ?_⟩
    have h2 := h.setR (putG c.rel n x)
    have e : putG (kvR c) (.inr n) (.int x) = kvR (c.sRel (putG c.rel n x)) := putG_inr (fun i : Int => Sl.int i) n x c.rel
    rw [e]
    exact q _ A h2 (SFr.um (.inr (.inl rfl)))
  | rule n rel hd b =>
    refine ws_seq (ws_asg ?_)
    walk_at "f"
    refine wg_tup rfl rfl (wgs_cons (wg_name (wgs_cons (wg_name (wgs_nil ?_)))))
    walk_at "f"
    refine ws_dput ?_
    walk_at "f"
    refine ⟨A.u, kvU c, .inr n, rfl, rfl, h.hu, by unfold kvU; rw [List.length_map]; have := hc.sz.2.2.1; omega, ?_⟩
    have h2 := h.setU (putG c.rul n ⟨rel, hd, b⟩)
    have e : putG (kvU c) (.inr n) (.dat (Rul.enc ⟨rel, hd, b⟩)) = kvU (c.sRul (putG c.rul n ⟨rel, hd, b⟩)) := putG_inr (fun r : Rul => Sl.dat r.enc) n _ c.rul
    rw [← e] at h2
    exact q _ A h2 (SFr.um (.inr (.inr (.inr (.inl rfl)))))
  | denial n b =>
    refine ws_seq (ws_asg ?_)
    walk_at "f"
    refine wg_tup rfl rfl (wgs_cons (wg_name (wgs_cons (wg_name (wgs_nil ?_)))))
    walk_at "f"
    refine ws_dput ?_
    walk_at "f"
    refine ⟨A.n, kvN c, .inr n, rfl, rfl, h.hn, by unfold kvN; rw [List.length_map]; have := hc.sz.2.2.2; omega, ?_⟩
    have h2 := h.setN (putG c.den n b)
    have e : putG (kvN c) (.inr n) (.dat (encB b)) = kvN (c.sDen (putG c.den n b)) := putG_inr (fun r : List Lit => Sl.dat (encB r)) n _ c.den
    rw [← e] at h2
    exact q _ A h2 (SFr.um (.inr (.inr (.inr (.inr (.inl rfl))))))
  | fact n row =>
    refine ws_seq (ws_asg ?_)
    walk_at "f"
    refine wg_tup rfl rfl (wgs_cons (wg_name (wgs_cons (wg_name (wgs_nil ?_)))))
    walk_at "f"
    refine w_meth (w_var rfl ⟨A.o, A.dx, sfld A, rfl, ho, by kernel_rfl, wa_cons (w_var rfl (wa_cons (w_op (w_var rfl (w_int (w2_ixT rfl (wa_nil ⟨A, c, n, row, rfl, h, hc, hit.2, ?_⟩))))))) ⟩)
    walk_at "f"
    refine ite_n (fun hin => ?_) (fun hin => ?_)
    · have ec : c.put (.fact n row) = c.sFac (putG c.fac n (rowsOf c n ++ [row])) := if_neg hin
      rw [ec] at q
      walk_at "f"
      refine w_bm (w_dsetd (w_fldI rfl ho cl n2 (sl_f _) ⟨A.f, rfl, ⟨_, h.hf⟩, w_var rfl (w_lstM (wa_nil ⟨by simp, fun p hp => ?_⟩))⟩))
      have hk := h.new hp
      have fp : Ab.um M p (.lst []) A.f = some (.dK (kvF A)) := by rw [um_ne fun z => hk (.inr (.inr (.inl z.symm)))]; exact h.hf
      have ev : valG (kvF A) (.inr n) = (valG A.fa n).map fun p => Sl.raw (.ref p) := valG_inr (fun p : Addr => Sl.raw (.ref p)) n A.fa
      refine ⟨kvF A, .inr n, fp, rfl, by unfold kvF; rw [List.length_map, ← List.length_map (f := (·.1)), h.keys, List.length_map]; have := hc.sz.2.1; omega, fun x hx => ?_, fun hx => ?_⟩
      · rw [ev] at hx
        cases ea : valG A.fa n with
        | none => rw [ea] at hx; cases hx
        | some a0 =>
          rw [ea] at hx
          cases hx
          have h1 := h.um (x := .lst []) hk
          have hr1 := h1.rows n a0 ea
          refine ⟨ty_lst (lsv_ref hr1), ?_⟩
          walk_at "f"
          refine wm_append hr1 (by rw [List.length_map]; have := (hc.row (n := n)).2; omega) ?_
          have h2 := h1.setRow ea (rowsOf c n ++ [row])
          refine q _ A (by unfold rowsM at h2; rw [List.map_append] at h2; exact h2) ((SFr.umN hp).trans (SFr.um (.inr (.inr (.inr (.inr (.inr ⟨n, ea⟩)))))))
      · rw [ev] at hx
        have ea : valG A.fa n = none := by
          cases ea : valG A.fa n with
          | none => rfl
          | some a0 => rw [ea] at hx; cases hx
        have pf : p ≠ A.f := fun z => hk (.inr (.inr (.inl z)))
        have hp1 : Ab.um (Ab.um M p (.lst [])) A.f (.dK (putG (kvF A) (.inr n) (.raw (.ref p)))) p = some (.lst []) := by rw [um_ne pf]; exact um_same
        refine ⟨ty_lst (lsv_ref hp1), ?_⟩
        walk_at "f"
        refine wm_append hp1 (by simp) ?_
        have er : rowsOf c n = [] := h.emp ea
        have h2 := h.newRow ea hp (rowsOf c n ++ [row])
        have ek : kvF (A.sFa (putG A.fa n p)) = putG (kvF A) (.inr n) (.raw (.ref p)) := (putG_inr (fun p : Addr => Sl.raw (.ref p)) n p A.fa).symm
        rw [ek, er] at h2
        rw [er] at q
        have em : Ab.um (Ab.um (Ab.um M p (.lst [])) A.f (.dK (putG (kvF A) (.inr n) (.raw (.ref p))))) p (.lst ([] ++ [.dat (encR row)])) = Ab.um (Ab.um M p (rowsM ([] ++ [row]))) A.f (.dK (putG (kvF A) (.inr n) (.raw (.ref p)))) := by
          rw [um_comm pf, um_um, um_comm (Ne.symm pf)]
          rfl
        rw [em]
        refine q _ _ h2 ⟨rfl, fun b u hb hn => ?_⟩
        have b1 : b ≠ p := fun z => by rw [z, hp] at hb; cases hb
        have b2 : b ≠ A.f := fun z => hn (.inr (.inr (.inl z)))
        refine ⟨by rw [um_ne b2, um_ne b1]; exact hb, fun z => ?_⟩
        rcases z with z | z | z | z | z | ⟨n', z⟩
        · exact hn (.inl z)
        · exact hn (.inr (.inl z))
        · exact hn (.inr (.inr (.inl z)))
        · exact hn (.inr (.inr (.inr (.inl z))))
        · exact hn (.inr (.inr (.inr (.inr (.inl z)))))
        · have z : valG (putG A.fa n p) n' = some b := z
          rw [valG_put] at z
          by_cases en : n = n'
          · rw [if_pos en] at z
            cases z
            exact b1 rfl
          · rw [if_neg en] at z
            exact hn (.inr (.inr (.inr (.inr (.inr ⟨n', z⟩)))))
    · have ec : c.put (.fact n row) = c := if_pos hin
      rw [ec] at q
      walk_at "f"
      exact q _ A h SFr.refl
end
end
section
local macro_rules | `(tactic| walk_at "fl") => `(tactic| with_reducible first | exact sl_r _ | exact sl_f _ | exact sl_u _ | exact sl_n _)
section
variable {P : Program} {w : World} {K : PySem.W.Frag} {mg : Str → Option Value} {base : Heap} {a : AD} {d : FD}
def A_tidy (C : Addr) : ASp := fun ss M Q => ∃ A c, ss = [.raw (.ref (SA.o A))] ∧ SeAt C M A c ∧ CtR' c ∧ ∀ M' A', SeAt C M' A' c.tidy → SFr M M' A A' → Q .non M'
/-- the new dict of facts as it grows -/
structure Grow (M2 M' : MH) (fa : List (Str × Addr)) (fc : List (Str × List (List Val))) : Prop where
  ext : ∀ b u, M2 b = some u → M' b = some u
  keys : fa.map (·.1) = fc.map (·.1)
  rows : ∀ n a, valG fa n = some a → M2 a = none ∧ M' a = some (rowsM ((valG fc n).getD []))
  inj : ∀ n n' a, valG fa n = some a → valG fa n' = some a → n = n'
theorem Grow.step {M2 M' : MH} {fa : List (Str × Addr)} {fc : List (Str × List (List Val))} (h : Grow M2 M' fa fc) {p : Addr} (hp : M' p = none) (n : Str) (rs : List (List Val)) : Grow M2 (Ab.um M' p (rowsM rs)) (putG fa n p) (putG fc n rs) := by
  have p2 : M2 p = none := by
    cases e : M2 p with
    | none => rfl
    | some u => rw [h.ext p u e] at hp; cases hp
  have ne : ∀ {m a}, valG fa m = some a → a ≠ p := fun e z => by rw [← z, (h.rows _ _ e).2] at hp; cases hp
  refine ⟨fun b u hb => by rw [um_ne fun z => by rw [z, p2] at hb; cases hb]; exact h.ext b u hb, ?_, fun m a e => ?_, fun m m' a e e' => ?_⟩
  · rw [putG_keys, putG_keys, h.keys]
  · rw [valG_put] at e ⊢
    by_cases en : n = m
    · rw [if_pos en] at e ⊢
      cases e
      exact ⟨p2, um_same⟩
    · rw [if_neg en] at e ⊢
      exact ⟨(h.rows m a e).1, by rw [um_ne (ne e)]; exact (h.rows m a e).2⟩
  · rw [valG_put] at e e'
    by_cases en : n = m
    · by_cases en' : n = m'
      · exact en.symm.trans en'
      · rw [if_pos en] at e
        rw [if_neg en'] at e'
        cases e
        exact absurd rfl (ne e')
    · by_cases en' : n = m'
      · rw [if_neg en] at e
        rw [if_pos en'] at e'
        cases e'
        exact absurd rfl (ne e)
      · rw [if_neg en] at e
        rw [if_neg en'] at e'
        exact h.inj m m' a e e'
theorem ok_tidy (T : Txt K mg a d) : FnOk P w K mg base CX0 5 a.State_tidy d.State_tidy ["self"] (conc K (A_tidy a.State)) := by
  have cl := T.cl_State
  have n1 := T.na_State_relations
  have n2 := T.na_State_facts
  have G_row_key : FnOk P w K mg base CX0 2 a.row_key d.row_key ["row"] (conc K A_row_key) := ok_row_key T
  refine ab_ok T.F_State_tidy sc_State_tidy (fun ss M Q ⟨A, c, e, _⟩ => by subst e; rfl) fun cdv Ar outer s H E hr => ?_
  have hu64 := hr.units
  refine ⟨_, (pss_cons (ps_set (i := 1) sc_State_tidy.nd rfl (Or.inl rfl) (pe_callB (r := rSortedT K) (cr_sortedT hu64) (by rfl) T.n_sorted (by decide +kernel) (pa_cons (pe_op (r := rCatL K) op_catL (pe_callTy (r := rListDk) (call_listD rfl) (by rfl) T.n_list (by decide +kernel) (pa_cons (pe_fld (pv 0) rfl) pa_nil)) (pe_lock (pe_lc (own := [("name", 2)]) rfl sc_State_tidy.nd (pi_keys (pe_fld (pv 0) rfl)) (blkOk_by (own := [("name", 2)]) (N := ["self", "names", "name"]) (sc := (defScope s_State_tidy)) (by decide +kernel)) (fun _ _ _ _ _ => (pg_name (i := 2) sc_State_tidy.nd rfl (Or.inl rfl))) (fun _ _ _ _ _ => pts_one (pt_cmpR op_gt (pe_callB (r := rLenS K) call_len_seq (by rfl) T.n_len PySem.boot_len (pa_cons (pe_dget (hu1 hu64) (pe_fldK (K := K) rfl (pv 0) rfl) (pv 2) (fun _ _ => rfl)) pa_nil)) pe_int (nomark _))) (fun _ _ _ _ _ => (pv 2))))) pa_nil)))
  (pss_one (ps_fld (pv 0) (pe_dc (own := [("name", 2)]) rfl sc_State_tidy.nd (pi_list (pv 1)) (blkOk_by (own := [("name", 2)]) (N := ["self", "names", "name"]) (sc := (defScope s_State_tidy)) (by decide +kernel)) (fun _ _ _ _ _ => (pg_name (i := 2) sc_State_tidy.nd rfl (Or.inl rfl))) (fun _ _ _ _ _ => pts_nil) (fun _ _ _ _ _ => (pv 2)) (fun _ _ _ _ _ => (pe_callBK (cr_sortFK (K := K) rfl G_row_key (hr.mono (by omega)) T.b_row_key) (by rfl) T.n_sorted (by decide +kernel) (pa_cons (pe_dget2 (hu1 hu64) (pe_fldK (K := K) rfl (pv 0) rfl) (pv 2) (pe_lst pa_nil) ⟨rfl, rfl, rfl, rfl⟩) pa_nil) (pk_cons (pe_glob (v := .ref a.row_key) (by rfl) T.g_row_key rfl) pk_nil)))) rfl))), ?_⟩
  rintro ss M Q ⟨A, c, rfl, h, hc, q⟩
  walk_at "k"
  show WS K _ [some (.raw (.ref A.o)), none, none] M _
  have ho := h.ho
  have hfl : A.fa.length = c.fac.length := by rw [← List.length_map (f := (·.1)), h.keys, List.length_map]
  refine ws_seq (ws_set (w_cb (wa_cons (w_op (w_cb (wa_cons (w_fldI rfl ho cl n1 (sl_r _) (wa_nil (wl_listD (dcv_ref h.hr) fun p hp => ?_)))))))))
  have hk := h.new hp
  have h1 := h.um (x := .lst ((kvR c).map fun q => kS q.1)) hk
  have hp1 : Ab.um M p (.lst ((kvR c).map fun q => kS q.1)) p = some (.lst ((c.rel.map fun q => PyData.str q.1).map .dat)) := by
    rw [um_same]
    unfold kvR
    rw [List.map_map, List.map_map]
    rfl
  have f1 : SFr M (Ab.um M p (.lst ((kvR c).map fun q => kS q.1))) A A := SFr.umN hp
  generalize Ab.um M p (.lst ((kvR c).map fun q => kS q.1)) = M1 at h1 hp1 f1
  refine w_lock h1.hf fun od v => ?_
  have hoM : ∀ o, Ab.um M1 A.f o A.o = some (.ins a.State A.dx (sfld A)) := fun o => by rw [um_ne h1.oo.2.1.symm]; exact h1.ho
  refine w_lc (by decide) (wi_keys (w_fldI rfl (hoM _) cl n2 (sl_f _) ⟨A.f, od, v, kvF A, rfl, um_same, fun i acc M' => M' = Ab.um M1 A.f (.frz od v (.dK (kvF A))) ∧ acc = (((c.fac.map (·.1)).take i).filter fun n => decide (0 < (rowsOf c n).length)).map PyData.str, ⟨rfl, by rw [List.take_zero]; rfl⟩, fun i acc M' _ ⟨e, _⟩ D o hD => ?_, ?_, ?_⟩))
  · subst e
    have : A.f ≠ D := fun z => by rw [← z, um_same] at hD; cases hD
    show Ab.um _ D o A.f = _
    rw [um_ne this, um_same]
  · rintro i acc M' D hi ⟨rfl, rfl⟩ hD
    have hi1 : i < A.fa.length := by unfold kvF at hi; rw [List.length_map] at hi; exact hi
    have hi2 : i < (c.fac.map (·.1)).length := by rw [List.length_map, ← hfl]; exact hi1
    have en : (A.fa[i]).1 = (c.fac.map (·.1))[i] := by
      have z : (A.fa.map (·.1))[i]? = (c.fac.map (·.1))[i]? := by rw [h.keys]
      rw [List.getElem?_map, List.getElem?_eq_getElem hi1, List.getElem?_eq_getElem hi2] at z
      exact Option.some.inj z
    generalize hn : (c.fac.map (·.1))[i] = n at en
    have gi : ((kvF A).map fun q => kS q.1).getD i .non = .str n := by
      rw [List.getD_eq_getElem?_getD, List.getElem?_map]
      unfold kvF
      rw [List.getElem?_map, List.getElem?_eq_getElem hi1]
      show kS (.inr A.fa[i].1) = _
      rw [en]
      rfl
    obtain ⟨ad, hv⟩ : ∃ ad, valG A.fa n = some ad := by
      have z := valG_isSome n A.fa
      have hm : n ∈ A.fa.map (·.1) := List.mem_map.mpr ⟨_, List.getElem_mem hi1, en⟩
      rw [decide_eq_true hm] at z
      cases hv : valG A.fa n with
      | none => rw [hv] at z; cases z
      | some ad => exact ⟨ad, rfl⟩
    have hrow := h1.rows n ad hv
    have nD : ∀ b u, M1 b = some u → b ≠ D := fun b u hb z => by
      have : Ab.um M1 A.f (.frz od v (.dK (kvF A))) b = none := by rw [z]; exact hD
      by_cases e : b = A.f
      · rw [e, um_same] at this; cases this
      · rw [um_ne e, hb] at this; cases this
    dsimp only
    rw [gi]
    have hoD : Ab.um (Ab.um M1 A.f (.frz od v (.dK (kvF A)))) D (.lst ((((((c.fac.map (·.1)).take i).filter fun n => decide (0 < (rowsOf c n).length)).map PyData.str)).map .dat)) A.o = some (.ins a.State A.dx (sfld A)) := by rw [um_ne (nD _ _ h1.ho)]; exact hoM _
    have hfD : Ab.um (Ab.um M1 A.f (.frz od v (.dK (kvF A)))) D (.lst ((((((c.fac.map (·.1)).take i).filter fun n => decide (0 < (rowsOf c n).length)).map PyData.str)).map .dat)) A.f = some (.frz od v (.dK (kvF A))) := by rw [um_ne (nD _ _ h1.hf)]; exact um_same
    have hrD : Ab.um (Ab.um M1 A.f (.frz od v (.dK (kvF A)))) D (.lst ((((((c.fac.map (·.1)).take i).filter fun n => decide (0 < (rowsOf c n).length)).map PyData.str)).map .dat)) ad = some (rowsM (rowsOf c n)) := by rw [um_ne (nD _ _ hrow), um_ne (h1.off hv).2.2.1]; exact hrow
    refine wt_test (w_op (w_cb (wa_cons (w_dget (w_fldI rfl hoD cl n2 (sl_f _) (w_var rfl ⟨kvF A, .inr n, .raw (.ref ad), dcv_frz hfD, rfl, ?_, wa_nil (wl_len (lsv_ref hrD) ?_)⟩))))))
    · have ev : valG (kvF A) (.inr n) = (valG A.fa n).map fun p => Sl.raw (.ref p) := valG_inr (fun p : Addr => Sl.raw (.ref p)) n A.fa
      rw [ev, hv]
      rfl
    rw [List.length_map]
    walk_at "f"
    refine ite_d (fun hpos => ?_) (fun hpos => ?_)
    · refine w_var rfl ⟨_, _, rfl, rfl, hD, ?_, rfl, ?_⟩
      · rw [List.length_map]
        have := List.length_filter_le (fun n => decide (0 < (rowsOf c n).length)) ((c.fac.map (·.1)).take i)
        rw [List.length_take] at this
        have := hc.sz.2.1
        omega
      · have hp' : 0 < (rowsOf c n).length := by omega
        rw [List.take_succ_eq_append_getElem hi2, List.filter_append, List.map_append, hn, List.filter_cons, if_pos (decide_eq_true hp')]
        rfl
    · refine ⟨_, rfl, hD, rfl, ?_⟩
      rw [List.take_succ_eq_append_getElem hi2, List.filter_append, List.map_append, hn, List.filter_cons, if_neg fun z => hpos (by have := of_decide_eq_true z; omega)]
      simp
  rintro acc M' ⟨rfl, rfl⟩
  refine ⟨um_same, ?_⟩
  rw [um_um, um_id h1.hf]
  rw [show (kvF A).length = (c.fac.map (·.1)).length by unfold kvF; rw [List.length_map, List.length_map, hfl], List.take_length]
  refine w2_cat (lsv_ref hp1) lsv_dat ?_ ?_
  · rw [List.length_map, List.length_map]
    have := List.length_filter_le (fun n => decide (0 < (rowsOf c n).length)) (c.fac.map (·.1))
    rw [List.length_map] at this
    have := hc.sz.1
    have := hc.sz.2.1
    omega
  generalize hys : c.rel.map (·.1) ++ (c.fac.map (·.1)).filter (fun n => decide (0 < (rowsOf c n).length)) = ys
  have ey : (c.rel.map fun q => PyData.str q.1) ++ ((c.fac.map (·.1)).filter fun n => decide (0 < (rowsOf c n).length)).map PyData.str = ys.map PyData.str := by rw [← hys, List.map_append, List.map_map]; rfl
  have hyl : ys.length ≤ 800000 := by
    rw [← hys, List.length_append, List.length_map]
    have := List.length_filter_le (fun n => decide (0 < (rowsOf c n).length)) (c.fac.map (·.1))
    rw [List.length_map] at this
    have := hc.sz.1
    have := hc.sz.2.1
    omega
  rw [ey]
  have el : LsV K (.dat (.list (ys.map PyData.str))) M1 (ys.map fun y => .str y) := by
    have : (ys.map PyData.str).map Sl.dat = ys.map fun y => Sl.str y := by rw [List.map_map]; rfl
    rw [← this]
    exact lsv_dat
  refine wa_nil (wl_sortedT el (by omega) fun p2 hp2 => ?_)
  have en : sortT ys = c.names := by rw [← hys]; rfl
  have hk2 := h1.new hp2
  have h2 := h1.um (x := .lst ((sortT ys).map fun y => .str y)) hk2
  have hp3 : Ab.um M1 p2 (.lst ((sortT ys).map fun y => .str y)) p2 = some (.lst (c.names.map fun y => .str y)) := by rw [um_same, en]
  have f2 : SFr M (Ab.um M1 p2 (.lst ((sortT ys).map fun y => .str y))) A A := f1.trans (SFr.umN hp2)
  generalize Ab.um M1 p2 (.lst ((sortT ys).map fun y => .str y)) = M2 at h2 hp3 f2
  show WS K _ [some (.raw (.ref A.o)), some (.raw (.ref p2)), none] M2 _
  refine ws_fldI rfl cl n2 ?_
  refine w_dc (wi_list (w_var rfl ⟨_, lsv_ref hp3, fun i acc M' => ∃ fa, acc = (fa.map fun p : Str × Addr => ((.inr p.1 : Key), Sl.raw (.ref p.2))) ∧ Grow M2 M' fa (mergeG [] ((c.names.take i).map fun n => (n, sortR (rowsOf c n)))), ⟨[], rfl, fun _ _ h => h, rfl, fun _ _ e => (nomatch e), fun _ _ _ e => (nomatch e)⟩, fun i acc M' _ ⟨fa, _, g⟩ D o hD => ?_, ?_, ?_⟩))
  · have := g.ext _ _ hp3
    exact lsv_ref (by rw [um_ne fun z => by rw [z, hD] at this; cases this]; exact this)
  · rintro i acc M' D hi ⟨fa, rfl, g⟩ hD
    have hi' : i < c.names.length := by rw [List.length_map] at hi; exact hi
    have gi : (c.names.map fun y => Sl.str y).getD i .non = .str c.names[i] := by rw [List.getD_eq_getElem?_getD, List.getElem?_map, List.getElem?_eq_getElem hi']; rfl
    refine ⟨fun ρ => ρ.set 2 (some (.str c.names[i])), ?_, ?_⟩
    · show LcT _ _ _ ((c.names.map fun y => Sl.str y).getD i .non) _
      rw [gi]
      exact lct_name (by decide)
    have hn : c.names.take (i + 1) = c.names.take i ++ [c.names[i]] := List.take_succ_eq_append_getElem hi'
    generalize c.names[i] = n at gi hn
    have nD : ∀ b u, M2 b = some u → b ≠ D := fun b u hb z => by rw [← z, g.ext b u hb] at hD; cases hD
    have exD : ∀ b u, M2 b = some u → Ab.um M' D (.dK (fa.map fun p : Str × Addr => ((.inr p.1 : Key), Sl.raw (.ref p.2)))) b = some u := fun b u hb => by rw [um_ne (nD b u hb)]; exact g.ext b u hb
    refine wt_yes ?_
    rw [if_pos rfl]
    refine w_var rfl ?_
    refine w_sortF (O := rowO) (kf := rkey) (T := .type "tuple") (wa_cons (w_dget2 (w_fldI rfl (exD _ _ h2.ho) cl n2 (sl_f _) ⟨⟨_, dcv_ref (exD _ _ h2.hf)⟩, w_var rfl (w_lstD (wa_nil ⟨[], rfl, by simp, kvF A, .inr n, dcv_ref (exD _ _ h2.hf), rfl, wa_nil (wa_cons (w_raw (wa_nil ⟨_, rowsOf c n, fun r => .dat (encR r), ([] : List Val), rfl, rfl, ?_, fit_rows fun r hr => okD_shaped (rdR_rkey ((hc.row (n := n)).1 r hr)) (by decide), ?_, ?_⟩)))⟩))⟩)))
    · have ev : valG (kvF A) (.inr n) = (valG A.fa n).map fun p => Sl.raw (.ref p) := valG_inr (fun p : Addr => Sl.raw (.ref p)) n A.fa
      rw [ev]
      cases hv : valG A.fa n with
      | none =>
        rw [h2.emp hv]
        exact lsv_dat
      | some ad => exact lsv_ref (exD _ _ (h2.rows n ad hv))
    · intro r hr QA qa
      have := ((hc.row (n := n)).1 r hr).1
      exact ⟨r, rfl, by omega, qa⟩
    · intro p3 hp3'
      have pD : p3 ≠ D := fun z => by rw [z, um_same] at hp3'; cases hp3'
      have hpM : M' p3 = none := by rw [um_ne pD] at hp3'; exact hp3'
      refine ⟨.inr n, Ab.um M' p3 (rowsM (sortR (rowsOf c n))), rfl, um_comm pD.symm, by rw [um_ne (Ne.symm pD)]; exact hD, ?_, putG fa n p3, putG_inr (fun p : Addr => Sl.raw (.ref p)) n p3 fa, ?_⟩
      · rw [List.length_map]
        have e1 : fa.length = (fa.map (·.1)).length := (List.length_map ..).symm
        rw [e1, g.keys, List.length_map]
        have := mergeG_len ((c.names.take i).map fun n => (n, sortR (rowsOf c n))) []
        rw [List.length_map, List.length_take] at this
        have : c.names.length = ys.length := by rw [← en]; exact (List.mergeSort_perm _ _).length_eq
        simp only [List.length_nil] at *
        omega
      · rw [hn, List.map_append]
        have z := g.step hpM n (sortR (rowsOf c n))
        rw [show ([n].map fun n => (n, sortR (rowsOf c n))) = [(n, sortR (rowsOf c n))] from rfl, mergeG_snoc]
        exact z
  rintro acc M' D ⟨fa, rfl, g⟩ hD
  rw [List.length_map, List.take_length] at g
  have D2 : M2 D = none := by
    cases e : M2 D with
    | none => rfl
    | some u => rw [g.ext D u e] at hD; cases hD
  have nD : ∀ b u, M2 b = some u → b ≠ D := fun b u hb z => by rw [z, D2] at hb; cases hb
  have exD : ∀ b u, M2 b = some u → Ab.um M' D (.dK (fa.map fun p : Str × Addr => ((.inr p.1 : Key), Sl.raw (.ref p.2)))) b = some u := fun b u hb => by rw [um_ne (nD b u hb)]; exact g.ext b u hb
  refine ⟨A.dx, sfld A, exD _ _ h2.ho, by show 4 < 1000; decide, ?_⟩
  rw [sp_f]
  have hoD : D ≠ A.o := fun z => nD _ _ h2.ho z.symm
  have ex : ∀ b u, M2 b = some u → b ≠ A.o → Ab.um (Ab.um M' D (.dK (fa.map fun p : Str × Addr => ((.inr p.1 : Key), Sl.raw (.ref p.2))))) A.o (.ins a.State A.dx (sfld (A.sF D))) b = some u := fun b u hb hn => by rw [um_ne hn]; exact exD b u hb
  obtain ⟨m1, m2, m3, m4, m5, m6⟩ := h2.ne
  obtain ⟨o1, o2, o3, o4⟩ := h2.oo
  refine q _ ((A.sF D).sFa fa) ⟨um_same, ex _ _ h2.hr o1, ?_, ex _ _ h2.hu o3, ex _ _ h2.hn o4, ⟨fun z => nD _ _ h2.hr z, m2, m3, fun z => nD _ _ h2.hu z.symm, fun z => nD _ _ h2.hn z.symm, m6⟩, g.keys, fun n ad e => ?_, g.inj⟩ ⟨rfl, fun b u hb hn => ?_⟩
  · show Ab.um _ A.o _ D = _
    rw [um_ne hoD, um_same]
    rfl
  · obtain ⟨z1, z2⟩ := g.rows n ad e
    have ne1 : ad ≠ A.o := fun z => by rw [z, h2.ho] at z1; cases z1
    have ne2 : ad ≠ D := fun z => by rw [z, hD] at z2; cases z2
    rw [um_ne ne1, um_ne ne2]
    exact z2
  · have hb2 := (f2.2 b u hb hn).1
    have ne1 : b ≠ A.o := fun z => hn (.inl z)
    refine ⟨ex b u hb2 ne1, fun z => ?_⟩
    rcases z with z | z | z | z | z | ⟨n', z⟩
    · exact hn (.inl z)
    · exact hn (.inr (.inl z))
    · exact nD _ _ hb2 z
    · exact hn (.inr (.inr (.inr (.inl z))))
    · exact hn (.inr (.inr (.inr (.inr (.inl z)))))
    · have := (g.rows n' b z).1
      rw [hb2] at this
      cases this
end
end
section
local macro_rules | `(tactic| walk_at "fl") => `(tactic| with_reducible first | exact sl_r _ | exact sl_f _ | exact sl_u _ | exact sl_n _)
section
variable {P : Program} {w : World} {K : PySem.W.Frag} {mg : Str → Option Value} {base : Heap} {a : AD} {d : FD}
theorem si_0 (x : Sl) : putS "relations" x [] = ([("relations", x)] : List (Str × Sl)) := by kernel_rfl
theorem si_1 (x0 x : Sl) : putS "facts" x [("relations", x0)] = ([("relations", x0), ("facts", x)] : List (Str × Sl)) := by kernel_rfl
theorem si_2 (x0 x1 x : Sl) : putS "rules" x [("relations", x0), ("facts", x1)] = ([("relations", x0), ("facts", x1), ("rules", x)] : List (Str × Sl)) := by kernel_rfl
theorem si_3 (x0 x1 x2 x : Sl) : putS "denials" x [("relations", x0), ("facts", x1), ("rules", x2)] = ([("relations", x0), ("facts", x1), ("rules", x2), ("denials", x)] : List (Str × Sl)) := by kernel_rfl
/-- what a new state is told of -/
def NewAt (C : Addr) (M M' : MH) (o : Addr) (c : Ct) : Prop := ∃ A : SA, A.o = o ∧ SeAt C M' A c ∧ ∀ b u, M b = some u → b ≠ o → M' b = some u ∧ ¬ A.own b
def A_initL (C : Addr) (K : PySem.W.Frag) : ASp := fun ss M Q => ∃ o dx s its, ss = [.raw (.ref o), s] ∧ M o = some (.ins C dx []) ∧ LsV K s M (List.map (fun it => Sl.dat (Item.enc it)) its) ∧ InitR its ∧ ∀ M', NewAt C M M' o (puts its).tidy → Q .non M'
theorem lsv_fr {F : PySem.W.Frag} {s : Sl} {xs : List Sl} {M M' : MH} (h : LsV F s M xs) (e : ∀ b ys, M b = some (.lst ys) → M' b = some (.lst ys)) : LsV F s M' xs := by
  rcases h with h | ⟨a, z, h⟩ | h
  · exact .inl h
  · exact .inr (.inl ⟨a, z, e _ _ h⟩)
  · exact .inr (.inr h)
section
variable {C : Addr} {M N : MH} {o dx : Addr}
/-- the four dicts are laid -/
theorem ws_four (T : Txt K mg a d) {ρ : Rho} {tb : TS} {P0 : AE} (hv : ρ[0]? = some (some (.raw (.ref o)))) (hM : M o = some (.ins a.State dx []))
    (q : ∀ N, NewAt a.State M N o ct0 → (∃ A : SA, A.o = o ∧ SeAt a.State N A ct0) → WS (KX.pure K) tb ρ N P0) :
    WS (KX.pure K) (tSeq (sFld K (tVar 0) tDNewK "relations") (tSeq (sFld K (tVar 0) tDNewK "facts") (tSeq (sFld K (tVar 0) tDNewK "rules") (tSeq (sFld K (tVar 0) tDNewK "denials") tb)))) ρ M P0 := by
  have cl := T.cl_State
  have n1 := T.na_State_relations
  have n2 := T.na_State_facts
  have n3 := T.na_State_rules
  have n4 := T.na_State_denials
  obtain ⟨nx, rt, bk, ct⟩ := P0
  refine ws_seq (ws_fldI hv cl n1 (w_dnew fun p1 h1 => ?_))
  have o1 : p1 ≠ o := fun z => by rw [z, hM] at h1; cases h1
  refine ⟨dx, [], by rw [um_ne o1.symm]; exact hM, by decide, ?_⟩
  rw [si_0]
  refine ws_seq (ws_fldI hv cl n2 (w_dnew fun p2 h2 => ?_))
  have o2 : p2 ≠ o := fun z => by rw [z, um_same] at h2; cases h2
  have h2' : Ab.um M p1 (.dK []) p2 = none := by rw [um_ne o2] at h2; exact h2
  have n21 : p2 ≠ p1 := fun z => by rw [z, um_same] at h2'; cases h2'
  refine ⟨dx, _, by rw [um_ne o2.symm]; exact um_same, by simp, ?_⟩
  rw [si_1]
  refine ws_seq (ws_fldI hv cl n3 (w_dnew fun p3 h3 => ?_))
  have o3 : p3 ≠ o := fun z => by rw [z, um_same] at h3; cases h3
  rw [um_ne o3] at h3
  have n32 : p3 ≠ p2 := fun z => by rw [z, um_same] at h3; cases h3
  rw [um_ne n32, um_ne o3] at h3
  have n31 : p3 ≠ p1 := fun z => by rw [z, um_same] at h3; cases h3
  refine ⟨dx, _, by rw [um_ne o3.symm]; exact um_same, by simp, ?_⟩
  rw [si_2]
  refine ws_seq (ws_fldI hv cl n4 (w_dnew fun p4 h4 => ?_))
  have o4 : p4 ≠ o := fun z => by rw [z, um_same] at h4; cases h4
  rw [um_ne o4] at h4
  have n43 : p4 ≠ p3 := fun z => by rw [z, um_same] at h4; cases h4
  rw [um_ne n43, um_ne o4] at h4
  have n42 : p4 ≠ p2 := fun z => by rw [z, um_same] at h4; cases h4
  rw [um_ne n42, um_ne o4] at h4
  have n41 : p4 ≠ p1 := fun z => by rw [z, um_same] at h4; cases h4
  refine ⟨dx, _, by rw [um_ne o4.symm]; exact um_same, by simp, ?_⟩
  rw [si_3]
  rw [um_ne n21, ] at h2'
  rw [um_ne n31] at h3
  rw [um_ne n41] at h4
  generalize hN : Ab.um (Ab.um (Ab.um (Ab.um (Ab.um (Ab.um (Ab.um (Ab.um M p1 (.dK [])) o (.ins a.State dx [("relations", .raw (.ref p1))])) p2 (.dK [])) o (.ins a.State dx [("relations", .raw (.ref p1)), ("facts", .raw (.ref p2))])) p3 (.dK [])) o (.ins a.State dx [("relations", .raw (.ref p1)), ("facts", .raw (.ref p2)), ("rules", .raw (.ref p3))])) p4 (.dK [])) o (.ins a.State dx [("relations", .raw (.ref p1)), ("facts", .raw (.ref p2)), ("rules", .raw (.ref p3)), ("denials", .raw (.ref p4))]) = N
  have hs : SeAt a.State N ⟨o, dx, p1, p2, p3, p4, []⟩ ct0 := by
    rw [← hN]
    refine ⟨um_same, ?_, ?_, ?_, ?_, ⟨n21.symm, n31.symm, n41.symm, n32.symm, n42.symm, n43.symm⟩, rfl, fun _ _ e => (nomatch e), fun _ _ _ e => (nomatch e)⟩
    · show Ab.um _ o _ p1 = _
      rw [um_ne o1, um_ne n41.symm, um_ne o1, um_ne n31.symm, um_ne o1, um_ne n21.symm, um_ne o1, um_same]
      rfl
    · show Ab.um _ o _ p2 = _
      rw [um_ne o2, um_ne n42.symm, um_ne o2, um_ne n32.symm, um_ne o2, um_same]
      rfl
    · show Ab.um _ o _ p3 = _
      rw [um_ne o3, um_ne n43.symm, um_ne o3, um_same]
      rfl
    · show Ab.um _ o _ p4 = _
      rw [um_ne o4, um_same]
      rfl
  have hf : NewAt a.State M N o ct0 := by
    refine ⟨_, rfl, hs, fun b u hb hn => ?_⟩
    have b1 : b ≠ p1 := fun z => by rw [z, h1] at hb; cases hb
    have b2 : b ≠ p2 := fun z => by rw [z, h2'] at hb; cases hb
    have b3 : b ≠ p3 := fun z => by rw [z, h3] at hb; cases hb
    have b4 : b ≠ p4 := fun z => by rw [z, h4] at hb; cases hb
    refine ⟨by rw [← hN, um_ne hn, um_ne b4, um_ne hn, um_ne b3, um_ne hn, um_ne b2, um_ne hn, um_ne b1]; exact hb, fun z => ?_⟩
    rcases z with z | z | z | z | z | ⟨n, z⟩
    · exact hn z
    · exact b1 z
    · exact b2 z
    · exact b3 z
    · exact b4 z
    · cases z
  exact q N hf ⟨_, rfl, hs⟩
end
theorem ok_initL (T : Txt K mg a d) : FnOk P w K mg base CX0 6 a.State___init__ d.State___init__ ["self", "items"] (conc K (A_initL a.State K)) := by
  have cl := T.cl_State
  have G_State_put := ok_put (P := P) (w := w) (base := base) T
  have G_State_tidy := ok_tidy (P := P) (w := w) (base := base) T
  refine ab_okD T.F_State___init__ sc_State___init__ (fun ss M Q ⟨o, dx, s, its, e, _⟩ => by subst e; rfl) fun cdv Ar outer s H E hr => ?_
  have hu64 := hr.units
  refine ⟨_, (pss_cons (ps_fld (pv 0) pe_dnewK rfl)
  (pss_cons (ps_fld (pv 0) pe_dnewK rfl)
  (pss_cons (ps_fld (pv 0) pe_dnewK rfl)
  (pss_cons (ps_fld (pv 0) pe_dnewK rfl)
  (pss_cons (ps_for PassesOwn.never rfl (pi_list (pv 1)) (pg_name (i := 2) sc_State___init__.nd rfl (Or.inl rfl)) (pss_one (ps_expr (pe_meth (pv 0) T.cl_State T.m_State_put G_State_put (hr.mono (by omega)) T.b_State_put .nil pass0 (pa_cons (pv 2) pa_nil)))))
  (pss_one (ps_expr (pe_meth0 (pv 0) T.cl_State T.m_State_tidy G_State_tidy (hr.mono (by omega)) T.b_State_tidy .nil pass0)))))))), ?_⟩
  rintro ss M Q ⟨o, dx, s, its, rfl, hM, hl, hio, q⟩
  walk_at "k"
  show WS K _ [some (.raw (.ref o)), some s, none] M _
  refine ws_four T rfl hM fun N hN _ => ?_
  obtain ⟨A0, eo0, h0, f0⟩ := hN
  have nl : ∀ b ys, M b = some (.lst ys) → b ≠ o := fun b ys hb z => by rw [z, hM] at hb; cases hb
  refine ws_seq (ws_for (wi_list (w_var rfl ⟨_, lsv_fr hl fun b ys hb => (f0 b _ hb (nl b ys hb)).1, fun i ρ' M' => (∃ y, ρ' = [some (.raw (.ref o)), some s, y]) ∧ NewAt a.State M M' o (puts (its.take i)), ⟨⟨none, rfl⟩, A0, eo0, by rw [List.take_zero]; exact h0, f0⟩, fun i ρ' M' _ ⟨_, A1, _, _, f1⟩ => lsv_fr hl fun b ys hb => (f1 b _ hb (nl b ys hb)).1, ?_, ?_⟩)))
  · rintro i ρ' M' hi ⟨⟨y, rfl⟩, A1, eo, h1, f1⟩
    have hi' : i < its.length := by rw [List.length_map] at hi; exact hi
    have gi : (its.map fun it => Sl.dat it.enc).getD i .non = .dat its[i].enc := by rw [List.getD_eq_getElem?_getD, List.getElem?_map, List.getElem?_eq_getElem hi']; rfl
    have hn : its.take (i + 1) = its.take i ++ [its[i]] := List.take_succ_eq_append_getElem hi'
    have ok := hio.1 _ (List.getElem_mem hi')
    dsimp only
    rw [gi]
    generalize its[i] = it at hn ok
    refine wg_name (ws_drop (w_meth (w_var rfl ⟨A1.o, A1.dx, sfld A1, by rw [← eo], h1.ho, by kernel_rfl, wa_cons (w_var rfl (wa_nil ⟨A1, _, it, rfl, h1, hio.take i, ok, fun M2 A2 h2 f2 => ?_⟩))⟩)))
    refine ⟨⟨_, rfl⟩, A2, f2.1.trans eo, by rw [hn, puts_snoc]; exact h2, fun b u hb hn => ?_⟩
    obtain ⟨z1, z2⟩ := f1 b u hb hn
    exact f2.2 b u z1 z2
  · rintro ρ' M' ⟨⟨y, rfl⟩, A1, eo, h1, f1⟩
    rw [List.length_map] at h1
    have c1 := hio.take its.length
    rw [List.take_length] at h1 c1
    refine ws_drop (w_meth (w_var rfl ⟨A1.o, A1.dx, sfld A1, by rw [← eo], h1.ho, by kernel_rfl, wa_nil ⟨A1, _, rfl, h1, c1, fun M2 A2 h2 f2 => ?_⟩⟩))
    refine q _ ⟨A2, f2.1.trans eo, h2, fun b u hb hn => ?_⟩
    obtain ⟨z1, z2⟩ := f1 b u hb hn
    exact f2.2 b u z1 z2
end
end
section
local macro_rules | `(tactic| walk_at "fl") => `(tactic| with_reducible first | exact rf_data _ _ | exact rf_at _ _)
section
variable {P : Program} {w : World} {K : PySem.W.Frag} {mg : Str → Option Value} {base : Heap} {a : AD} {d : FD}
def A_rinit (C : Addr) : ASp := fun ss M Q => ∃ o dx s all, ss = [.raw (.ref o), s] ∧ M o = some (.ins C dx []) ∧ LsV K s M (bys all) ∧ ∀ l, M l = none → Q .non (um (um M l (.lst (bys all))) o (rdO C dx l 0))
theorem ok_rinit (T : Txt K mg a d) : FnOk P w K mg base CX0 1 a.Reader___init__ d.Reader___init__ ["self", "data"] (conc K (A_rinit (K := K) a.Reader)) := by
  have cl := T.cl_Reader
  have n1 := T.na_Reader_data
  have n2 := T.na_Reader_at
  refine ab_ok T.F_Reader___init__ sc_Reader___init__ (fun ss M Q ⟨o, dx, s, all, e, _⟩ => by subst e; rfl) fun cdv Ar outer s H E hr => ⟨_, (pss_cons (ps_fld (pv 0) (pe_callTy (r := rListS K) call_list_of (by rfl) T.n_list (by decide +kernel) (pa_cons (pv 1) pa_nil)) rfl)
  (pss_one (ps_fld (pv 0) pe_int rfl))), ?_⟩
  rintro ss M Q ⟨o, dx, s, all, rfl, hM, hs, q⟩
  walk_at "k"
  show WS K _ [some (.raw (.ref o)), some s] M _
  refine ws_seq (ws_fldI rfl cl n1 ?_)
  walk_at "f"
  refine wl_listM (.inl hs) fun l hl => ?_
  have lo : l ≠ o := fun z => by rw [z, hM] at hl; cases hl
  refine ⟨dx, [], by rw [um_ne lo.symm]; exact hM, by decide, ?_⟩
  refine ws_fldI rfl cl n2 ?_
  walk_at "f"
  refine ⟨dx, _, um_same, by show 1 < 1000; decide, ?_⟩
  rw [um_um]
  have e : putS "at" (.dat (.int 0)) (putS "data" (.raw (.ref l)) []) = rdF l 0 := by
    have h : ¬ (("data" : Str) = "at") := by decide +kernel
    show (if ("data" : Str) = "at" then _ else _) = _
    rw [if_neg h]
    rfl
  rw [e]
  exact q l hl
theorem ok_need (T : Txt K mg a d) : FnOk P w K mg base (L2.CX P w) 1 a.Reader_need d.Reader_need ["self", "holds"] (concX K (A_need a.Reader a.DamagedData)) := by
  refine ab_okX T.F_Reader_need sc_Reader_need (fun ss M Q X ⟨o, dx, fs, b, e, _⟩ => by subst e; rfl) fun cdv Ar outer s H E hr => ⟨_, (pss_one (ps_if (pt_not (pt_val (pv 1))) (pss_one (ps_raise rfl (takes_of rfl rfl rfl rfl) (pmk_own PySem.F.excBase_ValueError T.x_DamagedData T.g_DamagedData T.kp_DamagedData (raises_own T.bs_DamagedData T.ty_DamagedData) rfl))) pss_nil)), ?_⟩
  rintro ss M Q X ⟨o, dx, fs, b, rfl, hM, q⟩
  walk_at "k"
  show WS _ _ [some (.raw (.ref o)), some (.bl b)] M _
  cases b with
  | true =>
    walk_at "f"
    exact q
  | false =>
    walk_at "f"
    exact ws_raise q
theorem ok_byte (T : Txt K mg a d) : FnOk P w K mg base (L2.CX P w) 2 a.Reader_read_byte d.Reader_read_byte ["self", "count"] (concX K (A_byte a.Reader a.DamagedData)) := by
  have cl := T.cl_Reader
  have n1 := T.na_Reader_data
  have n2 := T.na_Reader_at
  have G_Reader_need : FnOk P w K mg base (L2.CX P w) 1 a.Reader_need d.Reader_need ["self", "holds"] (concX K (A_need a.Reader a.DamagedData)) := ok_need T
  refine ab_okX T.F_Reader_read_byte sc_Reader_read_byte (fun ss M Q X ⟨c, D, n, _, _, e, _⟩ => by subst e; rfl) fun cdv Ar outer s H E hr => ⟨_, (pss_cons (ps_expr (pe_methD (pv 0) T.cl_Reader T.m_Reader_need G_Reader_need (hr.mono (by omega)) T.b_Reader_need .nil (fun σ => passAt (takes_of rfl rfl rfl rfl) σ) (pa_cons (pe_and (pe_cmpR op_lt (pe_fld (pv 0) rfl) (pe_callB (r := rLenS K) call_len_seq (by rfl) T.n_len PySem.boot_len (pa_cons (pe_fld (pv 0) rfl) pa_nil)) (nomark _)) (pe_one (pe_cmpR op_lt (pe_ix (r := rIxL K) ix_list (pe_fld (pv 0) rfl) (pe_fld (pv 0) rfl) (fun _ _ => rfl)) (pv 1) (nomark _)))) pa_nil)))
  (pss_cons (ps_fldaug (pv 0) pe_int in_add)
  (pss_one (ps_ret (pe_ix (r := rIxL K) ix_list (pe_fld (pv 0) rfl) (pe_op op_sub (pe_fld (pv 0) rfl) pe_int) (fun _ _ => rfl)))))), ?_⟩
  rintro ss M Q X ⟨c, D, n, hC, hE, rfl, rfl, ok, hs, F⟩
  walk_at "k"
  show WS _ _ [some (.raw (.ref c.o)), some (.int n)] (c.m D) _
  have ho := c.at D
  have hl := Rx.data ok D
  rw [hC] at ho
  obtain ⟨pre, hp⟩ := hs
  have hlen : c.all.length = pre.length + D.length := by rw [← hp, List.length_append]
  have hat : (c.all.length : Int) - D.length = pre.length := by omega
  have hsz := ok.sz
  rw [hat] at ho
  refine ws_seq (ws_drop (w_methX (w_var rfl ⟨c.o, c.dx, _, rfl, ho, by kernel_rfl, wa_cons ?_⟩)))
  cases D with
  | nil =>
    walk_at "f"
    rw [if_neg (by rw [bys_len, hlen]; simp)]
    walk_at "f"
    refine ⟨c.o, c.dx, _, false, rfl, ho, ?_⟩
    rw [if_neg Bool.false_ne_true, ← hE]
    exact F _ (c.keep [])
  | cons b r =>
    have hx : atI (bys c.all) (pre.length : Int) = some (.int b) := by
      refine atI_ok (by omega) ?_
      rw [← hp, bys_app, Int.toNat_natCast]
      simp
    walk_at "f"
    rw [if_pos (by rw [bys_len, hlen, List.length_cons]; simp; omega)]
    refine w_op (w_op (w_fldI rfl ho cl n1 (rf_data _ _) (w_fldI rfl ho cl n2 (rf_at _ _) (w2_ixL (lsv_ref hl) hx ?_))))
    walk_at "f"
    refine ⟨c.o, c.dx, _, _, rfl, ho, ?_⟩
    refine ite_d (fun hb => ?_) (fun hb => ?_)
    · have F : r <:+ c.all → Q (.dat (.int b)) (c.m r) := by
        have e : pByte n (b :: r) = some (b, r) := if_pos hb
        unfold Rx.Fut at F
        rw [e] at F
        exact F
      have F := F ⟨pre ++ [b], by rw [← hp, List.append_assoc]; rfl⟩
      refine ws_seq (ws_fldaug rd_add (w_var rfl ⟨_, _, _, _, _, rfl, ho, cl, n2, rf_at _ _, ?_⟩))
      walk_at "f"
      refine ⟨ho, by show 2 < 1000; decide, ?_⟩
      rw [rf_put]
      have em : um (c.m (b :: r)) c.o (.ins a.Reader c.dx (rdF c.l ((pre.length : Int) + 1))) = c.m r := by
        have e2 : (c.all.length : Int) - r.length = pre.length + 1 := by rw [hlen, List.length_cons]; omega
        unfold Rx.m
        rw [um_um, e2, hC]
        rfl
      rw [em]
      have ho' := c.at r
      have hl' := Rx.data ok r
      have e2 : (c.all.length : Int) - r.length = pre.length + 1 := by rw [hlen, List.length_cons]; omega
      rw [hC, e2] at ho'
      refine ws_ret (w_op (w_fldI rfl ho' cl n1 (rf_data _ _) (w_op (w_fldI rfl ho' cl n2 (rf_at _ _) (w_int (w2_i0 (w2_ixL (lsv_ref hl') ?_ F)))))))
      show atI (bys c.all) ((pre.length : Int) + 1 - 1) = _
      rw [Int.add_sub_cancel]
      exact hx
    · rw [← hE]
      have e : pByte n (b :: r) = none := if_neg hb
      unfold Rx.Fut at F
      rw [e] at F
      exact F _ (c.keep _)
theorem ok_num (T : Txt K mg a d) : FnOk P w K mg base (L2.CX P w) 3 a.Reader_read_number d.Reader_read_number ["self"] (concX K (A_rd a.Reader a.DamagedData pNum .int)) := by
  have G_Reader_need : FnOk P w K mg base (L2.CX P w) 1 a.Reader_need d.Reader_need ["self", "holds"] (concX K (A_need a.Reader a.DamagedData)) := ok_need T
  have G_Reader_read_byte : FnOk P w K mg base (L2.CX P w) 2 a.Reader_read_byte d.Reader_read_byte ["self", "count"] (concX K (A_byte a.Reader a.DamagedData)) := ok_byte T
  refine ab_okX T.F_Reader_read_number sc_Reader_read_number (fun ss M Q X ⟨c, D, _, _, e, _⟩ => by subst e; rfl) fun cdv Ar outer s H E hr => ?_
  have hu64 := hr.units
  refine ⟨_, (pss_cons (ps_set (i := 1) sc_Reader_read_number.nd rfl (Or.inl rfl) pe_int)
  (pss_cons (ps_set (i := 2) sc_Reader_read_number.nd rfl (Or.inl rfl) pe_int)
  (pss_cons (ps_for (passes_of rfl) rfl (pi_range1 rfl T.n_range (pa_cons (pe_glob (v := .int 60) (by rfl) T.c_NUMBER_BYTES ⟨_, rfl⟩) pa_nil)) (pg_name (i := 3) sc_Reader_read_number.nd rfl (Or.inl rfl)) (pss_cons (ps_set (i := 4) sc_Reader_read_number.nd rfl (Or.inl rfl) (pe_methD (pv 0) T.cl_Reader T.m_Reader_read_byte G_Reader_read_byte (hr.mono (by omega)) T.b_Reader_read_byte .nil (fun σ => passAt (takes_of rfl rfl rfl rfl) σ) (pa_cons pe_int pa_nil)))
  (pss_cons (ps_aug (i := 1) sc_Reader_read_number.nd rfl (Or.inl rfl) (pe_op op_mulW (pe_op op_mod (pv 4) pe_int) (pv 2)) ip_add)
  (pss_cons (ps_if (pt_cmpR op_lt (pv 4) pe_int (nomark _)) (pss_cons (ps_expr (pe_methD (pv 0) T.cl_Reader T.m_Reader_need G_Reader_need (hr.mono (by omega)) T.b_Reader_need .nil (fun σ => passAt (takes_of rfl rfl rfl rfl) σ) (pa_cons (pe_or (pe_cmpR op_gt (pv 4) pe_int (nomark _)) (pe_one (pe_cmpR (r := rEqD K) (op_eqD hu64) (pv 3) pe_int (nomark _)))) pa_nil)))
  (pss_one (ps_ret (pv 1)))) pss_nil)
  (pss_one (ps_set (i := 2) sc_Reader_read_number.nd rfl (Or.inl rfl) (pe_op op_mul (pv 2) pe_int)))))))
  (pss_one (ps_raise rfl (takes_of rfl rfl rfl rfl) (pmk_own PySem.F.excBase_ValueError T.x_DamagedData T.g_DamagedData T.kp_DamagedData (raises_own T.bs_DamagedData T.ty_DamagedData) rfl)))))), ?_⟩
  rintro ss M Q X ⟨c, D, hC, hE, rfl, rfl, ok, hs, F⟩
  walk_at "k"
  show WS _ _ [some (.raw (.ref c.o)), none, none, none, none] (c.m D) _
  refine ws_seq (ws_set (w_int ?_))
  refine ws_seq (ws_set (w_int ?_))
  refine ws_seq (ws_forR1 (n := 60) (M1 := c.m D) (by walk_at "e"; exact ⟨rfl, rfl⟩) (by omega)
    (fun i ρ' M' => ∃ (t f : Int) (z1 z2 : Option Sl) (r : List Int), ρ' = [some (.raw (.ref c.o)), some (.int t), some (.int f), z1, z2] ∧ M' = c.m r ∧ r <:+ c.all ∧ f = 128 ^ i ∧ c.Fut (pNumF (60 - i) t f (decide ((i : Int) = 0))) r (fun x M' => Q (.dat (.int x)) M') X)
    ⟨0, 1, none, none, D, rfl, rfl, hs, rfl, F⟩ ?_ ?_)
  · rintro i ρ' M' hi ⟨t, f, z1, z2, r, rfl, rfl, hr, hf, F⟩
    have e60 : 60 - i = (59 - i) + 1 := by omega
    rw [e60] at F
    have F : c.Fut (Prs.thn (pByte 256) fun b => if b < 128 then Prs.thn (pNeed (decide (b > 0) || decide ((i : Int) = 0))) fun _ => Prs.ret (t + b % 128 * f) else pNumF (59 - i) (t + b % 128 * f) (f * 128) false) r (fun x M' => Q (.dat (.int x)) M') X := F
    refine wg_name ?_
    show WS _ _ [some (.raw (.ref c.o)), some (.int t), some (.int f), some (.int (i : Int)), z2] (c.m r) _
    refine ws_seq (ws_set (w_byte F hC hE ok hr rfl (fun _ => by kernel_rfl) (fun q => wa_cons (w_int (wa_nil q))) (fun _ _ _ h => h) fun b r b0 b1 b2 hr F => ?_))
    show WS _ _ [some (.raw (.ref c.o)), some (.int t), some (.int f), some (.int (i : Int)), some (.int b)] (c.m r) _
    refine ws_seq (ws_aug rfl ?_)
    walk_at "f"
    have hf2 : f.natAbs < 2 ^ 500 := by
      rw [hf, Int.natAbs_pow]
      refine Nat.lt_of_le_of_lt (Nat.pow_le_pow_right (by decide) (show i ≤ 60 by omega)) ?_
      decide +kernel
    refine w2_i (wide_mul (a := 8) (b := 500) (by omega) hf2 (by decide) (by decide) (by decide)) ?_
    refine ⟨_, rfl, ?_⟩
    show WS _ _ [some (.raw (.ref c.o)), some (.int (t + b % 128 * f)), some (.int f), some (.int (i : Int)), some (.int b)] (c.m r) _
    walk_at "f"
    refine ite_d (fun hb => ?_) (fun hb => ?_)
    · rw [if_pos hb] at F
      refine ws_seq (ws_drop (w_need F hC hE rfl (fun _ => by kernel_rfl) (fun q => ?_) (fun _ _ _ h => h) fun _ F => ?_))
      · by_cases h0 : b > 0
        · have e : (decide (b > 0) || decide ((i : Int) = 0)) = true := by rw [decide_eq_true h0]; rfl
          rw [e] at q
          walk_at "f"
          rw [if_pos (decide_eq_true h0)]
          walk_at "f"
          exact q
        · have e : (decide (b > 0) || decide ((i : Int) = 0)) = decide ((i : Int) = 0) := by rw [decide_eq_false h0]; rfl
          rw [e] at q
          walk_at "f"
          rw [if_neg (by simpa using h0)]
          walk_at "f"
          exact q
      · walk_at "f"
        exact F.ret hr
    · rw [if_neg hb] at F
      walk_at "f"
      refine ⟨_, _, _, _, r, rfl, rfl, hr, ?_, ?_⟩
      · rw [hf, Int.pow_succ]
      · have e1 : 60 - (i + 1) = 59 - i := by omega
        have e2 : decide (((i + 1 : Nat) : Int) = 0) = false := decide_eq_false (by omega)
        rw [e1, e2]
        exact F
  · rintro ρ' M' ⟨t, f, z1, z2, r, rfl, rfl, hr, hf, F⟩
    have F : ∀ M', c.Keep M' → X (.ref c.Ex) none M' := F
    rw [hE] at F
    exact ws_raise (F _ (c.keep r))
theorem ok_count (T : Txt K mg a d) : FnOk P w K mg base (L2.CX P w) 4 a.Reader_read_count d.Reader_read_count ["self"] (concX K (A_rd a.Reader a.DamagedData pCount .int)) := by
  have cl := T.cl_Reader
  have n1 := T.na_Reader_data
  have n2 := T.na_Reader_at
  have G_Reader_need : FnOk P w K mg base (L2.CX P w) 1 a.Reader_need d.Reader_need ["self", "holds"] (concX K (A_need a.Reader a.DamagedData)) := ok_need T
  have G_Reader_read_number : FnOk P w K mg base (L2.CX P w) 3 a.Reader_read_number d.Reader_read_number ["self"] (concX K (A_rd a.Reader a.DamagedData pNum .int)) := ok_num T
  refine ab_okX T.F_Reader_read_count sc_Reader_read_count (fun ss M Q X ⟨c, D, _, _, e, _⟩ => by subst e; rfl) fun cdv Ar outer s H E hr => ⟨_, (pss_cons (ps_set (i := 1) sc_Reader_read_count.nd rfl (Or.inl rfl) (pe_methD0 (pv 0) T.cl_Reader T.m_Reader_read_number G_Reader_read_number (hr.mono (by omega)) T.b_Reader_read_number .nil (fun σ => passAt (takes_of rfl rfl rfl rfl) σ)))
  (pss_cons (ps_expr (pe_methD (pv 0) T.cl_Reader T.m_Reader_need G_Reader_need (hr.mono (by omega)) T.b_Reader_need .nil (fun σ => passAt (takes_of rfl rfl rfl rfl) σ) (pa_cons (pe_cmpR op_le (pv 1) (pe_op op_sub (pe_callB (r := rLenS K) call_len_seq (by rfl) T.n_len PySem.boot_len (pa_cons (pe_fld (pv 0) rfl) pa_nil)) (pe_fld (pv 0) rfl)) (nomark _)) pa_nil)))
  (pss_one (ps_ret (pv 1))))), ?_⟩
  rintro ss M Q X ⟨c, D, hC, hE, rfl, rfl, ok, hs, F⟩
  walk_at "k"
  show WS _ _ [some (.raw (.ref c.o)), none] (c.m D) _
  have F : c.Fut (Prs.thn pNum fun n => Prs.thn pLen fun k => Prs.thn (pNeed (decide (n ≤ k))) fun _ => Prs.ret n) D (fun x M' => Q (.dat (.int x)) M') X := F
  refine ws_seq (ws_set (w_rd F hC hE ok hs rfl (fun _ => by kernel_rfl) (fun _ _ _ h => h) fun n r _ hr F => ?_))
  have F := F.len
  show WS _ _ [some (.raw (.ref c.o)), some (.int n)] (c.m r) _
  refine ws_seq (ws_drop (w_need F hC hE rfl (fun _ => by kernel_rfl) (fun q => ?_) (fun _ _ _ h => h) fun _ F => ?_))
  · have ho := c.at r
    have hl := Rx.data ok r
    rw [hC] at ho
    have e : ((bys c.all).length : Int) - ((c.all.length : Int) - r.length) = r.length := by rw [bys_len]; omega
    rw [← e] at q
    walk_at "f"
    exact q
  · walk_at "f"
    exact F.ret hr
theorem befores : ∀ k, k < 5 → (" !\"#$" : Str).cps.toList[k]? = some (32 + k) := by decide +kernel
theorem behinds : ∀ k, k < 89 → ("&'()*+,-./0123456789:;<=>?@ABCDEFGHIJKLMNOPQRSTUVWXYZ[\\]^_`abcdefghijklmnopqrstuvwxyz{|}~" : Str).cps.toList[k]? = some (38 + k) := by decide +kernel
theorem str_snoc (cs : List Nat) (k : Nat) : ((⟨cs.toArray⟩ : Str) ++ (⟨#[k]⟩ : Str)) = ⟨(cs ++ [k]).toArray⟩ := by
  show (⟨cs.toArray ++ #[k]⟩ : Str) = _
  simp
theorem ok_rstr (T : Txt K mg a d) : FnOk P w K mg base (L2.CX P w) 5 a.Reader_read_string d.Reader_read_string ["self"] (concX K (A_rd a.Reader a.DamagedData pStr .str)) := by
  have G_Reader_need : FnOk P w K mg base (L2.CX P w) 1 a.Reader_need d.Reader_need ["self", "holds"] (concX K (A_need a.Reader a.DamagedData)) := ok_need T
  have G_Reader_read_byte : FnOk P w K mg base (L2.CX P w) 2 a.Reader_read_byte d.Reader_read_byte ["self", "count"] (concX K (A_byte a.Reader a.DamagedData)) := ok_byte T
  have G_Reader_read_count : FnOk P w K mg base (L2.CX P w) 4 a.Reader_read_count d.Reader_read_count ["self"] (concX K (A_rd a.Reader a.DamagedData pCount .int)) := ok_count T
  refine ab_okX T.F_Reader_read_string sc_Reader_read_string (fun ss M Q X ⟨c, D, _, _, e, _⟩ => by subst e; rfl) fun cdv Ar outer s H E hr => ?_
  have hu64 := hr.units
  refine ⟨_, (pss_cons (ps_set (i := 1) sc_Reader_read_string.nd rfl (Or.inl rfl) pe_str)
  (pss_cons (ps_for (passes_of rfl) rfl (pi_range1 rfl T.n_range (pa_cons (pe_methD0 (pv 0) T.cl_Reader T.m_Reader_read_count G_Reader_read_count (hr.mono (by omega)) T.b_Reader_read_count .nil (fun σ => passAt (takes_of rfl rfl rfl rfl) σ)) pa_nil)) (pg_name (i := 2) sc_Reader_read_string.nd rfl (Or.inl rfl)) (pss_cons (ps_set (i := 3) sc_Reader_read_string.nd rfl (Or.inl rfl) (pe_methD (pv 0) T.cl_Reader T.m_Reader_read_byte G_Reader_read_byte (hr.mono (by omega)) T.b_Reader_read_byte .nil (fun σ => passAt (takes_of rfl rfl rfl rfl) σ) (pa_cons pe_int pa_nil)))
  (pss_cons (ps_expr (pe_methD (pv 0) T.cl_Reader T.m_Reader_need G_Reader_need (hr.mono (by omega)) T.b_Reader_need .nil (fun σ => passAt (takes_of rfl rfl rfl rfl) σ) (pa_cons (pe_and (pe_cmpR op_ge (pv 3) pe_int (nomark _)) (pe_one (pe_cmpR (r := rNeD K) (op_neD hu64) (pv 3) pe_int (nomark _)))) pa_nil)))
  (pss_one (ps_if (pt_cmpR op_lt (pv 3) pe_int (nomark _)) (pss_one (ps_set (i := 1) sc_Reader_read_string.nd rfl (Or.inl rfl) (pe_op op_add_str (pv 1) (pe_ix ix_str (pe_glob (v := .str " !\"#$") (by rfl) T.c_CHARACTERS_BEFORE ⟨_, rfl⟩) (pe_op op_sub (pv 3) pe_int) (fun _ _ => rfl))))) (pss_one (ps_set (i := 1) sc_Reader_read_string.nd rfl (Or.inl rfl) (pe_op op_add_str (pv 1) (pe_ix ix_str (pe_glob (v := .str "&'()*+,-./0123456789:;<=>?@ABCDEFGHIJKLMNOPQRSTUVWXYZ[\\]^_`abcdefghijklmnopqrstuvwxyz{|}~") (by rfl) T.c_CHARACTERS_BEHIND ⟨_, rfl⟩) (pe_op op_sub (pv 3) pe_int) (fun _ _ => rfl))))))))))
  (pss_one (ps_ret (pv 1))))), ?_⟩
  rintro ss M Q X ⟨c, D, hC, hE, rfl, rfl, ok, hs, F⟩
  walk_at "k"
  show WS _ _ [some (.raw (.ref c.o)), none, none, none] (c.m D) _
  have e0 : pStr = Prs.thn pCount fun n => Prs.thn (pRep pChar n.toNat) fun cs => Prs.ret ⟨cs.toArray⟩ := by
    unfold pStr pList
    rw [thn_assoc]
  rw [e0] at F
  refine ws_seq (ws_set (w_str ?_))
  show WS _ _ [some (.raw (.ref c.o)), some (.str ""), none, none] (c.m D) _
  refine ws_seq (ws_forRn (wa_cons (w_rd F hC hE ok hs rfl (fun _ => by kernel_rfl) (fun _ _ _ h => h) fun n r hn hr F => wa_nil ?_)))
  obtain ⟨n0, n1⟩ := count_le hn
  have rl : r.length ≤ 1000000 := Nat.le_trans hr.length_le ok.sz
  refine ⟨n, rfl, by omega, by omega, fun i ρ' M' => ∃ (cs : List Nat) (z1 z2 : Option Sl) (r : List Int), ρ' = [some (.raw (.ref c.o)), some (.str ⟨cs.toArray⟩), z1, z2] ∧ M' = c.m r ∧ r <:+ c.all ∧ cs.length = i ∧ c.Fut (Prs.thn (pRep pChar (n.toNat - i)) fun ys => Prs.ret (⟨(cs ++ ys).toArray⟩ : Str)) r (fun x M' => Q (.dat (.str x)) M') X,
    ⟨[], none, none, r, rfl, rfl, hr, rfl, F⟩, ?_, ?_⟩
  · rintro i ρ' M' hi ⟨cs, z1, z2, r, rfl, rfl, hr, hl, F⟩
    have ek : n.toNat - i = (n.toNat - (i + 1)) + 1 := by omega
    rw [ek] at F
    have F : c.Fut (Prs.thn (pByte 127) fun b => Prs.thn (pNeed (decide (b ≥ 32) && !decide (b = 37))) fun _ => Prs.thn (pRep pChar (n.toNat - (i + 1))) fun ys => Prs.ret (⟨(cs ++ b.toNat :: ys).toArray⟩ : Str)) r (fun x M' => Q (.dat (.str x)) M') X := by
      have e : (Prs.thn (pRep pChar (n.toNat - (i + 1) + 1)) fun ys => Prs.ret (⟨(cs ++ ys).toArray⟩ : Str)) = Prs.thn (pByte 127) fun b => Prs.thn (pNeed (decide (b ≥ 32) && !decide (b = 37))) fun _ => Prs.thn (pRep pChar (n.toNat - (i + 1))) fun ys => Prs.ret (⟨(cs ++ b.toNat :: ys).toArray⟩ : Str) := by
        show Prs.thn (Prs.thn (Prs.thn (pByte 127) fun b => Prs.thn (pNeed (decide (b ≥ 32) && !decide (b = 37))) fun _ => Prs.ret b.toNat) fun x => Prs.thn (pRep pChar (n.toNat - (i + 1))) fun xs => Prs.ret (x :: xs)) _ = _
        simp only [thn_assoc, ret_thn]
      rw [e] at F
      exact F
    refine wg_name ?_
    show WS _ _ [some (.raw (.ref c.o)), some (.str ⟨cs.toArray⟩), some (.int (i : Int)), z2] (c.m r) _
    refine ws_seq (ws_set (w_byte F hC hE ok hr rfl (fun _ => by kernel_rfl) (fun q => wa_cons (w_int (wa_nil q))) (fun _ _ _ h => h) fun b r b0 b1 b2 hr F => ?_))
    show WS _ _ [some (.raw (.ref c.o)), some (.str ⟨cs.toArray⟩), some (.int (i : Int)), some (.int b)] (c.m r) _
    refine ws_seq (ws_drop (w_need F hC hE rfl (fun _ => by kernel_rfl) (fun q => ?_) (fun _ _ _ h => h) fun hb F => ?_))
    · by_cases h0 : b ≥ 32
      · have e : (decide (b ≥ 32) && !decide (b = 37)) = !decide (b = 37) := by rw [decide_eq_true h0]; rfl
        rw [e] at q
        walk_at "f"
        rw [if_pos (by simpa using h0)]
        walk_at "f"
        exact q
      · have e : (decide (b ≥ 32) && !decide (b = 37)) = false := by rw [decide_eq_false h0]; rfl
        rw [e] at q
        walk_at "f"
        rw [if_neg (by simpa using h0)]
        walk_at "f"
        exact q
    · rw [Bool.and_eq_true, decide_eq_true_eq, Bool.not_eq_true', decide_eq_false_iff_not] at hb
      have hend : (∀ M', M' = c.m r → ∃ (cs' : List Nat) (z1 z2 : Option Sl) (r' : List Int), [some (.raw (.ref c.o)), some (.str ((⟨cs.toArray⟩ : Str) ++ (⟨#[b.toNat]⟩ : Str))), some (.int (i : Int)), some (.int b)] = [some (Sl.raw (.ref c.o)), some (.str ⟨cs'.toArray⟩), z1, z2] ∧ M' = c.m r' ∧ r' <:+ c.all ∧ cs'.length = i + 1 ∧ c.Fut (Prs.thn (pRep pChar (n.toNat - (i + 1))) fun ys => Prs.ret (⟨(cs' ++ ys).toArray⟩ : Str)) r' (fun x M' => Q (.dat (.str x)) M') X) := fun M' e => by
        refine ⟨cs ++ [b.toNat], _, _, r, by rw [str_snoc], e, hr, by rw [List.length_append, hl]; rfl, ?_⟩
        simpa using F
      walk_at "f"
      refine ite_d (fun h37 => ?_) (fun h37 => ?_)
      · walk_at "f"
        have hx : atI (" !\"#$" : Str).cps.toList (b - 32) = some b.toNat := atI_ok (by omega) (by rw [befores _ (by omega)]; congr 1; omega)
        refine w2_ixS (by decide +kernel) hx ?_
        refine w2_addS (by simp [Str.length]; omega) ?_
        exact hend _ rfl
      · walk_at "f"
        have hx : atI ("&'()*+,-./0123456789:;<=>?@ABCDEFGHIJKLMNOPQRSTUVWXYZ[\\]^_`abcdefghijklmnopqrstuvwxyz{|}~" : Str).cps.toList (b - 38) = some b.toNat := atI_ok (by omega) (by rw [behinds _ (by omega)]; congr 1; omega)
        refine w2_ixS (by decide +kernel) hx ?_
        refine w2_addS (by simp [Str.length]; omega) ?_
        exact hend _ rfl
  · rintro ρ' M' ⟨cs, z1, z2, r, rfl, rfl, hr, hl, F⟩
    rw [Nat.sub_self] at F
    walk_at "f"
    have F : c.Fut (Prs.ret (⟨(cs ++ []).toArray⟩ : Str)) r (fun x M' => Q (.dat (.str x)) M') X := F
    rw [List.append_nil] at F
    exact F.ret hr
end
end
section
section
variable {P : Program} {w : World} {K : PySem.W.Frag} {mg : Str → Option Value} {base : Heap} {a : AD} {d : FD}
theorem ok_rval (T : Txt K mg a d) : FnOk P w K mg base (L2.CX P w) 6 a.Reader_read_value d.Reader_read_value ["self"] (concX K (A_rd a.Reader a.DamagedData pVal Val.enc)) := by
  have G_Reader_need : FnOk P w K mg base (L2.CX P w) 1 a.Reader_need d.Reader_need ["self", "holds"] (concX K (A_need a.Reader a.DamagedData)) := ok_need T
  have G_Reader_read_byte : FnOk P w K mg base (L2.CX P w) 2 a.Reader_read_byte d.Reader_read_byte ["self", "count"] (concX K (A_byte a.Reader a.DamagedData)) := ok_byte T
  have G_Reader_read_number : FnOk P w K mg base (L2.CX P w) 3 a.Reader_read_number d.Reader_read_number ["self"] (concX K (A_rd a.Reader a.DamagedData pNum .int)) := ok_num T
  have G_Reader_read_string : FnOk P w K mg base (L2.CX P w) 5 a.Reader_read_string d.Reader_read_string ["self"] (concX K (A_rd a.Reader a.DamagedData pStr .str)) := ok_rstr T
  refine ab_okX T.F_Reader_read_value sc_Reader_read_value (fun ss M Q X ⟨c, D, _, _, e, _⟩ => by subst e; rfl) fun cdv Ar outer s H E hr => ?_
  have hu64 := hr.units
  refine ⟨_, (pss_cons (ps_if (pt_cmpR (r := rEqD K) (op_eqD hu64) (pe_methD (pv 0) T.cl_Reader T.m_Reader_read_byte G_Reader_read_byte (hr.mono (by omega)) T.b_Reader_read_byte .nil (fun σ => passAt (takes_of rfl rfl rfl rfl) σ) (pa_cons pe_int pa_nil)) pe_int (nomark _)) (pss_one (ps_ret (pe_methD0 (pv 0) T.cl_Reader T.m_Reader_read_string G_Reader_read_string (hr.mono (by omega)) T.b_Reader_read_string .nil (fun σ => passAt (takes_of rfl rfl rfl rfl) σ)))) pss_nil)
  (pss_cons (ps_set (i := 1) sc_Reader_read_value.nd rfl (Or.inl rfl) (pe_cmpR (r := rEqD K) (op_eqD hu64) (pe_methD (pv 0) T.cl_Reader T.m_Reader_read_byte G_Reader_read_byte (hr.mono (by omega)) T.b_Reader_read_byte .nil (fun σ => passAt (takes_of rfl rfl rfl rfl) σ) (pa_cons pe_int pa_nil)) pe_int (nomark _)))
  (pss_cons (ps_set (i := 2) sc_Reader_read_value.nd rfl (Or.inl rfl) (pe_methD0 (pv 0) T.cl_Reader T.m_Reader_read_number G_Reader_read_number (hr.mono (by omega)) T.b_Reader_read_number .nil (fun σ => passAt (takes_of rfl rfl rfl rfl) σ)))
  (pss_cons (ps_expr (pe_methD (pv 0) T.cl_Reader T.m_Reader_need G_Reader_need (hr.mono (by omega)) T.b_Reader_need .nil (fun σ => passAt (takes_of rfl rfl rfl rfl) σ) (pa_cons (pe_or (pe_cmpR op_gt (pv 2) pe_int (nomark _)) (pe_one (pe_not (pv 1)))) pa_nil)))
  (pss_one (ps_ret (pe_ifExp (pt_val (pv 1)) (pe_un un_neg (pv 2)) (pv 2)))))))), ?_⟩
  rintro ss M Q X ⟨c, D, hC, hE, rfl, rfl, ok, hs, F⟩
  walk_at "k"
  show WS _ _ [some (.raw (.ref c.o)), none, none] (c.m D) _
  have F : c.Fut (Prs.thn (pByte 2) fun b => if b = 1 then Prs.thn pStr fun z => Prs.ret (.str z) else Prs.thn (pByte 2) fun s => Prs.thn pNum fun n => Prs.thn (pNeed (decide (n > 0) || !decide (s = 1))) fun _ => Prs.ret (.int (if s = 1 then -n else n))) D (fun x M' => Q (.dat (Val.enc x)) M') X := F
  refine ws_seq (ws_if (wt_test (w_op (w_byte F hC hE ok hs rfl (fun _ => by kernel_rfl) (fun q => wa_cons (w_int (wa_nil q))) (fun _ _ _ h => h) fun b r b0 b1 b2 hr F => ?_))))
  walk_at "f"
  refine ite_d (fun hb => ?_) (fun hb => ?_)
  · rw [if_pos hb] at F
    refine ws_ret ?_
    refine w_rd F hC hE ok hr rfl (fun _ => by kernel_rfl) ?_ ?_
    · exact fun _ _ _ h => h
    · exact fun z r _ hr F => F.ret hr
  · rw [if_neg hb] at F
    refine ws_next ?_
    refine ws_seq (ws_set (w_op (w_byte F hC hE ok hr rfl (fun _ => by kernel_rfl) (fun q => wa_cons (w_int (wa_nil q))) (fun _ _ _ h => h) fun s r b0 b1 b2 hr F => ?_)))
    walk_at "f"
    refine w_rd F hC hE ok hr rfl (fun _ => by kernel_rfl) (fun _ _ _ h => h) fun n r _ hr F => ?_
    show WS _ _ [some (.raw (.ref c.o)), some (.bl (decide (s = 1))), some (.int n)] (c.m r) _
    refine ws_seq (ws_drop (w_need F hC hE rfl (fun _ => by kernel_rfl) (fun q => ?_) (fun _ _ _ h => h) fun hb F => ?_))
    · by_cases h0 : n > 0
      · have e : (decide (n > 0) || !decide (s = 1)) = true := by rw [decide_eq_true h0]; rfl
        rw [e] at q
        walk_at "f"
        rw [if_pos (decide_eq_true h0)]
        walk_at "f"
        exact q
      · have e : (decide (n > 0) || !decide (s = 1)) = !decide (s = 1) := by rw [decide_eq_false h0]; rfl
        rw [e] at q
        walk_at "f"
        rw [if_neg (by simpa using h0)]
        walk_at "f"
        exact q
    · refine ws_ret (w_if ?_)
      walk_at "f"
      refine ite_d (fun h1 => ?_) (fun h1 => ?_)
      · rw [if_pos h1] at F
        walk_at "f"
        exact F.ret hr
      · rw [if_neg h1] at F
        walk_at "f"
        exact F.ret hr
theorem atI_get {ys : List Str} {i : Int} (h0 : 0 ≤ i) (h1 : i < (ys.length : Int)) : atI ys i = some (ys.getD i.toNat "") := atI_ok h0 (by rw [List.getD_eq_getElem?_getD, List.getElem?_eq_getElem (by omega)]; rfl)
theorem ok_rrow (T : Txt K mg a d) : FnOk P w K mg base (L2.CX P w) 7 a.Reader_read_row d.Reader_read_row ["self"] (concX K (A_rd a.Reader a.DamagedData pRow encR)) := by
  have G_Reader_read_count : FnOk P w K mg base (L2.CX P w) 4 a.Reader_read_count d.Reader_read_count ["self"] (concX K (A_rd a.Reader a.DamagedData pCount .int)) := ok_count T
  have G_Reader_read_value : FnOk P w K mg base (L2.CX P w) 6 a.Reader_read_value d.Reader_read_value ["self"] (concX K (A_rd a.Reader a.DamagedData pVal Val.enc)) := ok_rval T
  refine ab_okX T.F_Reader_read_row sc_Reader_read_row (fun ss M Q X ⟨c, D, _, _, e, _⟩ => by subst e; rfl) fun cdv Ar outer s H E hr => ?_
  have hu64 := hr.units
  refine ⟨_, (pss_one (ps_ret (pe_callTy (r := rTupS K) call_tuple_of (by rfl) T.n_tuple (by decide +kernel) (pa_cons (pe_lcX (own := [("_", 1)]) (takes_of rfl rfl rfl rfl) (fun _ _ _ _ _ h => h) rfl rfl rfl sc_Reader_read_row.nd (pi_range1 rfl T.n_range (pa_cons (pe_methD0 (pv 0) T.cl_Reader T.m_Reader_read_count G_Reader_read_count (hr.mono (by omega)) T.b_Reader_read_count .nil (fun σ => passAt (takes_of rfl rfl rfl rfl) σ)) pa_nil)) (blkOk_by (own := [("_", 1)]) (N := ["self", "_"]) (sc := (defScope s_Reader_read_row)) (by decide +kernel)) (fun _ _ _ _ _ => (pg_name (i := 1) sc_Reader_read_row.nd rfl (Or.inl rfl))) (fun _ _ _ _ _ => pts_nil) (fun _ _ _ _ _ _ tk => (pe_methD0 (pv 0) T.cl_Reader T.m_Reader_read_value G_Reader_read_value (hr.mono (by omega)) T.b_Reader_read_value .nil (fun σ => passAt tk σ)))) pa_nil)))), ?_⟩
  rintro ss M Q X ⟨c, D, hC, hE, rfl, rfl, ok, hs, F⟩
  walk_at "k"
  show WS _ _ [some (.raw (.ref c.o)), none] (c.m D) _
  refine ws_ret ?_
  exact w_cb (wa_cons (w_lcRd F.to (by decide) hC hE ok hs rfl (fun _ => rfl) (fun _ => by kernel_rfl) (fun _ => by kernel_rfl) (fun _ _ _ _ h => h) fun xs r hr hl F => wa_nil (wl_tuple lsv_dat (F.ret hr))))
theorem ok_rterm (T : Txt K mg a d) : FnOk P w K mg base (L2.CX P w) 7 a.Reader_read_term d.Reader_read_term ["self"] (concX K (A_rd a.Reader a.DamagedData pTerm Term.enc)) := by
  have G_Reader_read_byte : FnOk P w K mg base (L2.CX P w) 2 a.Reader_read_byte d.Reader_read_byte ["self", "count"] (concX K (A_byte a.Reader a.DamagedData)) := ok_byte T
  have G_Reader_read_string : FnOk P w K mg base (L2.CX P w) 5 a.Reader_read_string d.Reader_read_string ["self"] (concX K (A_rd a.Reader a.DamagedData pStr .str)) := ok_rstr T
  have G_Reader_read_value : FnOk P w K mg base (L2.CX P w) 6 a.Reader_read_value d.Reader_read_value ["self"] (concX K (A_rd a.Reader a.DamagedData pVal Val.enc)) := ok_rval T
  refine ab_okX T.F_Reader_read_term sc_Reader_read_term (fun ss M Q X ⟨c, D, _, _, e, _⟩ => by subst e; rfl) fun cdv Ar outer s H E hr => ?_
  have hu64 := hr.units
  refine ⟨_, (pss_cons (ps_set (i := 1) sc_Reader_read_term.nd rfl (Or.inl rfl) (pe_ix (r := rIxT K) ix_tup (pe_glob (v := .ref a.c_TERMS) (by rfl) T.c_TERMS rfl) (pe_methD (pv 0) T.cl_Reader T.m_Reader_read_byte G_Reader_read_byte (hr.mono (by omega)) T.b_Reader_read_byte .nil (fun σ => passAt (takes_of rfl rfl rfl rfl) σ) (pa_cons (pe_callB (r := rLenS K) call_len_seq (by rfl) T.n_len PySem.boot_len (pa_cons (pe_glob (v := .ref a.c_TERMS) (by rfl) T.c_TERMS rfl) pa_nil)) pa_nil)) (fun _ _ => rfl)))
  (pss_cons (ps_if (pt_cmpR (r := rEqD K) (op_eqD hu64) (pv 1) pe_str (nomark _)) (pss_one (ps_ret (pe_tup (pa_cons (pv 1) (pa_cons (pe_methD0 (pv 0) T.cl_Reader T.m_Reader_read_value G_Reader_read_value (hr.mono (by omega)) T.b_Reader_read_value .nil (fun σ => passAt (takes_of rfl rfl rfl rfl) σ)) pa_nil))))) pss_nil)
  (pss_cons (ps_if (pt_cmpR (r := rEqD K) (op_eqD hu64) (pv 1) pe_str (nomark _)) (pss_one (ps_ret (pe_tup (pa_cons (pv 1) (pa_cons (pe_methD0 (pv 0) T.cl_Reader T.m_Reader_read_string G_Reader_read_string (hr.mono (by omega)) T.b_Reader_read_string .nil (fun σ => passAt (takes_of rfl rfl rfl rfl) σ)) pa_nil))))) pss_nil)
  (pss_one (ps_ret (pe_tup (pa_cons (pv 1) pa_nil))))))), ?_⟩
  rintro ss M Q X ⟨c, D, hC, hE, rfl, rfl, ok, hs, F⟩
  walk_at "k"
  show WS _ _ [some (.raw (.ref c.o)), none] (c.m D) _
  have F : c.Fut (Prs.thn (pByte 3) fun b => if b = 0 then Prs.thn pVal fun v => Prs.ret (.value v) else if b = 1 then Prs.thn pStr fun z => Prs.ret (.variable z) else Prs.ret .any) D (fun x M' => Q (.dat (Term.enc x)) M') X := F
  refine ws_seq (ws_set (w_op (w_raw (w_byte F hC hE ok hs rfl (fun _ => by kernel_rfl) (fun q => wa_cons (w_cb (wa_cons (w_raw (wa_nil (wl_lenC T.k_TERMS (wa_nil q))))))) (fun _ _ _ h => h) fun b r b0 b1 b2 hr F => ?_))))
  obtain rfl | rfl | rfl : b = 0 ∨ b = 1 ∨ b = 2 := by omega
  · refine w2_ixC T.k_TERMS rfl ?_
    have F : c.Fut (Prs.thn pVal fun v => Prs.ret (Term.value v)) r (fun x M' => Q (.dat (Term.enc x)) M') X := F
    walk_at "f"
    exact (w_rd F hC hE ok hr rfl (fun _ => by kernel_rfl) (fun _ _ _ h => h) fun v r _ hr F => wa_nil ⟨_, rfl, by simp, F.ret hr⟩)
  · refine w2_ixC T.k_TERMS rfl ?_
    have F : c.Fut (Prs.thn pStr fun v => Prs.ret (Term.variable v)) r (fun x M' => Q (.dat (Term.enc x)) M') X := F
    walk_at "f"
    exact (w_rd F hC hE ok hr rfl (fun _ => by kernel_rfl) (fun _ _ _ h => h) fun v r _ hr F => wa_nil ⟨_, rfl, by simp, F.ret hr⟩)
  · refine w2_ixC T.k_TERMS rfl ?_
    have F : c.Fut (Prs.ret Term.any) r (fun x M' => Q (.dat (Term.enc x)) M') X := F
    walk_at "f"
    exact F.ret hr
theorem ok_rterms (T : Txt K mg a d) : FnOk P w K mg base (L2.CX P w) 8 a.Reader_read_terms d.Reader_read_terms ["self"] (concX K (A_rd a.Reader a.DamagedData pTerms encT)) := by
  have G_Reader_read_count : FnOk P w K mg base (L2.CX P w) 4 a.Reader_read_count d.Reader_read_count ["self"] (concX K (A_rd a.Reader a.DamagedData pCount .int)) := ok_count T
  have G_Reader_read_term : FnOk P w K mg base (L2.CX P w) 7 a.Reader_read_term d.Reader_read_term ["self"] (concX K (A_rd a.Reader a.DamagedData pTerm Term.enc)) := ok_rterm T
  refine ab_okX T.F_Reader_read_terms sc_Reader_read_terms (fun ss M Q X ⟨c, D, _, _, e, _⟩ => by subst e; rfl) fun cdv Ar outer s H E hr => ?_
  have hu64 := hr.units
  refine ⟨_, (pss_one (ps_ret (pe_callTy (r := rTupS K) call_tuple_of (by rfl) T.n_tuple (by decide +kernel) (pa_cons (pe_lcX (own := [("_", 1)]) (takes_of rfl rfl rfl rfl) (fun _ _ _ _ _ h => h) rfl rfl rfl sc_Reader_read_terms.nd (pi_range1 rfl T.n_range (pa_cons (pe_methD0 (pv 0) T.cl_Reader T.m_Reader_read_count G_Reader_read_count (hr.mono (by omega)) T.b_Reader_read_count .nil (fun σ => passAt (takes_of rfl rfl rfl rfl) σ)) pa_nil)) (blkOk_by (own := [("_", 1)]) (N := ["self", "_"]) (sc := (defScope s_Reader_read_terms)) (by decide +kernel)) (fun _ _ _ _ _ => (pg_name (i := 1) sc_Reader_read_terms.nd rfl (Or.inl rfl))) (fun _ _ _ _ _ => pts_nil) (fun _ _ _ _ _ _ tk => (pe_methD0 (pv 0) T.cl_Reader T.m_Reader_read_term G_Reader_read_term (hr.mono (by omega)) T.b_Reader_read_term .nil (fun σ => passAt tk σ)))) pa_nil)))), ?_⟩
  rintro ss M Q X ⟨c, D, hC, hE, rfl, rfl, ok, hs, F⟩
  walk_at "k"
  show WS _ _ [some (.raw (.ref c.o)), none] (c.m D) _
  refine ws_ret ?_
  exact w_cb (wa_cons (w_lcRd F.to (by decide) hC hE ok hs rfl (fun _ => rfl) (fun _ => by kernel_rfl) (fun _ => by kernel_rfl) (fun _ _ _ _ h => h) fun xs r hr hl F => wa_nil (wl_tuple lsv_dat (F.ret hr))))
theorem ok_rlit (T : Txt K mg a d) : FnOk P w K mg base (L2.CX P w) 9 a.Reader_read_literal d.Reader_read_literal ["self"] (concX K (A_rd a.Reader a.DamagedData pLit Lit.enc)) := by
  have G_Reader_read_byte : FnOk P w K mg base (L2.CX P w) 2 a.Reader_read_byte d.Reader_read_byte ["self", "count"] (concX K (A_byte a.Reader a.DamagedData)) := ok_byte T
  have G_Reader_read_string : FnOk P w K mg base (L2.CX P w) 5 a.Reader_read_string d.Reader_read_string ["self"] (concX K (A_rd a.Reader a.DamagedData pStr .str)) := ok_rstr T
  have G_Reader_read_term : FnOk P w K mg base (L2.CX P w) 7 a.Reader_read_term d.Reader_read_term ["self"] (concX K (A_rd a.Reader a.DamagedData pTerm Term.enc)) := ok_rterm T
  have G_Reader_read_terms : FnOk P w K mg base (L2.CX P w) 8 a.Reader_read_terms d.Reader_read_terms ["self"] (concX K (A_rd a.Reader a.DamagedData pTerms encT)) := ok_rterms T
  refine ab_okX T.F_Reader_read_literal sc_Reader_read_literal (fun ss M Q X ⟨c, D, _, _, e, _⟩ => by subst e; rfl) fun cdv Ar outer s H E hr => ?_
  have hu64 := hr.units
  refine ⟨_, (pss_cons (ps_set (i := 1) sc_Reader_read_literal.nd rfl (Or.inl rfl) (pe_ix (r := rIxT K) ix_tup (pe_glob (v := .ref a.c_LITERALS) (by rfl) T.c_LITERALS rfl) (pe_methD (pv 0) T.cl_Reader T.m_Reader_read_byte G_Reader_read_byte (hr.mono (by omega)) T.b_Reader_read_byte .nil (fun σ => passAt (takes_of rfl rfl rfl rfl) σ) (pa_cons (pe_callB (r := rLenS K) call_len_seq (by rfl) T.n_len PySem.boot_len (pa_cons (pe_glob (v := .ref a.c_LITERALS) (by rfl) T.c_LITERALS rfl) pa_nil)) pa_nil)) (fun _ _ => rfl)))
  (pss_cons (ps_if (pt_cmpR (r := rEqD K) (op_eqD hu64) (pv 1) pe_str (nomark _)) (pss_cons (ps_set (i := 2) sc_Reader_read_literal.nd rfl (Or.inl rfl) (pe_ix (r := rIxT K) ix_tup (pe_glob (v := .ref a.c_COMPARISONS) (by rfl) T.c_COMPARISONS rfl) (pe_methD (pv 0) T.cl_Reader T.m_Reader_read_byte G_Reader_read_byte (hr.mono (by omega)) T.b_Reader_read_byte .nil (fun σ => passAt (takes_of rfl rfl rfl rfl) σ) (pa_cons (pe_callB (r := rLenS K) call_len_seq (by rfl) T.n_len PySem.boot_len (pa_cons (pe_glob (v := .ref a.c_COMPARISONS) (by rfl) T.c_COMPARISONS rfl) pa_nil)) pa_nil)) (fun _ _ => rfl)))
  (pss_cons (ps_set (i := 3) sc_Reader_read_literal.nd rfl (Or.inl rfl) (pe_methD0 (pv 0) T.cl_Reader T.m_Reader_read_term G_Reader_read_term (hr.mono (by omega)) T.b_Reader_read_term .nil (fun σ => passAt (takes_of rfl rfl rfl rfl) σ)))
  (pss_one (ps_ret (pe_tup (pa_cons (pv 1) (pa_cons (pv 2) (pa_cons (pv 3) (pa_cons (pe_methD0 (pv 0) T.cl_Reader T.m_Reader_read_term G_Reader_read_term (hr.mono (by omega)) T.b_Reader_read_term .nil (fun σ => passAt (takes_of rfl rfl rfl rfl) σ)) pa_nil))))))))) pss_nil)
  (pss_cons (ps_set (i := 4) sc_Reader_read_literal.nd rfl (Or.inl rfl) (pe_methD0 (pv 0) T.cl_Reader T.m_Reader_read_string G_Reader_read_string (hr.mono (by omega)) T.b_Reader_read_string .nil (fun σ => passAt (takes_of rfl rfl rfl rfl) σ)))
  (pss_cons (ps_if (pt_cmpR (r := rEqD K) (op_eqD hu64) (pv 1) pe_str (nomark _)) (pss_cons (ps_set (i := 2) sc_Reader_read_literal.nd rfl (Or.inl rfl) (pe_ix (r := rIxT K) ix_tup (pe_glob (v := .ref a.c_OPERATORS) (by rfl) T.c_OPERATORS rfl) (pe_methD (pv 0) T.cl_Reader T.m_Reader_read_byte G_Reader_read_byte (hr.mono (by omega)) T.b_Reader_read_byte .nil (fun σ => passAt (takes_of rfl rfl rfl rfl) σ) (pa_cons (pe_callB (r := rLenS K) call_len_seq (by rfl) T.n_len PySem.boot_len (pa_cons (pe_glob (v := .ref a.c_OPERATORS) (by rfl) T.c_OPERATORS rfl) pa_nil)) pa_nil)) (fun _ _ => rfl)))
  (pss_cons (ps_set (i := 3) sc_Reader_read_literal.nd rfl (Or.inl rfl) (pe_methD0 (pv 0) T.cl_Reader T.m_Reader_read_term G_Reader_read_term (hr.mono (by omega)) T.b_Reader_read_term .nil (fun σ => passAt (takes_of rfl rfl rfl rfl) σ)))
  (pss_one (ps_ret (pe_tup (pa_cons (pv 1) (pa_cons (pv 4) (pa_cons (pv 2) (pa_cons (pv 3) (pa_cons (pe_methD0 (pv 0) T.cl_Reader T.m_Reader_read_term G_Reader_read_term (hr.mono (by omega)) T.b_Reader_read_term .nil (fun σ => passAt (takes_of rfl rfl rfl rfl) σ)) pa_nil)))))))))) pss_nil)
  (pss_cons (ps_if (pt_cmpR (r := rEqD K) (op_eqD hu64) (pv 1) pe_str (nomark _)) (pss_cons (ps_set (i := 5) sc_Reader_read_literal.nd rfl (Or.inl rfl) (pe_methD0 (pv 0) T.cl_Reader T.m_Reader_read_string G_Reader_read_string (hr.mono (by omega)) T.b_Reader_read_string .nil (fun σ => passAt (takes_of rfl rfl rfl rfl) σ)))
  (pss_one (ps_ret (pe_tup (pa_cons (pv 1) (pa_cons (pv 4) (pa_cons (pv 5) (pa_cons (pe_methD0 (pv 0) T.cl_Reader T.m_Reader_read_terms G_Reader_read_terms (hr.mono (by omega)) T.b_Reader_read_terms .nil (fun σ => passAt (takes_of rfl rfl rfl rfl) σ)) pa_nil)))))))) pss_nil)
  (pss_one (ps_ret (pe_tup (pa_cons (pv 1) (pa_cons (pv 4) (pa_cons (pe_methD0 (pv 0) T.cl_Reader T.m_Reader_read_terms G_Reader_read_terms (hr.mono (by omega)) T.b_Reader_read_terms .nil (fun σ => passAt (takes_of rfl rfl rfl rfl) σ)) pa_nil))))))))))), ?_⟩
  rintro ss M Q X ⟨c, D, hC, hE, rfl, rfl, ok, hs, F⟩
  walk_at "k"
  show WS _ _ [some (.raw (.ref c.o)), none, none, none, none, none] (c.m D) _
  have F : c.Fut (Prs.thn (pByte 5) fun b =>
    if b = 2 then Prs.thn (pByte 6) fun o => Prs.thn pTerm fun s => Prs.thn pTerm fun t => Prs.ret (Lit.compare (opsC.getD o.toNat "") s t) else
    Prs.thn pStr fun n => if b = 3 then Prs.thn (pByte 3) fun o => Prs.thn pTerm fun s => Prs.thn pTerm fun t => Prs.ret (Lit.is n (opsI.getD o.toNat "") s t) else
    if b = 4 then Prs.thn pStr fun r => Prs.thn pTerms fun ts => Prs.ret (Lit.count n r ts) else Prs.thn pTerms fun ts => Prs.ret (if b = 0 then Lit.fact n ts else Lit.neg n ts)) D (fun x M' => Q (.dat (Lit.enc x)) M') X := F
  refine ws_seq (ws_set (w_op (w_raw (w_byte F hC hE ok hs rfl (fun _ => by kernel_rfl) (fun q => wa_cons (w_cb (wa_cons (w_raw (wa_nil (wl_lenC T.k_LITERALS (wa_nil q))))))) (fun _ _ _ h => h) fun b r b0 b1 b2 hr F => ?_))))
  obtain rfl | rfl | rfl | rfl | rfl : b = 0 ∨ b = 1 ∨ b = 2 ∨ b = 3 ∨ b = 4 := by omega
  · refine w2_ixC T.k_LITERALS rfl ?_
    have F : c.Fut (Prs.thn pStr fun n => Prs.thn pTerms fun ts => Prs.ret (Lit.fact n ts)) r _ X := F
    walk_at "f"
    refine w_rd F hC hE ok hr rfl (fun _ => by kernel_rfl) (fun _ _ _ h => h) fun n r _ hr F => ?_
    walk_at "f"
    refine w_rd F hC hE ok hr rfl (fun _ => by kernel_rfl) (fun _ _ _ h => h) fun ts r _ hr F => ?_
    walk_at "f"
    exact F.ret hr
  · refine w2_ixC T.k_LITERALS rfl ?_
    have F : c.Fut (Prs.thn pStr fun n => Prs.thn pTerms fun ts => Prs.ret (Lit.neg n ts)) r _ X := F
    walk_at "f"
    refine w_rd F hC hE ok hr rfl (fun _ => by kernel_rfl) (fun _ _ _ h => h) fun n r _ hr F => ?_
    walk_at "f"
    refine w_rd F hC hE ok hr rfl (fun _ => by kernel_rfl) (fun _ _ _ h => h) fun ts r _ hr F => ?_
    walk_at "f"
    exact F.ret hr
  · refine w2_ixC T.k_LITERALS rfl ?_
    have F : c.Fut (Prs.thn (pByte 6) fun o => Prs.thn pTerm fun s => Prs.thn pTerm fun t => Prs.ret (Lit.compare (opsC.getD o.toNat "") s t)) r _ X := F
    walk_at "f"
    refine w_byte F hC hE ok hr rfl (fun _ => by kernel_rfl) (fun q => wa_cons (w_cb (wa_cons (w_raw (wa_nil (wl_lenC T.k_COMPARISONS (wa_nil q))))))) (fun _ _ _ h => h) fun o r b0 b1 b2 hr F => ?_
    refine w2_ixC (ys := opsC) (z := opsC.getD o.toNat "") T.k_COMPARISONS (atI_get b0 b1) ?_
    walk_at "f"
    refine w_rd F hC hE ok hr rfl (fun _ => by kernel_rfl) (fun _ _ _ h => h) fun s r _ hr F => ?_
    walk_at "f"
    refine w_rd F hC hE ok hr rfl (fun _ => by kernel_rfl) (fun _ _ _ h => h) fun t r _ hr F => ?_
    walk_at "f"
    exact F.ret hr
  · refine w2_ixC T.k_LITERALS rfl ?_
    have F : c.Fut (Prs.thn pStr fun n => Prs.thn (pByte 3) fun o => Prs.thn pTerm fun s => Prs.thn pTerm fun t => Prs.ret (Lit.is n (opsI.getD o.toNat "") s t)) r _ X := F
    walk_at "f"
    refine w_rd F hC hE ok hr rfl (fun _ => by kernel_rfl) (fun _ _ _ h => h) fun n r _ hr F => ?_
    walk_at "f"
    refine w_byte F hC hE ok hr rfl (fun _ => by kernel_rfl) (fun q => wa_cons (w_cb (wa_cons (w_raw (wa_nil (wl_lenC T.k_OPERATORS (wa_nil q))))))) (fun _ _ _ h => h) fun o r b0 b1 b2 hr F => ?_
    refine w2_ixC (ys := opsI) (z := opsI.getD o.toNat "") T.k_OPERATORS (atI_get b0 b1) ?_
    walk_at "f"
    refine w_rd F hC hE ok hr rfl (fun _ => by kernel_rfl) (fun _ _ _ h => h) fun s r _ hr F => ?_
    walk_at "f"
    refine w_rd F hC hE ok hr rfl (fun _ => by kernel_rfl) (fun _ _ _ h => h) fun t r _ hr F => ?_
    walk_at "f"
    exact F.ret hr
  · refine w2_ixC T.k_LITERALS rfl ?_
    have F : c.Fut (Prs.thn pStr fun n => Prs.thn pStr fun rl => Prs.thn pTerms fun ts => Prs.ret (Lit.count n rl ts)) r _ X := F
    walk_at "f"
    refine w_rd F hC hE ok hr rfl (fun _ => by kernel_rfl) (fun _ _ _ h => h) fun n r _ hr F => ?_
    walk_at "f"
    refine w_rd F hC hE ok hr rfl (fun _ => by kernel_rfl) (fun _ _ _ h => h) fun rl r _ hr F => ?_
    walk_at "f"
    refine w_rd F hC hE ok hr rfl (fun _ => by kernel_rfl) (fun _ _ _ h => h) fun ts r _ hr F => ?_
    walk_at "f"
    exact F.ret hr
theorem ok_rbody (T : Txt K mg a d) : FnOk P w K mg base (L2.CX P w) 10 a.Reader_read_body d.Reader_read_body ["self"] (concX K (A_rd a.Reader a.DamagedData pBody encB)) := by
  have G_Reader_read_count : FnOk P w K mg base (L2.CX P w) 4 a.Reader_read_count d.Reader_read_count ["self"] (concX K (A_rd a.Reader a.DamagedData pCount .int)) := ok_count T
  have G_Reader_read_literal : FnOk P w K mg base (L2.CX P w) 9 a.Reader_read_literal d.Reader_read_literal ["self"] (concX K (A_rd a.Reader a.DamagedData pLit Lit.enc)) := ok_rlit T
  refine ab_okX T.F_Reader_read_body sc_Reader_read_body (fun ss M Q X ⟨c, D, _, _, e, _⟩ => by subst e; rfl) fun cdv Ar outer s H E hr => ?_
  have hu64 := hr.units
  refine ⟨_, (pss_one (ps_ret (pe_callTy (r := rTupS K) call_tuple_of (by rfl) T.n_tuple (by decide +kernel) (pa_cons (pe_lcX (own := [("_", 1)]) (takes_of rfl rfl rfl rfl) (fun _ _ _ _ _ h => h) rfl rfl rfl sc_Reader_read_body.nd (pi_range1 rfl T.n_range (pa_cons (pe_methD0 (pv 0) T.cl_Reader T.m_Reader_read_count G_Reader_read_count (hr.mono (by omega)) T.b_Reader_read_count .nil (fun σ => passAt (takes_of rfl rfl rfl rfl) σ)) pa_nil)) (blkOk_by (own := [("_", 1)]) (N := ["self", "_"]) (sc := (defScope s_Reader_read_body)) (by decide +kernel)) (fun _ _ _ _ _ => (pg_name (i := 1) sc_Reader_read_body.nd rfl (Or.inl rfl))) (fun _ _ _ _ _ => pts_nil) (fun _ _ _ _ _ _ tk => (pe_methD0 (pv 0) T.cl_Reader T.m_Reader_read_literal G_Reader_read_literal (hr.mono (by omega)) T.b_Reader_read_literal .nil (fun σ => passAt tk σ)))) pa_nil)))), ?_⟩
  rintro ss M Q X ⟨c, D, hC, hE, rfl, rfl, ok, hs, F⟩
  walk_at "k"
  show WS _ _ [some (.raw (.ref c.o)), none] (c.m D) _
  refine ws_ret ?_
  exact w_cb (wa_cons (w_lcRd F.to (by decide) hC hE ok hs rfl (fun _ => rfl) (fun _ => by kernel_rfl) (fun _ => by kernel_rfl) (fun _ _ _ _ h => h) fun xs r hr hl F => wa_nil (wl_tuple lsv_dat (F.ret hr))))
theorem ok_ritem (T : Txt K mg a d) : FnOk P w K mg base (L2.CX P w) 11 a.Reader_read_item d.Reader_read_item ["self"] (concX K (A_rd a.Reader a.DamagedData pItem Item.enc)) := by
  have G_Reader_read_byte : FnOk P w K mg base (L2.CX P w) 2 a.Reader_read_byte d.Reader_read_byte ["self", "count"] (concX K (A_byte a.Reader a.DamagedData)) := ok_byte T
  have G_Reader_read_number : FnOk P w K mg base (L2.CX P w) 3 a.Reader_read_number d.Reader_read_number ["self"] (concX K (A_rd a.Reader a.DamagedData pNum .int)) := ok_num T
  have G_Reader_read_string : FnOk P w K mg base (L2.CX P w) 5 a.Reader_read_string d.Reader_read_string ["self"] (concX K (A_rd a.Reader a.DamagedData pStr .str)) := ok_rstr T
  have G_Reader_read_row : FnOk P w K mg base (L2.CX P w) 7 a.Reader_read_row d.Reader_read_row ["self"] (concX K (A_rd a.Reader a.DamagedData pRow encR)) := ok_rrow T
  have G_Reader_read_terms : FnOk P w K mg base (L2.CX P w) 8 a.Reader_read_terms d.Reader_read_terms ["self"] (concX K (A_rd a.Reader a.DamagedData pTerms encT)) := ok_rterms T
  have G_Reader_read_body : FnOk P w K mg base (L2.CX P w) 10 a.Reader_read_body d.Reader_read_body ["self"] (concX K (A_rd a.Reader a.DamagedData pBody encB)) := ok_rbody T
  refine ab_okX T.F_Reader_read_item sc_Reader_read_item (fun ss M Q X ⟨c, D, _, _, e, _⟩ => by subst e; rfl) fun cdv Ar outer s H E hr => ?_
  have hu64 := hr.units
  refine ⟨_, (pss_cons (ps_set (i := 1) sc_Reader_read_item.nd rfl (Or.inl rfl) (pe_ix (r := rIxT K) ix_tup (pe_glob (v := .ref a.c_WORDS) (by rfl) T.c_WORDS rfl) (pe_methD (pv 0) T.cl_Reader T.m_Reader_read_byte G_Reader_read_byte (hr.mono (by omega)) T.b_Reader_read_byte .nil (fun σ => passAt (takes_of rfl rfl rfl rfl) σ) (pa_cons (pe_callB (r := rLenS K) call_len_seq (by rfl) T.n_len PySem.boot_len (pa_cons (pe_glob (v := .ref a.c_WORDS) (by rfl) T.c_WORDS rfl) pa_nil)) pa_nil)) (fun _ _ => rfl)))
  (pss_cons (ps_set (i := 2) sc_Reader_read_item.nd rfl (Or.inl rfl) (pe_methD0 (pv 0) T.cl_Reader T.m_Reader_read_string G_Reader_read_string (hr.mono (by omega)) T.b_Reader_read_string .nil (fun σ => passAt (takes_of rfl rfl rfl rfl) σ)))
  (pss_cons (ps_if (pt_cmpR (r := rEqD K) (op_eqD hu64) (pv 1) pe_str (nomark _)) (pss_one (ps_ret (pe_tup (pa_cons (pv 1) (pa_cons (pv 2) (pa_cons (pe_methD0 (pv 0) T.cl_Reader T.m_Reader_read_number G_Reader_read_number (hr.mono (by omega)) T.b_Reader_read_number .nil (fun σ => passAt (takes_of rfl rfl rfl rfl) σ)) pa_nil)))))) pss_nil)
  (pss_cons (ps_if (pt_cmpR (r := rEqD K) (op_eqD hu64) (pv 1) pe_str (nomark _)) (pss_one (ps_ret (pe_tup (pa_cons (pv 1) (pa_cons (pv 2) (pa_cons (pe_methD0 (pv 0) T.cl_Reader T.m_Reader_read_row G_Reader_read_row (hr.mono (by omega)) T.b_Reader_read_row .nil (fun σ => passAt (takes_of rfl rfl rfl rfl) σ)) pa_nil)))))) pss_nil)
  (pss_cons (ps_if (pt_cmpR (r := rEqD K) (op_eqD hu64) (pv 1) pe_str (nomark _)) (pss_cons (ps_set (i := 3) sc_Reader_read_item.nd rfl (Or.inl rfl) (pe_methD0 (pv 0) T.cl_Reader T.m_Reader_read_string G_Reader_read_string (hr.mono (by omega)) T.b_Reader_read_string .nil (fun σ => passAt (takes_of rfl rfl rfl rfl) σ)))
  (pss_cons (ps_set (i := 4) sc_Reader_read_item.nd rfl (Or.inl rfl) (pe_methD0 (pv 0) T.cl_Reader T.m_Reader_read_terms G_Reader_read_terms (hr.mono (by omega)) T.b_Reader_read_terms .nil (fun σ => passAt (takes_of rfl rfl rfl rfl) σ)))
  (pss_one (ps_ret (pe_tup (pa_cons (pv 1) (pa_cons (pv 2) (pa_cons (pv 3) (pa_cons (pv 4) (pa_cons (pe_methD0 (pv 0) T.cl_Reader T.m_Reader_read_body G_Reader_read_body (hr.mono (by omega)) T.b_Reader_read_body .nil (fun σ => passAt (takes_of rfl rfl rfl rfl) σ)) pa_nil)))))))))) pss_nil)
  (pss_one (ps_ret (pe_tup (pa_cons (pv 1) (pa_cons (pv 2) (pa_cons (pe_methD0 (pv 0) T.cl_Reader T.m_Reader_read_body G_Reader_read_body (hr.mono (by omega)) T.b_Reader_read_body .nil (fun σ => passAt (takes_of rfl rfl rfl rfl) σ)) pa_nil))))))))))), ?_⟩
  rintro ss M Q X ⟨c, D, hC, hE, rfl, rfl, ok, hs, F⟩
  walk_at "k"
  show WS _ _ [some (.raw (.ref c.o)), none, none, none, none] (c.m D) _
  have F : c.Fut (Prs.thn (pByte 4) fun b => Prs.thn pStr fun n =>
    if b = 0 then Prs.thn pNum fun w => Prs.ret (Item.relation n w) else if b = 1 then Prs.thn pRow fun row => Prs.ret (Item.fact n row) else
    if b = 2 then Prs.thn pStr fun r => Prs.thn pTerms fun ts => Prs.thn pBody fun bd => Prs.ret (Item.rule n r ts bd) else Prs.thn pBody fun bd => Prs.ret (Item.denial n bd)) D (fun x M' => Q (.dat (Item.enc x)) M') X := F
  refine ws_seq (ws_set (w_op (w_raw (w_byte F hC hE ok hs rfl (fun _ => by kernel_rfl) (fun q => wa_cons (w_cb (wa_cons (w_raw (wa_nil (wl_lenC T.k_WORDS (wa_nil q))))))) (fun _ _ _ h => h) fun b r b0 b1 b2 hr F => ?_))))
  obtain rfl | rfl | rfl | rfl : b = 0 ∨ b = 1 ∨ b = 2 ∨ b = 3 := by omega
  · refine w2_ixC T.k_WORDS rfl ?_
    have F : c.Fut (Prs.thn pStr fun n => Prs.thn pNum fun w => Prs.ret (Item.relation n w)) r _ X := F
    walk_at "f"
    refine w_rd F hC hE ok hr rfl (fun _ => by kernel_rfl) (fun _ _ _ h => h) fun n r _ hr F => ?_
    walk_at "f"
    refine w_rd F hC hE ok hr rfl (fun _ => by kernel_rfl) (fun _ _ _ h => h) fun w r _ hr F => ?_
    walk_at "f"
    exact F.ret hr
  · refine w2_ixC T.k_WORDS rfl ?_
    have F : c.Fut (Prs.thn pStr fun n => Prs.thn pRow fun w => Prs.ret (Item.fact n w)) r _ X := F
    walk_at "f"
    refine w_rd F hC hE ok hr rfl (fun _ => by kernel_rfl) (fun _ _ _ h => h) fun n r _ hr F => ?_
    walk_at "f"
    refine w_rd F hC hE ok hr rfl (fun _ => by kernel_rfl) (fun _ _ _ h => h) fun w r _ hr F => ?_
    walk_at "f"
    exact F.ret hr
  · refine w2_ixC T.k_WORDS rfl ?_
    have F : c.Fut (Prs.thn pStr fun n => Prs.thn pStr fun r => Prs.thn pTerms fun ts => Prs.thn pBody fun bd => Prs.ret (Item.rule n r ts bd)) r _ X := F
    walk_at "f"
    refine w_rd F hC hE ok hr rfl (fun _ => by kernel_rfl) (fun _ _ _ h => h) fun n r _ hr F => ?_
    walk_at "f"
    refine w_rd F hC hE ok hr rfl (fun _ => by kernel_rfl) (fun _ _ _ h => h) fun rl r _ hr F => ?_
    walk_at "f"
    refine w_rd F hC hE ok hr rfl (fun _ => by kernel_rfl) (fun _ _ _ h => h) fun ts r _ hr F => ?_
    walk_at "f"
    refine w_rd F hC hE ok hr rfl (fun _ => by kernel_rfl) (fun _ _ _ h => h) fun bd r _ hr F => ?_
    walk_at "f"
    exact F.ret hr
  · refine w2_ixC T.k_WORDS rfl ?_
    have F : c.Fut (Prs.thn pStr fun n => Prs.thn pBody fun w => Prs.ret (Item.denial n w)) r _ X := F
    walk_at "f"
    refine w_rd F hC hE ok hr rfl (fun _ => by kernel_rfl) (fun _ _ _ h => h) fun n r _ hr F => ?_
    walk_at "f"
    refine w_rd F hC hE ok hr rfl (fun _ => by kernel_rfl) (fun _ _ _ h => h) fun w r _ hr F => ?_
    walk_at "f"
    exact F.ret hr
end
end
section
section
variable {P : Program} {w : World} {K : PySem.W.Frag} {mg : Str → Option Value} {base : Heap} {a : AD} {d : FD}
theorem ok_rchg (T : Txt K mg a d) : FnOk P w K mg base (L2.CX P w) 12 a.Reader_read_change d.Reader_read_change ["self"] (concX K (A_rd a.Reader a.DamagedData pChg Chk.enc)) := by
  have G_Reader_read_byte : FnOk P w K mg base (L2.CX P w) 2 a.Reader_read_byte d.Reader_read_byte ["self", "count"] (concX K (A_byte a.Reader a.DamagedData)) := ok_byte T
  have G_Reader_read_string : FnOk P w K mg base (L2.CX P w) 5 a.Reader_read_string d.Reader_read_string ["self"] (concX K (A_rd a.Reader a.DamagedData pStr .str)) := ok_rstr T
  have G_Reader_read_row : FnOk P w K mg base (L2.CX P w) 7 a.Reader_read_row d.Reader_read_row ["self"] (concX K (A_rd a.Reader a.DamagedData pRow encR)) := ok_rrow T
  have G_Reader_read_item : FnOk P w K mg base (L2.CX P w) 11 a.Reader_read_item d.Reader_read_item ["self"] (concX K (A_rd a.Reader a.DamagedData pItem Item.enc)) := ok_ritem T
  refine ab_okX T.F_Reader_read_change sc_Reader_read_change (fun ss M Q X ⟨c, D, _, _, e, _⟩ => by subst e; rfl) fun cdv Ar outer s H E hr => ?_
  have hu64 := hr.units
  refine ⟨_, (pss_cons (ps_if (pt_cmpR (r := rEqD K) (op_eqD hu64) (pe_methD (pv 0) T.cl_Reader T.m_Reader_read_byte G_Reader_read_byte (hr.mono (by omega)) T.b_Reader_read_byte .nil (fun σ => passAt (takes_of rfl rfl rfl rfl) σ) (pa_cons pe_int pa_nil)) pe_int (nomark _)) (pss_one (ps_ret (pe_tup (pa_cons pe_str (pa_cons (pe_methD0 (pv 0) T.cl_Reader T.m_Reader_read_item G_Reader_read_item (hr.mono (by omega)) T.b_Reader_read_item .nil (fun σ => passAt (takes_of rfl rfl rfl rfl) σ)) pa_nil))))) pss_nil)
  (pss_cons (ps_set (i := 1) sc_Reader_read_change.nd rfl (Or.inl rfl) (pe_methD (pv 0) T.cl_Reader T.m_Reader_read_byte G_Reader_read_byte (hr.mono (by omega)) T.b_Reader_read_byte .nil (fun σ => passAt (takes_of rfl rfl rfl rfl) σ) (pa_cons (pe_callB (r := rLenS K) call_len_seq (by rfl) T.n_len PySem.boot_len (pa_cons (pe_glob (v := .ref a.c_WORDS) (by rfl) T.c_WORDS rfl) pa_nil)) pa_nil)))
  (pss_cons (ps_set (i := 2) sc_Reader_read_change.nd rfl (Or.inl rfl) (pe_methD0 (pv 0) T.cl_Reader T.m_Reader_read_string G_Reader_read_string (hr.mono (by omega)) T.b_Reader_read_string .nil (fun σ => passAt (takes_of rfl rfl rfl rfl) σ)))
  (pss_one (ps_ret (pe_tup (pa_cons pe_str (pa_cons (pe_tup (pa_cons (pv 1) (pa_cons (pv 2) (pa_cons (pe_methD0 (pv 0) T.cl_Reader T.m_Reader_read_row G_Reader_read_row (hr.mono (by omega)) T.b_Reader_read_row .nil (fun σ => passAt (takes_of rfl rfl rfl rfl) σ)) pa_nil)))) pa_nil)))))))), ?_⟩
  rintro ss M Q X ⟨c, D, hC, hE, rfl, rfl, ok, hs, F⟩
  walk_at "k"
  show WS _ _ [some (.raw (.ref c.o)), none, none] (c.m D) _
  have F : c.Fut (Prs.thn (pByte 2) fun b => if b = 0 then Prs.thn pItem fun it => Prs.ret (Chk.comes it) else
    Prs.thn (pByte 4) fun s => Prs.thn pStr fun n => Prs.thn pRow fun row => Prs.ret (Chk.goes ⟨s, n, row⟩)) D (fun x M' => Q (.dat (Chk.enc x)) M') X := F
  refine ws_seq (ws_if (wt_test (w_op (w_byte F hC hE ok hs rfl (fun _ => by kernel_rfl) (fun q => wa_cons (w_int (wa_nil q))) (fun _ _ _ h => h) fun b r b0 b1 b2 hr F => ?_))))
  walk_at "f"
  refine ite_d (fun hb => ?_) (fun hb => ?_)
  · rw [if_pos hb] at F
    walk_at "f"
    refine w_rd F hC hE ok hr rfl (fun _ => by kernel_rfl) (fun _ _ _ h => h) fun it r _ hr F => ?_
    walk_at "f"
    exact F.ret hr
  · rw [if_neg hb] at F
    walk_at "f"
    refine w_byte F hC hE ok hr rfl (fun _ => by kernel_rfl) (fun q => wa_cons (w_cb (wa_cons (w_raw (wa_nil (wl_lenC T.k_WORDS (wa_nil q))))))) (fun _ _ _ h => h) fun s r b0 b1 b2 hr F => ?_
    walk_at "f"
    refine w_rd F hC hE ok hr rfl (fun _ => by kernel_rfl) (fun _ _ _ h => h) fun n r _ hr F => ?_
    walk_at "f"
    refine w_rd F hC hE ok hr rfl (fun _ => by kernel_rfl) (fun _ _ _ h => h) fun row r _ hr F => ?_
    walk_at "f"
    exact F.ret hr
abbrev encCs' (cs : List Chk) : PyData := .list (cs.map Chk.enc)
theorem ok_rchgs (T : Txt K mg a d) : FnOk P w K mg base (L2.CX P w) 13 a.Reader_read_changes d.Reader_read_changes ["self"] (concX K (A_rd a.Reader a.DamagedData pChgs encCs')) := by
  have G_Reader_read_count : FnOk P w K mg base (L2.CX P w) 4 a.Reader_read_count d.Reader_read_count ["self"] (concX K (A_rd a.Reader a.DamagedData pCount .int)) := ok_count T
  have G_Reader_read_change : FnOk P w K mg base (L2.CX P w) 12 a.Reader_read_change d.Reader_read_change ["self"] (concX K (A_rd a.Reader a.DamagedData pChg Chk.enc)) := ok_rchg T
  refine ab_okX T.F_Reader_read_changes sc_Reader_read_changes (fun ss M Q X ⟨c, D, _, _, e, _⟩ => by subst e; rfl) fun cdv Ar outer s H E hr => ?_
  have hu64 := hr.units
  refine ⟨_, (pss_one (ps_ret (pe_lcX (own := [("_", 1)]) (takes_of rfl rfl rfl rfl) (fun _ _ _ _ _ h => h) rfl rfl rfl sc_Reader_read_changes.nd (pi_range1 rfl T.n_range (pa_cons (pe_methD0 (pv 0) T.cl_Reader T.m_Reader_read_count G_Reader_read_count (hr.mono (by omega)) T.b_Reader_read_count .nil (fun σ => passAt (takes_of rfl rfl rfl rfl) σ)) pa_nil)) (blkOk_by (own := [("_", 1)]) (N := ["self", "_"]) (sc := (defScope s_Reader_read_changes)) (by decide +kernel)) (fun _ _ _ _ _ => (pg_name (i := 1) sc_Reader_read_changes.nd rfl (Or.inl rfl))) (fun _ _ _ _ _ => pts_nil) (fun _ _ _ _ _ _ tk => (pe_methD0 (pv 0) T.cl_Reader T.m_Reader_read_change G_Reader_read_change (hr.mono (by omega)) T.b_Reader_read_change .nil (fun σ => passAt tk σ)))))), ?_⟩
  rintro ss M Q X ⟨c, D, hC, hE, rfl, rfl, ok, hs, F⟩
  walk_at "k"
  show WS _ _ [some (.raw (.ref c.o)), none] (c.m D) _
  refine ws_ret ?_
  exact (w_lcRd F.to (by decide) hC hE ok hs rfl (fun _ => rfl) (fun _ => by kernel_rfl) (fun _ => by kernel_rfl) (fun _ _ _ _ h => h) fun xs r hr hl F => F.ret hr)
/-- what is known of what is read -/
theorem Fut_know {α : Type} {c : Rx} {p : Prs α} {D : List Int} {Q : α → MH → Prop} {X : Value → Option Addr → MH → Prop} (F : c.Fut p D Q X) : c.Fut p D (fun x M' => (∃ r, p D = some (x, r)) ∧ Q x M') X := by
  unfold Rx.Fut at F ⊢
  cases h : p D with
  | none => rw [h] at F; exact F
  | some z => rw [h] at F; exact fun hr => ⟨⟨z.2, rfl⟩, F hr⟩
def A_rimg (C Ex : Addr) : ASpX := fun ss M Q X => ∃ (c : Rx) (D : List Int), c.C = C ∧ c.Ex = Ex ∧ ss = [.raw (.ref c.o)] ∧ M = c.m D ∧ c.Ok ∧ D <:+ c.all ∧ c.all.length ≤ 400000 ∧ c.Fut pImg D (fun x M1 => ∀ v M', (∀ b u, M1 b = some u → M' b = some u) → Q v M') X
theorem ok_rimg (T : Txt K mg a d) : FnOk P w K mg base (L2.CX P w) 12 a.Reader_read_image d.Reader_read_image ["self"] (concX K (A_rimg a.Reader a.DamagedData)) := by
  have G_Reader_read_number : FnOk P w K mg base (L2.CX P w) 3 a.Reader_read_number d.Reader_read_number ["self"] (concX K (A_rd a.Reader a.DamagedData pNum .int)) := ok_num T
  have G_Reader_read_count : FnOk P w K mg base (L2.CX P w) 4 a.Reader_read_count d.Reader_read_count ["self"] (concX K (A_rd a.Reader a.DamagedData pCount .int)) := ok_count T
  have G_Reader_read_item : FnOk P w K mg base (L2.CX P w) 11 a.Reader_read_item d.Reader_read_item ["self"] (concX K (A_rd a.Reader a.DamagedData pItem Item.enc)) := ok_ritem T
  have G_State___init__ := ok_initL (P := P) (w := w) (base := base) T
  refine ab_okX T.F_Reader_read_image sc_Reader_read_image (fun ss M Q X ⟨c, D, _, _, e, _⟩ => by subst e; rfl) fun cdv Ar outer s H E hr => ?_
  have hu64 := hr.units
  refine ⟨_, (pss_cons (ps_set (i := 1) sc_Reader_read_image.nd rfl (Or.inl rfl) (pe_methD0 (pv 0) T.cl_Reader T.m_Reader_read_number G_Reader_read_number (hr.mono (by omega)) T.b_Reader_read_number .nil (fun σ => passAt (takes_of rfl rfl rfl rfl) σ)))
  (pss_cons (ps_setLcX (i := 2) (own := [("_", 3)]) (takes_of rfl rfl rfl rfl) (fun _ _ _ _ _ h => h) rfl rfl rfl sc_Reader_read_image.nd rfl rfl (sw_true rfl rfl rfl (by decide +kernel)) (pi_range1 rfl T.n_range (pa_cons (pe_methD0 (pv 0) T.cl_Reader T.m_Reader_read_count G_Reader_read_count (hr.mono (by omega)) T.b_Reader_read_count .nil (fun σ => passAt (takes_of rfl rfl rfl rfl) σ)) pa_nil)) (blkOk_by (own := [("_", 3)]) (N := ["self", "commits", "items", "_"]) (sc := (defScope s_Reader_read_image)) (by decide +kernel)) (fun _ _ _ _ _ => (pg_name (i := 3) sc_Reader_read_image.nd rfl (Or.inl rfl))) (fun _ _ _ _ _ => pts_nil) (fun _ _ _ _ _ _ tk => (pe_methD0 (pv 0) T.cl_Reader T.m_Reader_read_item G_Reader_read_item (hr.mono (by omega)) T.b_Reader_read_item .nil (fun σ => passAt tk σ))))
  (pss_one (ps_ret (pe_tup (pa_cons (pv 1) (pa_cons (pe_make T.mk_State G_State___init__ (hr.mono (by omega)) (by rfl) T.g_State T.b_State___init__ .nil pass0 (pa_cons (pv 2) pa_nil)) pa_nil))))))), ?_⟩
  rintro ss M Q X ⟨c, D, hC, hE, rfl, rfl, ok, hs, h4, F⟩
  walk_at "k"
  show WS _ _ [some (.raw (.ref c.o)), none, none, none] (c.m D) _
  have F := Fut_know F
  have kn : ∀ n its, (∃ r, pImg D = some ((n, its), r)) → InitR its := fun n its ⟨r, h⟩ => by
    have bD : Byt D := fun b hb => ok.by' b (hs.subset hb)
    have lD : D.length ≤ 400000 := Nat.le_trans hs.length_le h4
    obtain ⟨m, D1, rfl, _, hD1, hl1, h1⟩ := iv_thn iv_num bD (by omega) h
    obtain ⟨ks, r1, h2, h3⟩ := thn_inv h1
    cases h3
    obtain ⟨e1, h5⟩ := iv_list iv_item D1 _ _ hD1 hl1 h2
    obtain ⟨k, r2, h6, h7⟩ := thn_inv h2
    obtain ⟨z0, z1⟩ := count_le h6
    have := rep_inv h7
    have h8 : r2.length ≤ D1.length := by
      obtain ⟨n', D2, h3, h4⟩ := thn_inv (show Prs.thn pNum _ D1 = some (k, r2) from h6)
      obtain ⟨rfl, _⟩ := iv_num D1 n' D2 hD1 hl1 h3
      obtain ⟨l, D3, h5, h6⟩ := thn_inv h4
      cases h5
      obtain ⟨_, h7⟩ := need_inv h6
      cases h7
      rw [List.length_append]; omega
    rw [List.length_append] at lD
    exact ⟨h5.2, by omega⟩
  have F : c.Fut (Prs.thn pNum fun n => Prs.thn (pList pItem) fun its => Prs.ret (n, its)) D (fun x M1 => (∃ r, pImg D = some (x, r)) ∧ ∀ v M', (∀ b u, M1 b = some u → M' b = some u) → Q v M') X := F
  refine ws_seq (ws_set (w_rd F hC hE ok hs rfl (fun _ => by kernel_rfl) (fun _ _ _ h => h) fun n r _ hr F => ?_))
  refine ws_seq (ws_set (w_lcRd F (by decide) hC hE ok hr rfl (fun _ => rfl) (fun _ => by kernel_rfl) (fun _ => by kernel_rfl) (fun _ _ _ _ h => h) fun its r hr2 hl F => ?_))
  obtain ⟨hk, q⟩ := F.ret hr2
  have hi := kn _ _ hk
  refine ws_ret (w_tupS (wa_cons (w_var rfl (wa_cons (w_make (wa_cons (w_var rfl (wa_nil fun x dx hx => ⟨x, dx, _, its, rfl, um_same, ?_, hi, fun M' ⟨A', eo, h', f'⟩ => ⟨rfl, wa_nil ⟨by simp, ?_⟩⟩⟩))))))))
  · have := lsv_dat (K := K) (ds := its.map Item.enc) (M := um (c.m r) x (.ins a.State dx []))
    rw [List.map_map] at this
    exact this
  · refine q _ M' fun b u hb => ?_
    have bx : b ≠ x := fun z => by rw [← z, hb] at hx; cases hx
    exact (f' b u (by rw [um_ne bx]; exact hb) bx).1
end
end
section
section
variable {P : Program} {w : World} {K : PySem.W.Frag} {mg : Str → Option Value} {base : Heap} {a : AD} {d : FD}
def A_wnum : ASp := fun ss M Q => ∃ n : Int, ss = [.int n] ∧ 0 ≤ n ∧ n < 128 ^ 60 ∧ ((∀ L, M L = none → Q (.raw (.ref L)) (um M L (.lst (bys (cN n))))) ∨ Q (lsm .int (cN n)) M)
theorem ok_write_number (T : Txt K mg a d) : FnOk P w K mg base CX0 1 a.write_number d.write_number ["number"] (conc K A_wnum) := by
  refine ab_ok T.F_write_number sc_write_number (fun ss M Q ⟨n, e, _⟩ => by subst e; rfl) fun cdv Ar outer s H E hr => ⟨_, (pss_cons (ps_set (i := 1) sc_write_number.nd rfl (Or.inl rfl) (pe_lst pa_nil))
  (pss_cons (ps_while PassesOwn.never (pt_cmpR op_gt (pv 0) pe_int (nomark _)) (pss_cons (ps_expr (pe_bm PySem.F.plainAttrs_list PySem.F.slot_list_append PySem.F.type_list_append mt_append (pv 1) (pa_cons (pe_op op_add pe_int (pe_op op_mod (pv 0) pe_int)) pa_nil)))
  (pss_one (ps_set (i := 0) sc_write_number.nd rfl (Or.inl rfl) (pe_op op_fdiv (pv 0) pe_int)))))
  (pss_one (ps_ret (pe_op (r := rCatL K) op_catL (pv 1) (pe_lst (pa_cons (pv 0) pa_nil))))))), ?_⟩
  rintro ss M Q ⟨n, rfl, h0, h1, q⟩
  walk_at "k"
  show WS K _ [some (.int n), none] M _
  refine ws_seq (ws_set (w_lstM (wa_nil ⟨by simp, fun p hp => ?_⟩)))
  show WS K _ [some (.int n), some (.raw (.ref p))] (um M p (.lst [])) _
  refine ws_seq (ws_while (fun m ρ' M' => ∃ (acc : List Int) (j : Nat), ρ' = [some (.int (j : Nat)), some (.raw (.ref p))] ∧ M' = um M p (.lst (bys acc)) ∧ acc ++ cnF m j = cN n ∧ j < 128 ^ (m + 1)) ⟨59, [], n.toNat, by rw [Int.toNat_of_nonneg h0], rfl, rfl, by omega⟩ ?_)
  rintro m ρ' M' ⟨acc, j, rfl, rfl, he, hj⟩
  have hlen : acc.length ≤ 60 := by
    have h1 := congrArg List.length he
    have h2 := (cnF_len 59 n.toNat).2
    rw [List.length_append] at h1
    unfold cN at h1
    omega
  walk_at "f"
  refine ite_d (fun hb => ?_) (fun hb => ?_)
  · walk_at "f"
    refine w_bm ?_
    walk_at "f"
    refine ⟨ty_lst (lsv_ref um_same), ?_⟩
    walk_at "f"
    refine wm_append um_same (by rw [List.length_map, List.length_map]; omega) ?_
    walk_at "f"
    have hm : 127 < j := by omega
    cases m with
    | zero => exact absurd hj (by omega)
    | succ m =>
      have e : cnF (m + 1) j = (128 + (j : Int) % 128) :: cnF m (j / 128) := by
        show (if 127 < j then _ else _) = _
        rw [if_pos hm]
      refine ⟨m, Nat.lt_succ_self m, acc ++ [128 + (j : Int) % 128], j / 128, rfl, ?_, ?_, Nat.div_lt_of_lt_mul (by rw [Nat.pow_succ, Nat.mul_comm] at hj; exact hj)⟩
      · rw [um_um, bys_app]
        rfl
      · rw [← he, e, List.append_assoc]
        rfl
  · walk_at "f"
    have e : cN n = acc ++ [(j : Int)] := by
      rw [← he]
      cases m with
      | zero => rfl
      | succ m =>
        show acc ++ (if 127 < j then _ else _) = _
        rw [if_neg (by omega)]
    rcases q with q | q
    · refine w2_dropA p (w2_catM (lsv_ref um_same) lsv_dat (by rw [bys_len]; simp; omega) fun L hL => ?_)
      have hLp : L ≠ p := fun z => by rw [z, um_same] at hL; cases hL
      rw [del_umum hp hLp]
      rw [um_ne hLp] at hL
      have := q L hL
      rw [e, bys_app] at this
      exact this
    · refine w2_dropA p (w2_cat (ds := acc.map .int) (lsv_ref um_same) lsv_dat (by rw [List.length_map]; simp; omega) ?_)
      rw [del_um hp, ← List.map_append, ← e]
      exact q
theorem len_cL {ps : List (List Int)} {m : Nat} (h : (cL ps).length ≤ m) : ps.flatten.length + 1 ≤ m := by
  unfold cL at h
  rw [List.length_append] at h
  have := lenC_pos ps.length
  omega
/-- a def that writes a thing -/
def A_w {α : Type} (enc : α → PyData) (R : α → Prop) (code : α → List Int) : ASp := fun ss M Q => ∃ x, ss = [.dat (enc x)] ∧ R x ∧ (code x).length ≤ 990000 ∧ Q (lsm .int (code x)) M
abbrev bsD (D : List Int) : PyData := .list (D.map .int)
def A_wits : ASp := fun ss M Q => ∃ ps : List (List Int), ss = [.dat (.list (ps.map bsD))] ∧ ps.length ≤ 990000 ∧ (cL ps).length ≤ 990000 ∧ Q (lsm .int (cL ps)) M
theorem ok_write_items (T : Txt K mg a d) : FnOk P w K mg base CX0 2 a.write_items d.write_items ["written"] (conc K A_wits) := by
  have G_write_number : FnOk P w K mg base CX0 1 a.write_number d.write_number ["number"] (conc K A_wnum) := ok_write_number T
  refine ab_ok T.F_write_items sc_write_items (fun ss M Q ⟨ps, e, _⟩ => by subst e; rfl) fun cdv Ar outer s H E hr => ⟨_, (pss_cons (ps_set (i := 1) sc_write_items.nd rfl (Or.inl rfl) (pe_call G_write_number (hr.mono (by omega)) (by rfl) T.g_write_number T.F_write_number.kp T.b_write_number .nil pass0 (pa_cons (pe_callB (r := rLenS K) call_len_seq (by rfl) T.n_len PySem.boot_len (pa_cons (pv 0) pa_nil)) pa_nil)))
  (pss_cons (ps_for PassesOwn.never rfl (pi_list (pv 0)) (pg_name (i := 2) sc_write_items.nd rfl (Or.inl rfl)) (pss_one (ps_expr (pe_bm PySem.F.plainAttrs_list PySem.F.slot_list_extend PySem.F.type_list_extend mt_extend (pv 1) (pa_cons (pv 2) pa_nil)))))
  (pss_one (ps_ret (pv 1))))), ?_⟩
  rintro ss M Q ⟨ps, rfl, hps, hl, q⟩
  walk_at "k"
  show WS K _ [some (.dat (.list (ps.map bsD))), none, none] M _
  walk_at "f"
  refine ⟨(ps.length : Int), rfl, by omega, ?_, .inl fun L hL => ?_⟩
  · exact Int.lt_of_le_of_lt (show (ps.length : Int) ≤ 990000 by omega) (by decide +kernel)
  show WS _ _ [some (.dat (.list (ps.map bsD))), some (.raw (.ref L)), none] (um M L (.lst (bys (cN ps.length)))) _
  refine ws_seq (ws_forD (enc := bsD) (xs := ps) (M1 := um M L (.lst (bys (cN ps.length)))) (w_var rfl ⟨rfl, rfl⟩) (fun qs ρ' M' => ∃ z, ρ' = [some (.dat (.list (ps.map bsD))), some (.raw (.ref L)), z] ∧ M' = um M L (.lst (bys (cN ps.length ++ qs.flatten)))) ⟨none, rfl, by simp⟩ ?_ ?_)
  · rintro pre x post ρ' M' e ⟨z, rfl, rfl⟩
    refine wg_name ?_
    walk_at "f"
    refine w_bm ?_
    walk_at "f"
    refine ⟨ty_lst (lsv_ref um_same), ?_⟩
    walk_at "f"
    refine wm_extendD um_same ?_ ?_
    · subst e
      rw [bys_len, List.length_map, List.length_append]
      have h1 := len_cL hl
      have h2 := (cnF_len 59 (Int.toNat ((pre ++ x :: post).length : Nat))).2
      rw [List.flatten_append, List.flatten_cons, List.length_append, List.length_append] at h1
      unfold cN
      omega
    · walk_at "f"
      refine ⟨_, rfl, ?_⟩
      rw [um_um, List.flatten_append, ← List.append_assoc, bys_app (_ ++ _)]
      simp
  · rintro ρ' M' ⟨z, rfl, rfl⟩
    refine ws_ret (w_frz (w_var rfl ⟨L, _, rfl, um_same, ?_⟩))
    rw [del_um hL]
    exact q
abbrev A_wstr : ASp := A_w PyData.str (fun _ => True) cS
theorem ok_write_string (T : Txt K mg a d) : FnOk P w K mg base CX0 3 a.write_string d.write_string ["text"] (conc K A_wstr) := by
  have G_write_items : FnOk P w K mg base CX0 2 a.write_items d.write_items ["written"] (conc K A_wits) := ok_write_items T
  refine ab_ok T.F_write_string sc_write_string (fun ss M Q ⟨x, e, _⟩ => by subst e; rfl) fun cdv Ar outer s H E hr => ⟨_, (pss_one (ps_ret (pe_call G_write_items (hr.mono (by omega)) (by rfl) T.g_write_items T.F_write_items.kp T.b_write_items .nil pass0 (pa_cons (pe_lc (own := [("character", 1)]) rfl sc_write_string.nd (pi_str (pv 0)) (blkOk_by (own := [("character", 1)]) (N := ["text", "character"]) (sc := (defScope s_write_string)) (by decide +kernel)) (fun _ _ _ _ _ => (pg_name (i := 1) sc_write_string.nd rfl (Or.inl rfl))) (fun _ _ _ _ _ => pts_nil) (fun _ _ _ _ _ => (pe_lst (pa_cons (pe_callB call_ord (by rfl) T.n_ord (by decide +kernel) (pa_cons (pv 1) pa_nil)) pa_nil)))) pa_nil)))), ?_⟩
  rintro ss M Q ⟨z, rfl, _, hl, q⟩
  walk_at "k"
  show WS K _ [some (.str z), none] M _
  have hz : z.cps.toList.length ≤ 990000 := by
    have h1 := len_cL hl
    have h2 := len_flat1 (ps := z.cps.toList.map fun c : Nat => [(c : Int)]) fun p hp => by
      obtain ⟨c, _, rfl⟩ := List.mem_map.mp hp
      exact Nat.le_refl _
    rw [List.length_map] at h2
    omega
  walk_at "f"
  refine w_lcS (z := z) (M1 := M) (by decide) (w_var rfl ⟨rfl, rfl⟩) (by omega) (fun c => bsD [(c : Int)]) (fun c D o hc hD => ?_) ?_
  · walk_at "f"
    refine wl_ord rfl ?_
    walk_at "f"
    exact ⟨rfl, rfl⟩
  · walk_at "f"
    exact ⟨z.cps.toList.map fun c : Nat => [(c : Int)], by rw [List.map_map]; rfl, by rw [List.length_map]; omega, hl, q⟩
abbrev A_wval : ASp := A_w Val.enc Val.rd cV
theorem ok_write_value (T : Txt K mg a d) : FnOk P w K mg base CX0 4 a.write_value d.write_value ["value"] (conc K A_wval) := by
  have G_write_number : FnOk P w K mg base CX0 1 a.write_number d.write_number ["number"] (conc K A_wnum) := ok_write_number T
  have G_write_string : FnOk P w K mg base CX0 3 a.write_string d.write_string ["text"] (conc K A_wstr) := ok_write_string T
  refine ab_ok T.F_write_value sc_write_value (fun ss M Q ⟨x, e, _⟩ => by subst e; rfl) fun cdv Ar outer s H E hr => ⟨_, (pss_cons (ps_if (pt_val (pe_callB (r := rIsi K) call_isi (by rfl) T.n_isinstance (by decide +kernel) (pa_cons (pv 0) (pa_cons (pe_bltn (v := .ty "str") (u := .type "str") (by rfl) T.n_str (by decide +kernel) rfl) pa_nil)))) (pss_one (ps_ret (pe_op (r := rCatL K) op_catL (pe_lst (pa_cons pe_int pa_nil)) (pe_call G_write_string (hr.mono (by omega)) (by rfl) T.g_write_string T.F_write_string.kp T.b_write_string .nil pass0 (pa_cons (pv 0) pa_nil))))) pss_nil)
  (pss_one (ps_ret (pe_op (r := rCatL K) op_catL (pe_lst (pa_cons pe_int (pa_cons (pe_callTy (r := rInt1) call_int1 (by rfl) T.n_int (by decide +kernel) (pa_cons (pe_cmpR op_lt (pv 0) pe_int (nomark _)) pa_nil)) pa_nil))) (pe_call G_write_number (hr.mono (by omega)) (by rfl) T.g_write_number T.F_write_number.kp T.b_write_number .nil pass0 (pa_cons (pe_callB call_abs (by rfl) T.n_abs (by decide +kernel) (pa_cons (pv 0) pa_nil)) pa_nil)))))), ?_⟩
  rintro ss M Q ⟨v, rfl, hv, hl, q⟩
  walk_at "k"
  show WS K _ [some (.dat v.enc)] M _
  cases v with
  | int n =>
    show WS K _ [some (.int n)] M _
    have e : (if n < 0 then -n else n) = (n.natAbs : Int) := by split <;> omega
    walk_at "f"
    refine wl_abs ?_
    walk_at "f"
    rw [e]
    have hb : (n.natAbs : Int) < 128 ^ 60 := by
      have h1 : n.natAbs < 128 ^ 60 := hv
      omega
    refine ⟨_, rfl, by omega, hb, .inr ?_⟩
    have hl : ([0, if n < 0 then 1 else 0] ++ cN n.natAbs).length ≤ 990000 := hl
    rw [List.length_append] at hl
    refine w2_catE (by simp at hl ⊢; omega) ?_
    have e2 : (if decide (n < 0) = true then (1 : Int) else 0) = if n < 0 then 1 else 0 := by simp
    rw [e2]
    exact q
  | str z =>
    walk_at "f"
    have hl : ([1] ++ cS z).length ≤ 990000 := hl
    rw [List.length_append, List.length_singleton] at hl
    refine ⟨z, rfl, trivial, by omega, ?_⟩
    refine w2_catE (by rw [List.length_singleton]; omega) ?_
    exact q
abbrev A_wrow : ASp := A_w encR rdR cR
theorem len_in {ps : List (List Int)} {p : List Int} {m : Nat} (h : (cL ps).length ≤ m) (hp : p ∈ ps) : p.length ≤ m := by
  have h1 := len_cL h
  obtain ⟨x, y, rfl⟩ := List.append_of_mem hp
  rw [List.flatten_append, List.flatten_cons, List.length_append, List.length_append] at h1
  omega
theorem wits_of {α : Type} {code : α → List Int} {xs : List α} {M : MH} {Q : Sl → MH → Prop} (hl : xs.length ≤ 990000) (h : (cL (xs.map code)).length ≤ 990000) (q : Q (lsm .int (cL (xs.map code))) M) : A_wits [.dat (.list (xs.map fun x => bsD (code x)))] M Q :=
  ⟨xs.map code, by rw [List.map_map]; rfl, by rw [List.length_map]; exact hl, h, q⟩
theorem ok_write_row (T : Txt K mg a d) : FnOk P w K mg base CX0 5 a.write_row d.write_row ["row"] (conc K A_wrow) := by
  have G_write_items : FnOk P w K mg base CX0 2 a.write_items d.write_items ["written"] (conc K A_wits) := ok_write_items T
  have G_write_value : FnOk P w K mg base CX0 4 a.write_value d.write_value ["value"] (conc K A_wval) := ok_write_value T
  refine ab_ok T.F_write_row sc_write_row (fun ss M Q ⟨x, e, _⟩ => by subst e; rfl) fun cdv Ar outer s H E hr => ⟨_, (pss_one (ps_ret (pe_call G_write_items (hr.mono (by omega)) (by rfl) T.g_write_items T.F_write_items.kp T.b_write_items .nil pass0 (pa_cons (pe_lc (own := [("value", 1)]) rfl sc_write_row.nd (pi_tup (pv 0)) (blkOk_by (own := [("value", 1)]) (N := ["row", "value"]) (sc := (defScope s_write_row)) (by decide +kernel)) (fun _ _ _ _ _ => (pg_name (i := 1) sc_write_row.nd rfl (Or.inl rfl))) (fun _ _ _ _ _ => pts_nil) (fun _ _ _ _ _ => (pe_call G_write_value (hr.mono (by omega)) (by rfl) T.g_write_value T.F_write_value.kp T.b_write_value .nil pass0 (pa_cons (pv 1) pa_nil)))) pa_nil)))), ?_⟩
  rintro ss M Q ⟨row, rfl, hr, hl, q⟩
  walk_at "k"
  show WS K _ [some (.dat (encR row)), none] M _
  have h1000 := hr.1
  walk_at "f"
  refine w_lcT (xs := row) (enc := Val.enc) (M1 := M) (by decide) (w_var rfl ⟨rfl, rfl⟩) (by omega) (fun v => bsD (cV v)) (fun v D o hv hD => ?_) ?_
  · walk_at "f"
    exact ⟨v, rfl, hr.2 v hv, len_in hl (List.mem_map_of_mem hv), rfl, rfl⟩
  · walk_at "f"
    exact wits_of (by omega) hl q
abbrev A_wterm : ASp := A_w Term.enc Term.rd cT
theorem ok_write_term (T : Txt K mg a d) : FnOk P w K mg base CX0 5 a.write_term d.write_term ["term"] (conc K A_wterm) := by
  have G_write_string : FnOk P w K mg base CX0 3 a.write_string d.write_string ["text"] (conc K A_wstr) := ok_write_string T
  have G_write_value : FnOk P w K mg base CX0 4 a.write_value d.write_value ["value"] (conc K A_wval) := ok_write_value T
  refine ab_ok T.F_write_term sc_write_term (fun ss M Q ⟨x, e, _⟩ => by subst e; rfl) fun cdv Ar outer s H E hr => ?_
  have hu64 := hr.units
  refine ⟨_, (pss_cons (ps_set (i := 1) sc_write_term.nd rfl (Or.inl rfl) (pe_lst (pa_cons (pe_bm PySem.F.plainAttrs_tuple PySem.F.slot_tuple_index PySem.F.type_tuple_index (r := rTIndex K) mt_tup_index (pe_glob (v := .ref a.c_TERMS) (by rfl) T.c_TERMS rfl) (pa_cons (pe_ix (r := rIxT K) ix_tup (pv 0) pe_int (fun _ _ => rfl)) pa_nil)) pa_nil)))
  (pss_cons (ps_if (pt_cmpR (r := rEqD K) (op_eqD hu64) (pe_ix (r := rIxT K) ix_tup (pv 0) pe_int (fun _ _ => rfl)) pe_str (nomark _)) (pss_one (ps_ret (pe_op (r := rCatL K) op_catL (pv 1) (pe_call G_write_value (hr.mono (by omega)) (by rfl) T.g_write_value T.F_write_value.kp T.b_write_value .nil pass0 (pa_cons (pe_ix (r := rIxT K) ix_tup (pv 0) pe_int (fun _ _ => rfl)) pa_nil))))) pss_nil)
  (pss_cons (ps_if (pt_cmpR (r := rEqD K) (op_eqD hu64) (pe_ix (r := rIxT K) ix_tup (pv 0) pe_int (fun _ _ => rfl)) pe_str (nomark _)) (pss_one (ps_ret (pe_op (r := rCatL K) op_catL (pv 1) (pe_call G_write_string (hr.mono (by omega)) (by rfl) T.g_write_string T.F_write_string.kp T.b_write_string .nil pass0 (pa_cons (pe_ix (r := rIxT K) ix_tup (pv 0) pe_int (fun _ _ => rfl)) pa_nil))))) pss_nil)
  (pss_one (ps_ret (pv 1)))))), ?_⟩
  rintro ss M Q ⟨t, rfl, ht, hl, q⟩
  walk_at "k"
  show WS K _ [some (.dat t.enc), none] M _
  rcases t with _ | v | z
  · show WS K _ [some (.dat (.tuple [.str "any"])), none] M _
    refine ws_seq (ws_set (w_lstI (wa_cons (w_bm (w_raw ⟨ty_tupC T.k_TERMS, ?_⟩)))))
    walk_at "f"
    refine wm_tixM T.k_TERMS (by decide +kernel) ?_
    walk_at "f"
    refine ⟨_, rfl, ?_⟩
    walk_at "f"
    exact q
  · show WS K _ [some (.dat (.tuple [.str "value", v.enc])), none] M _
    have hl : ([0] ++ cV v).length ≤ 990000 := hl
    rw [List.length_append, List.length_singleton] at hl
    refine ws_seq (ws_set (w_lstI (wa_cons (w_bm (w_raw ⟨ty_tupC T.k_TERMS, ?_⟩)))))
    walk_at "f"
    refine wm_tixM T.k_TERMS (by decide +kernel) ?_
    walk_at "f"
    refine ⟨_, rfl, ?_⟩
    walk_at "f"
    refine ⟨v, rfl, ht, by omega, ?_⟩
    refine w2_catE (by rw [List.length_singleton]; omega) ?_
    exact q
  · show WS K _ [some (.dat (.tuple [.str "variable", .str z])), none] M _
    have hl : ([1] ++ cS z).length ≤ 990000 := hl
    rw [List.length_append, List.length_singleton] at hl
    refine ws_seq (ws_set (w_lstI (wa_cons (w_bm (w_raw ⟨ty_tupC T.k_TERMS, ?_⟩)))))
    walk_at "f"
    refine wm_tixM T.k_TERMS (by decide +kernel) ?_
    walk_at "f"
    refine ⟨_, rfl, ?_⟩
    walk_at "f"
    refine ⟨z, rfl, trivial, by omega, ?_⟩
    refine w2_catE (by rw [List.length_singleton]; omega) ?_
    exact q
abbrev A_wterms : ASp := A_w encT rdTs cTs
theorem ok_write_terms (T : Txt K mg a d) : FnOk P w K mg base CX0 6 a.write_terms d.write_terms ["terms"] (conc K A_wterms) := by
  have G_write_items : FnOk P w K mg base CX0 2 a.write_items d.write_items ["written"] (conc K A_wits) := ok_write_items T
  have G_write_term : FnOk P w K mg base CX0 5 a.write_term d.write_term ["term"] (conc K A_wterm) := ok_write_term T
  refine ab_ok T.F_write_terms sc_write_terms (fun ss M Q ⟨x, e, _⟩ => by subst e; rfl) fun cdv Ar outer s H E hr => ⟨_, (pss_one (ps_ret (pe_call G_write_items (hr.mono (by omega)) (by rfl) T.g_write_items T.F_write_items.kp T.b_write_items .nil pass0 (pa_cons (pe_lc (own := [("term", 1)]) rfl sc_write_terms.nd (pi_tup (pv 0)) (blkOk_by (own := [("term", 1)]) (N := ["terms", "term"]) (sc := (defScope s_write_terms)) (by decide +kernel)) (fun _ _ _ _ _ => (pg_name (i := 1) sc_write_terms.nd rfl (Or.inl rfl))) (fun _ _ _ _ _ => pts_nil) (fun _ _ _ _ _ => (pe_call G_write_term (hr.mono (by omega)) (by rfl) T.g_write_term T.F_write_term.kp T.b_write_term .nil pass0 (pa_cons (pv 1) pa_nil)))) pa_nil)))), ?_⟩
  rintro ss M Q ⟨ts, rfl, ht, hl, q⟩
  walk_at "k"
  show WS K _ [some (.dat (encT ts)), none] M _
  have h1000 := ht.1
  walk_at "f"
  refine w_lcT (xs := ts) (enc := Term.enc) (M1 := M) (by decide) (w_var rfl ⟨rfl, rfl⟩) (by omega) (fun v => bsD (cT v)) (fun v D o hv hD => ?_) ?_
  · walk_at "f"
    exact ⟨v, rfl, ht.2 v hv, len_in hl (List.mem_map_of_mem hv), rfl, rfl⟩
  · walk_at "f"
    exact wits_of (by omega) hl q
end
end
section
section
variable {P : Program} {w : World} {K : PySem.W.Frag} {mg : Str → Option Value} {base : Heap} {a : AD} {d : FD}
abbrev A_wlit : ASp := A_w Lit.enc Lit.rd cLit
theorem ok_write_literal (T : Txt K mg a d) : FnOk P w K mg base CX0 7 a.write_literal d.write_literal ["literal"] (conc K A_wlit) := by
  have G_write_string : FnOk P w K mg base CX0 3 a.write_string d.write_string ["text"] (conc K A_wstr) := ok_write_string T
  have G_write_term : FnOk P w K mg base CX0 5 a.write_term d.write_term ["term"] (conc K A_wterm) := ok_write_term T
  have G_write_terms : FnOk P w K mg base CX0 6 a.write_terms d.write_terms ["terms"] (conc K A_wterms) := ok_write_terms T
  refine ab_ok T.F_write_literal sc_write_literal (fun ss M Q ⟨x, e, _⟩ => by subst e; rfl) fun cdv Ar outer s H E hr => ?_
  have hu64 := hr.units
  refine ⟨_, (pss_cons (ps_set (i := 1) sc_write_literal.nd rfl (Or.inl rfl) (pe_lst (pa_cons (pe_bm PySem.F.plainAttrs_tuple PySem.F.slot_tuple_index PySem.F.type_tuple_index (r := rTIndex K) mt_tup_index (pe_glob (v := .ref a.c_LITERALS) (by rfl) T.c_LITERALS rfl) (pa_cons (pe_ix (r := rIxT K) ix_tup (pv 0) pe_int (fun _ _ => rfl)) pa_nil)) pa_nil)))
  (pss_cons (ps_if (pt_cmpR (r := rEqD K) (op_eqD hu64) (pe_ix (r := rIxT K) ix_tup (pv 0) pe_int (fun _ _ => rfl)) pe_str (nomark _)) (pss_cons (ps_asg (pv 0) (pg_tupK (K := K) (n := 4) rfl rfl (pgs_cons (pg_name (i := 2) sc_write_literal.nd rfl (Or.inl rfl)) (pgs_cons (pg_name (i := 3) sc_write_literal.nd rfl (Or.inl rfl)) (pgs_cons (pg_name (i := 4) sc_write_literal.nd rfl (Or.inl rfl)) (pgs_cons (pg_name (i := 5) sc_write_literal.nd rfl (Or.inl rfl)) pgs_nil))))))
  (pss_one (ps_ret (pe_op (r := rCatL K) op_catL (pe_op (r := rCatL K) op_catL (pe_op (r := rCatL K) op_catL (pv 1) (pe_lst (pa_cons (pe_bm PySem.F.plainAttrs_tuple PySem.F.slot_tuple_index PySem.F.type_tuple_index (r := rTIndex K) mt_tup_index (pe_glob (v := .ref a.c_COMPARISONS) (by rfl) T.c_COMPARISONS rfl) (pa_cons (pv 3) pa_nil)) pa_nil))) (pe_call G_write_term (hr.mono (by omega)) (by rfl) T.g_write_term T.F_write_term.kp T.b_write_term .nil pass0 (pa_cons (pv 4) pa_nil))) (pe_call G_write_term (hr.mono (by omega)) (by rfl) T.g_write_term T.F_write_term.kp T.b_write_term .nil pass0 (pa_cons (pv 5) pa_nil)))))) pss_nil)
  (pss_cons (ps_if (pt_cmpR (r := rEqD K) (op_eqD hu64) (pe_ix (r := rIxT K) ix_tup (pv 0) pe_int (fun _ _ => rfl)) pe_str (nomark _)) (pss_cons (ps_asg (pv 0) (pg_tupK (K := K) (n := 5) rfl rfl (pgs_cons (pg_name (i := 2) sc_write_literal.nd rfl (Or.inl rfl)) (pgs_cons (pg_name (i := 6) sc_write_literal.nd rfl (Or.inl rfl)) (pgs_cons (pg_name (i := 3) sc_write_literal.nd rfl (Or.inl rfl)) (pgs_cons (pg_name (i := 4) sc_write_literal.nd rfl (Or.inl rfl)) (pgs_cons (pg_name (i := 5) sc_write_literal.nd rfl (Or.inl rfl)) pgs_nil)))))))
  (pss_one (ps_ret (pe_op (r := rCatL K) op_catL (pe_op (r := rCatL K) op_catL (pe_op (r := rCatL K) op_catL (pe_op (r := rCatL K) op_catL (pv 1) (pe_call G_write_string (hr.mono (by omega)) (by rfl) T.g_write_string T.F_write_string.kp T.b_write_string .nil pass0 (pa_cons (pv 6) pa_nil))) (pe_lst (pa_cons (pe_bm PySem.F.plainAttrs_tuple PySem.F.slot_tuple_index PySem.F.type_tuple_index (r := rTIndex K) mt_tup_index (pe_glob (v := .ref a.c_OPERATORS) (by rfl) T.c_OPERATORS rfl) (pa_cons (pv 3) pa_nil)) pa_nil))) (pe_call G_write_term (hr.mono (by omega)) (by rfl) T.g_write_term T.F_write_term.kp T.b_write_term .nil pass0 (pa_cons (pv 4) pa_nil))) (pe_call G_write_term (hr.mono (by omega)) (by rfl) T.g_write_term T.F_write_term.kp T.b_write_term .nil pass0 (pa_cons (pv 5) pa_nil)))))) pss_nil)
  (pss_cons (ps_for PassesOwn.never rfl (pi_tup (pe_slice (r := rSlA K) sl_tupA (pv 0) (po_some pe_int) (po_some (pe_un un_neg pe_int)))) (pg_name (i := 7) sc_write_literal.nd rfl (Or.inl rfl)) (pss_one (ps_expr (pe_bm PySem.F.plainAttrs_list PySem.F.slot_list_extend PySem.F.type_list_extend mt_extend (pv 1) (pa_cons (pe_call G_write_string (hr.mono (by omega)) (by rfl) T.g_write_string T.F_write_string.kp T.b_write_string .nil pass0 (pa_cons (pv 7) pa_nil)) pa_nil)))))
  (pss_one (ps_ret (pe_op (r := rCatL K) op_catL (pv 1) (pe_call G_write_terms (hr.mono (by omega)) (by rfl) T.g_write_terms T.F_write_terms.kp T.b_write_terms .nil pass0 (pa_cons (pe_ix (r := rIxT K) ix_tup (pv 0) (pe_un un_neg pe_int) (fun _ _ => rfl)) pa_nil))))))))), ?_⟩
  rintro ss M Q ⟨l, rfl, ht, hl, q⟩
  walk_at "k"
  show WS K _ [some (.dat l.enc), none, none, none, none, none, none, none] M _
  cases l with
  | fact r ts =>
    have hl : ([0] ++ cS r ++ cTs ts).length ≤ 990000 := hl
    simp only [List.length_append, List.length_singleton] at hl
    show WS K _ [some (.dat (.tuple [.str "fact", .str r, encT ts])), none, none, none, none, none, none, none] M _
    refine ws_seq (ws_set (w_lstM (wa_cons (w_bm (w_raw ⟨ty_tupC T.k_LITERALS, ?_⟩)))))
    walk_at "f"
    refine wm_tixN 0 T.k_LITERALS (by decide +kernel) ?_
    walk_at "f"
    intro L hL
    show WS K _ [some (.dat (.tuple [.str "fact", .str r, encT ts])), some (.raw (.ref L)), none, none, none, none, none, none] (um M L (.lst (bys [0]))) _
    walk_at "f"
    refine ws_seq (ws_for (wi_tup ?_))
    walk_at "f"
    refine ⟨[.str r], ⟨_, rfl, rfl⟩, fun i ρ' M' => ∃ z, ρ' = [some (.dat (.tuple [.str "fact", .str r, encT ts])), some (.raw (.ref L)), none, none, none, none, none, z] ∧ M' = um M L (.lst (bys ([0] ++ (([r].take i).map cS).flatten))), ⟨none, rfl, rfl⟩, fun _ _ _ _ _ => trivial, ?_, ?_⟩
    · rintro i ρ' M' hi ⟨z, rfl, rfl⟩
      refine wg_name ?_
      obtain rfl : i = 0 := by simp at hi; omega
      all_goals (
        walk_at "f"
        refine w_bm ?_
        walk_at "f"
        refine ⟨ty_lst (lsv_ref um_same), ?_⟩
        walk_at "f"
        refine ⟨_, rfl, trivial, by omega, ?_⟩
        walk_at "f"
        refine wm_extendD um_same (by simp; omega) ?_
        walk_at "f"
        refine ⟨_, rfl, ?_⟩
        rw [um_um, ← bys_app]
        simp)
    · rintro ρ' M' ⟨z, rfl, rfl⟩
      refine ws_next ?_
      walk_at "f"
      refine ⟨ts, rfl, ht.2, by omega, ?_⟩
      refine w2_dropA L (w2_cat (ds := ([0] ++ (([r] : List Str).map cS).flatten).map .int) (lsv_ref um_same) lsv_dat (by simp; omega) ?_)
      rw [del_um hL, ← List.map_append]
      have e : [0] ++ (([r] : List Str).map cS).flatten ++ cTs ts = cLit (.fact r ts) := by simp [cLit]
      rw [e]
      exact q
  | neg r ts =>
    have hl : ([1] ++ cS r ++ cTs ts).length ≤ 990000 := hl
    simp only [List.length_append, List.length_singleton] at hl
    show WS K _ [some (.dat (.tuple [.str "not", .str r, encT ts])), none, none, none, none, none, none, none] M _
    refine ws_seq (ws_set (w_lstM (wa_cons (w_bm (w_raw ⟨ty_tupC T.k_LITERALS, ?_⟩)))))
    walk_at "f"
    refine wm_tixN 1 T.k_LITERALS (by decide +kernel) ?_
    walk_at "f"
    intro L hL
    show WS K _ [some (.dat (.tuple [.str "not", .str r, encT ts])), some (.raw (.ref L)), none, none, none, none, none, none] (um M L (.lst (bys [1]))) _
    walk_at "f"
    refine ws_seq (ws_for (wi_tup ?_))
    walk_at "f"
    refine ⟨[.str r], ⟨_, rfl, rfl⟩, fun i ρ' M' => ∃ z, ρ' = [some (.dat (.tuple [.str "not", .str r, encT ts])), some (.raw (.ref L)), none, none, none, none, none, z] ∧ M' = um M L (.lst (bys ([1] ++ (([r].take i).map cS).flatten))), ⟨none, rfl, rfl⟩, fun _ _ _ _ _ => trivial, ?_, ?_⟩
    · rintro i ρ' M' hi ⟨z, rfl, rfl⟩
      refine wg_name ?_
      obtain rfl : i = 0 := by simp at hi; omega
      all_goals (
        walk_at "f"
        refine w_bm ?_
        walk_at "f"
        refine ⟨ty_lst (lsv_ref um_same), ?_⟩
        walk_at "f"
        refine ⟨_, rfl, trivial, by omega, ?_⟩
        walk_at "f"
        refine wm_extendD um_same (by simp; omega) ?_
        walk_at "f"
        refine ⟨_, rfl, ?_⟩
        rw [um_um, ← bys_app]
        simp)
    · rintro ρ' M' ⟨z, rfl, rfl⟩
      refine ws_next ?_
      walk_at "f"
      refine ⟨ts, rfl, ht.2, by omega, ?_⟩
      refine w2_dropA L (w2_cat (ds := ([1] ++ (([r] : List Str).map cS).flatten).map .int) (lsv_ref um_same) lsv_dat (by simp; omega) ?_)
      rw [del_um hL, ← List.map_append]
      have e : [1] ++ (([r] : List Str).map cS).flatten ++ cTs ts = cLit (.neg r ts) := by simp [cLit]
      rw [e]
      exact q
  | count x r ts =>
    have hl : ([4] ++ cS x ++ cS r ++ cTs ts).length ≤ 990000 := hl
    simp only [List.length_append, List.length_singleton] at hl
    show WS K _ [some (.dat (.tuple [.str "count", .str x, .str r, encT ts])), none, none, none, none, none, none, none] M _
    refine ws_seq (ws_set (w_lstM (wa_cons (w_bm (w_raw ⟨ty_tupC T.k_LITERALS, ?_⟩)))))
    walk_at "f"
    refine wm_tixN 4 T.k_LITERALS (by decide +kernel) ?_
    walk_at "f"
    intro L hL
    show WS K _ [some (.dat (.tuple [.str "count", .str x, .str r, encT ts])), some (.raw (.ref L)), none, none, none, none, none, none] (um M L (.lst (bys [4]))) _
    walk_at "f"
    refine ws_seq (ws_for (wi_tup ?_))
    walk_at "f"
    refine ⟨[.str x, .str r], ⟨_, rfl, rfl⟩, fun i ρ' M' => ∃ z, ρ' = [some (.dat (.tuple [.str "count", .str x, .str r, encT ts])), some (.raw (.ref L)), none, none, none, none, none, z] ∧ M' = um M L (.lst (bys ([4] ++ (([x, r].take i).map cS).flatten))), ⟨none, rfl, rfl⟩, fun _ _ _ _ _ => trivial, ?_, ?_⟩
    · rintro i ρ' M' hi ⟨z, rfl, rfl⟩
      refine wg_name ?_
      obtain rfl | rfl : i = 0 ∨ i = 1 := by simp at hi; omega
      all_goals (
        walk_at "f"
        refine w_bm ?_
        walk_at "f"
        refine ⟨ty_lst (lsv_ref um_same), ?_⟩
        walk_at "f"
        refine ⟨_, rfl, trivial, by omega, ?_⟩
        walk_at "f"
        refine wm_extendD um_same (by simp; omega) ?_
        walk_at "f"
        refine ⟨_, rfl, ?_⟩
        rw [um_um, ← bys_app]
        simp)
    · rintro ρ' M' ⟨z, rfl, rfl⟩
      refine ws_next ?_
      walk_at "f"
      refine ⟨ts, rfl, ht.2.2, by omega, ?_⟩
      refine w2_dropA L (w2_cat (ds := ([4] ++ (([x, r] : List Str).map cS).flatten).map .int) (lsv_ref um_same) lsv_dat (by simp; omega) ?_)
      rw [del_um hL, ← List.map_append]
      have e : [4] ++ (([x, r] : List Str).map cS).flatten ++ cTs ts = cLit (.count x r ts) := by simp [cLit]
      rw [e]
      exact q
  | compare op s t =>
    have hl : ([2, (opsC.idxOf op : Int)] ++ cT s ++ cT t).length ≤ 990000 := hl
    simp only [List.length_append, List.length_singleton, List.length_cons, List.length_nil] at hl
    show WS K _ [some (.dat (.tuple [.str "compare", .str op, s.enc, t.enc])), none, none, none, none, none, none, none] M _
    refine ws_seq (ws_set (w_lstI (wa_cons (w_bm (w_raw ⟨ty_tupC T.k_LITERALS, ?_⟩)))))
    walk_at "f"
    refine wm_tixN 2 T.k_LITERALS (by decide +kernel) ?_
    walk_at "f"
    refine ⟨_, rfl, ?_⟩
    walk_at "f"
    refine ws_asg ?_
    walk_at "f"
    refine wg_tup rfl rfl (wgs_cons (wg_name (wgs_cons (wg_name (wgs_cons (wg_name (wgs_cons (wg_name (wgs_nil ?_)))))))))
    refine ws_ret (w_op (w_op (w_op (w_var rfl (w_lstI (wa_cons (w_bm (w_raw ⟨ty_tupC T.k_COMPARISONS, ?_⟩))))))))
    walk_at "f"
    refine wm_tixM (ys := opsC) T.k_COMPARISONS ht.1 ?_
    walk_at "f"
    refine ⟨_, rfl, ?_⟩
    walk_at "f"
    refine ⟨s, rfl, ht.2.1, by omega, ?_⟩
    refine w2_catE (by simp; omega) ?_
    walk_at "f"
    refine ⟨t, rfl, ht.2.2, by omega, ?_⟩
    refine w2_catE (by simp; omega) ?_
    exact q
  | is x op s t =>
    have hl : ([3] ++ cS x ++ [(opsI.idxOf op : Int)] ++ cT s ++ cT t).length ≤ 990000 := hl
    simp only [List.length_append, List.length_singleton] at hl
    show WS K _ [some (.dat (.tuple [.str "is", .str x, .str op, s.enc, t.enc])), none, none, none, none, none, none, none] M _
    refine ws_seq (ws_set (w_lstI (wa_cons (w_bm (w_raw ⟨ty_tupC T.k_LITERALS, ?_⟩)))))
    walk_at "f"
    refine wm_tixN 3 T.k_LITERALS (by decide +kernel) ?_
    walk_at "f"
    refine ⟨_, rfl, ?_⟩
    walk_at "f"
    refine ws_asg ?_
    walk_at "f"
    refine wg_tup rfl rfl (wgs_cons (wg_name (wgs_cons (wg_name (wgs_cons (wg_name (wgs_cons (wg_name (wgs_cons (wg_name (wgs_nil ?_)))))))))))
    walk_at "f"
    refine ⟨x, rfl, trivial, by omega, ?_⟩
    refine w2_catE (by simp; omega) ?_
    refine w_lstI (wa_cons (w_bm (w_raw ⟨ty_tupC T.k_OPERATORS, ?_⟩)))
    walk_at "f"
    refine wm_tixM (ys := opsI) T.k_OPERATORS ht.2.1 ?_
    walk_at "f"
    refine ⟨_, rfl, ?_⟩
    walk_at "f"
    refine ⟨s, rfl, ht.2.2.1, by omega, ?_⟩
    refine w2_catE (by simp; omega) ?_
    walk_at "f"
    refine ⟨t, rfl, ht.2.2.2, by omega, ?_⟩
    refine w2_catE (by simp; omega) ?_
    exact q
abbrev A_wbody : ASp := A_w encB rdB cB
theorem ok_write_body (T : Txt K mg a d) : FnOk P w K mg base CX0 8 a.write_body d.write_body ["body"] (conc K A_wbody) := by
  have G_write_items : FnOk P w K mg base CX0 2 a.write_items d.write_items ["written"] (conc K A_wits) := ok_write_items T
  have G_write_literal : FnOk P w K mg base CX0 7 a.write_literal d.write_literal ["literal"] (conc K A_wlit) := ok_write_literal T
  refine ab_ok T.F_write_body sc_write_body (fun ss M Q ⟨x, e, _⟩ => by subst e; rfl) fun cdv Ar outer s H E hr => ⟨_, (pss_one (ps_ret (pe_call G_write_items (hr.mono (by omega)) (by rfl) T.g_write_items T.F_write_items.kp T.b_write_items .nil pass0 (pa_cons (pe_lc (own := [("literal", 1)]) rfl sc_write_body.nd (pi_tup (pv 0)) (blkOk_by (own := [("literal", 1)]) (N := ["body", "literal"]) (sc := (defScope s_write_body)) (by decide +kernel)) (fun _ _ _ _ _ => (pg_name (i := 1) sc_write_body.nd rfl (Or.inl rfl))) (fun _ _ _ _ _ => pts_nil) (fun _ _ _ _ _ => (pe_call G_write_literal (hr.mono (by omega)) (by rfl) T.g_write_literal T.F_write_literal.kp T.b_write_literal .nil pass0 (pa_cons (pv 1) pa_nil)))) pa_nil)))), ?_⟩
  rintro ss M Q ⟨ts, rfl, ht, hl, q⟩
  walk_at "k"
  show WS K _ [some (.dat (encB ts)), none] M _
  have h1000 := ht.1
  walk_at "f"
  refine w_lcT (xs := ts) (enc := Lit.enc) (M1 := M) (by decide) (w_var rfl ⟨rfl, rfl⟩) (by omega) (fun v => bsD (cLit v)) (fun v D o hv hD => ?_) ?_
  · walk_at "f"
    exact ⟨v, rfl, ht.2 v hv, len_in hl (List.mem_map_of_mem hv), rfl, rfl⟩
  · walk_at "f"
    exact wits_of (by omega) hl q
abbrev A_witem : ASp := A_w Item.enc Item.rd cI
theorem ok_write_item (T : Txt K mg a d) : FnOk P w K mg base CX0 9 a.write_item d.write_item ["item"] (conc K A_witem) := by
  have G_write_number : FnOk P w K mg base CX0 1 a.write_number d.write_number ["number"] (conc K A_wnum) := ok_write_number T
  have G_write_string : FnOk P w K mg base CX0 3 a.write_string d.write_string ["text"] (conc K A_wstr) := ok_write_string T
  have G_write_row : FnOk P w K mg base CX0 5 a.write_row d.write_row ["row"] (conc K A_wrow) := ok_write_row T
  have G_write_terms : FnOk P w K mg base CX0 6 a.write_terms d.write_terms ["terms"] (conc K A_wterms) := ok_write_terms T
  have G_write_body : FnOk P w K mg base CX0 8 a.write_body d.write_body ["body"] (conc K A_wbody) := ok_write_body T
  refine ab_ok T.F_write_item sc_write_item (fun ss M Q ⟨x, e, _⟩ => by subst e; rfl) fun cdv Ar outer s H E hr => ?_
  have hu64 := hr.units
  refine ⟨_, (pss_cons (ps_set (i := 1) sc_write_item.nd rfl (Or.inl rfl) (pe_op (r := rCatL K) op_catL (pe_lst (pa_cons (pe_bm PySem.F.plainAttrs_tuple PySem.F.slot_tuple_index PySem.F.type_tuple_index (r := rTIndex K) mt_tup_index (pe_glob (v := .ref a.c_WORDS) (by rfl) T.c_WORDS rfl) (pa_cons (pe_ix (r := rIxT K) ix_tup (pv 0) pe_int (fun _ _ => rfl)) pa_nil)) pa_nil)) (pe_call G_write_string (hr.mono (by omega)) (by rfl) T.g_write_string T.F_write_string.kp T.b_write_string .nil pass0 (pa_cons (pe_ix (r := rIxT K) ix_tup (pv 0) pe_int (fun _ _ => rfl)) pa_nil))))
  (pss_cons (ps_if (pt_cmpR (r := rEqD K) (op_eqD hu64) (pe_ix (r := rIxT K) ix_tup (pv 0) pe_int (fun _ _ => rfl)) pe_str (nomark _)) (pss_one (ps_ret (pe_op (r := rCatL K) op_catL (pv 1) (pe_call G_write_number (hr.mono (by omega)) (by rfl) T.g_write_number T.F_write_number.kp T.b_write_number .nil pass0 (pa_cons (pe_ix (r := rIxT K) ix_tup (pv 0) pe_int (fun _ _ => rfl)) pa_nil))))) pss_nil)
  (pss_cons (ps_if (pt_cmpR (r := rEqD K) (op_eqD hu64) (pe_ix (r := rIxT K) ix_tup (pv 0) pe_int (fun _ _ => rfl)) pe_str (nomark _)) (pss_one (ps_ret (pe_op (r := rCatL K) op_catL (pv 1) (pe_call G_write_row (hr.mono (by omega)) (by rfl) T.g_write_row T.F_write_row.kp T.b_write_row .nil pass0 (pa_cons (pe_ix (r := rIxT K) ix_tup (pv 0) pe_int (fun _ _ => rfl)) pa_nil))))) pss_nil)
  (pss_cons (ps_if (pt_cmpR (r := rEqD K) (op_eqD hu64) (pe_ix (r := rIxT K) ix_tup (pv 0) pe_int (fun _ _ => rfl)) pe_str (nomark _)) (pss_one (ps_ret (pe_op (r := rCatL K) op_catL (pe_op (r := rCatL K) op_catL (pe_op (r := rCatL K) op_catL (pv 1) (pe_call G_write_string (hr.mono (by omega)) (by rfl) T.g_write_string T.F_write_string.kp T.b_write_string .nil pass0 (pa_cons (pe_ix (r := rIxT K) ix_tup (pv 0) pe_int (fun _ _ => rfl)) pa_nil))) (pe_call G_write_terms (hr.mono (by omega)) (by rfl) T.g_write_terms T.F_write_terms.kp T.b_write_terms .nil pass0 (pa_cons (pe_ix (r := rIxT K) ix_tup (pv 0) pe_int (fun _ _ => rfl)) pa_nil))) (pe_call G_write_body (hr.mono (by omega)) (by rfl) T.g_write_body T.F_write_body.kp T.b_write_body .nil pass0 (pa_cons (pe_ix (r := rIxT K) ix_tup (pv 0) pe_int (fun _ _ => rfl)) pa_nil))))) pss_nil)
  (pss_one (ps_ret (pe_op (r := rCatL K) op_catL (pv 1) (pe_call G_write_body (hr.mono (by omega)) (by rfl) T.g_write_body T.F_write_body.kp T.b_write_body .nil pass0 (pa_cons (pe_ix (r := rIxT K) ix_tup (pv 0) pe_int (fun _ _ => rfl)) pa_nil))))))))), ?_⟩
  rintro ss M Q ⟨it, rfl, ht, hl, q⟩
  walk_at "k"
  show WS K _ [some (.dat it.enc), none] M _
  rcases it with ⟨n, wd⟩ | ⟨n, row⟩ | ⟨n, r, ts, b⟩ | ⟨n, b⟩
  · have hl : ([0] ++ cS n ++ cN wd).length ≤ 990000 := hl
    simp only [List.length_append, List.length_singleton] at hl
    show WS K _ [some (.dat (.tuple [.str "relation", .str n, .int wd])), none] M _
    refine ws_seq (ws_set (w_op (w_lstI (wa_cons (w_bm (w_raw ⟨ty_tupC T.k_WORDS, ?_⟩))))))
    walk_at "f"
    refine wm_tixN 0 T.k_WORDS (by decide +kernel) ?_
    walk_at "f"
    refine ⟨_, rfl, ?_⟩
    walk_at "f"
    refine ⟨n, rfl, trivial, by omega, ?_⟩
    refine w2_catE (by simp; omega) ?_
    walk_at "f"
    refine ⟨wd, rfl, ht.2.1, ht.2.2, .inr ?_⟩
    refine w2_catE (by simp; omega) ?_
    exact q
  · have hl : ([1] ++ cS n ++ cR row).length ≤ 990000 := hl
    simp only [List.length_append, List.length_singleton] at hl
    show WS K _ [some (.dat (.tuple [.str "fact", .str n, encR row])), none] M _
    refine ws_seq (ws_set (w_op (w_lstI (wa_cons (w_bm (w_raw ⟨ty_tupC T.k_WORDS, ?_⟩))))))
    walk_at "f"
    refine wm_tixN 1 T.k_WORDS (by decide +kernel) ?_
    walk_at "f"
    refine ⟨_, rfl, ?_⟩
    walk_at "f"
    refine ⟨n, rfl, trivial, by omega, ?_⟩
    refine w2_catE (by simp; omega) ?_
    walk_at "f"
    refine ⟨row, rfl, ht.2, by omega, ?_⟩
    refine w2_catE (by simp; omega) ?_
    exact q
  · have hl : ([2] ++ cS n ++ cS r ++ cTs ts ++ cB b).length ≤ 990000 := hl
    simp only [List.length_append, List.length_singleton] at hl
    show WS K _ [some (.dat (.tuple [.str "rule", .str n, .str r, encT ts, encB b])), none] M _
    refine ws_seq (ws_set (w_op (w_lstI (wa_cons (w_bm (w_raw ⟨ty_tupC T.k_WORDS, ?_⟩))))))
    walk_at "f"
    refine wm_tixN 2 T.k_WORDS (by decide +kernel) ?_
    walk_at "f"
    refine ⟨_, rfl, ?_⟩
    walk_at "f"
    refine ⟨n, rfl, trivial, by omega, ?_⟩
    refine w2_catE (by simp; omega) ?_
    walk_at "f"
    refine ⟨r, rfl, trivial, by omega, ?_⟩
    refine w2_catE (by simp; omega) ?_
    walk_at "f"
    refine ⟨ts, rfl, ht.2.2.1, by omega, ?_⟩
    refine w2_catE (by simp; omega) ?_
    walk_at "f"
    refine ⟨b, rfl, ht.2.2.2, by omega, ?_⟩
    refine w2_catE (by simp; omega) ?_
    exact q
  · have hl : ([3] ++ cS n ++ cB b).length ≤ 990000 := hl
    simp only [List.length_append, List.length_singleton] at hl
    show WS K _ [some (.dat (.tuple [.str "denial", .str n, encB b])), none] M _
    refine ws_seq (ws_set (w_op (w_lstI (wa_cons (w_bm (w_raw ⟨ty_tupC T.k_WORDS, ?_⟩))))))
    walk_at "f"
    refine wm_tixN 3 T.k_WORDS (by decide +kernel) ?_
    walk_at "f"
    refine ⟨_, rfl, ?_⟩
    walk_at "f"
    refine ⟨n, rfl, trivial, by omega, ?_⟩
    refine w2_catE (by simp; omega) ?_
    walk_at "f"
    refine ⟨b, rfl, ht.2, by omega, ?_⟩
    refine w2_catE (by simp; omega) ?_
    exact q
end
end
section
section
variable {P : Program} {w : World} {K : PySem.W.Frag} {mg : Str → Option Value} {base : Heap} {a : AD} {d : FD}
abbrev A_wchg : ASp := A_w Chk.enc Chk.rd cC
theorem ok_write_change (T : Txt K mg a d) : FnOk P w K mg base CX0 10 a.write_change d.write_change ["change"] (conc K A_wchg) := by
  have G_write_string : FnOk P w K mg base CX0 3 a.write_string d.write_string ["text"] (conc K A_wstr) := ok_write_string T
  have G_write_row : FnOk P w K mg base CX0 5 a.write_row d.write_row ["row"] (conc K A_wrow) := ok_write_row T
  have G_write_item : FnOk P w K mg base CX0 9 a.write_item d.write_item ["item"] (conc K A_witem) := ok_write_item T
  refine ab_ok T.F_write_change sc_write_change (fun ss M Q ⟨x, e, _⟩ => by subst e; rfl) fun cdv Ar outer s H E hr => ?_
  have hu64 := hr.units
  refine ⟨_, (pss_cons (ps_asg (pv 0) (pg_tupK (K := K) (n := 2) rfl rfl (pgs_cons (pg_name (i := 1) sc_write_change.nd rfl (Or.inl rfl)) (pgs_cons (pg_name (i := 2) sc_write_change.nd rfl (Or.inl rfl)) pgs_nil))))
  (pss_cons (ps_if (pt_cmpR (r := rEqD K) (op_eqD hu64) (pv 1) pe_str (nomark _)) (pss_one (ps_ret (pe_op (r := rCatL K) op_catL (pe_lst (pa_cons pe_int pa_nil)) (pe_call G_write_item (hr.mono (by omega)) (by rfl) T.g_write_item T.F_write_item.kp T.b_write_item .nil pass0 (pa_cons (pv 2) pa_nil))))) pss_nil)
  (pss_cons (ps_asg (pv 2) (pg_tupK (K := K) (n := 3) rfl rfl (pgs_cons (pg_name (i := 3) sc_write_change.nd rfl (Or.inl rfl)) (pgs_cons (pg_name (i := 4) sc_write_change.nd rfl (Or.inl rfl)) (pgs_cons (pg_name (i := 5) sc_write_change.nd rfl (Or.inl rfl)) pgs_nil)))))
  (pss_one (ps_ret (pe_op (r := rCatL K) op_catL (pe_op (r := rCatL K) op_catL (pe_lst (pa_cons pe_int (pa_cons (pv 3) pa_nil))) (pe_call G_write_string (hr.mono (by omega)) (by rfl) T.g_write_string T.F_write_string.kp T.b_write_string .nil pass0 (pa_cons (pv 4) pa_nil))) (pe_call G_write_row (hr.mono (by omega)) (by rfl) T.g_write_row T.F_write_row.kp T.b_write_row .nil pass0 (pa_cons (pv 5) pa_nil)))))))), ?_⟩
  rintro ss M Q ⟨c, rfl, hc, hl, q⟩
  walk_at "k"
  show WS K _ [some (.dat c.enc), none, none, none, none, none] M _
  cases c with
  | comes it =>
    have hl : ([0] ++ cI it).length ≤ 990000 := hl
    simp only [List.length_append, List.length_singleton] at hl
    show WS K _ [some (.dat (.tuple [.str "comes", it.enc])), none, none, none, none, none] M _
    refine ws_seq (ws_asg (w_var rfl (wg_tup rfl rfl (wgs_cons (wg_name (wgs_cons (wg_name (wgs_nil ?_))))))))
    walk_at "f"
    refine ⟨it, rfl, hc, by omega, ?_⟩
    refine w2_catE (by simp; omega) ?_
    exact q
  | goes k =>
    have hl : ([1, k.s] ++ cS k.n ++ cR k.row).length ≤ 990000 := hl
    simp only [List.length_append, List.length_cons, List.length_nil] at hl
    show WS K _ [some (.dat (.tuple [.str "goes", .tuple [.int k.s, .str k.n, encR k.row]])), none, none, none, none, none] M _
    refine ws_seq (ws_asg (w_var rfl (wg_tup rfl rfl (wgs_cons (wg_name (wgs_cons (wg_name (wgs_nil ?_))))))))
    walk_at "f"
    refine ws_seq (ws_asg ?_)
    walk_at "f"
    refine wg_tup rfl rfl (wgs_cons (wg_name (wgs_cons (wg_name (wgs_cons (wg_name (wgs_nil ?_)))))))
    walk_at "f"
    refine ⟨k.n, rfl, trivial, by omega, ?_⟩
    refine w2_catE (by simp; omega) ?_
    walk_at "f"
    refine ⟨k.row, rfl, hc.2.2.2, by omega, ?_⟩
    refine w2_catE (by simp; omega) ?_
    exact q
abbrev encCs (cs : List Chk) : PyData := .list (cs.map Chk.enc)
abbrev A_wchgs : ASp := A_w encCs (rdL Chk.rd) cCs
theorem ok_write_changes (T : Txt K mg a d) : FnOk P w K mg base CX0 11 a.write_changes d.write_changes ["changes"] (conc K A_wchgs) := by
  have G_write_items : FnOk P w K mg base CX0 2 a.write_items d.write_items ["written"] (conc K A_wits) := ok_write_items T
  have G_write_change : FnOk P w K mg base CX0 10 a.write_change d.write_change ["change"] (conc K A_wchg) := ok_write_change T
  refine ab_ok T.F_write_changes sc_write_changes (fun ss M Q ⟨x, e, _⟩ => by subst e; rfl) fun cdv Ar outer s H E hr => ⟨_, (pss_one (ps_ret (pe_call G_write_items (hr.mono (by omega)) (by rfl) T.g_write_items T.F_write_items.kp T.b_write_items .nil pass0 (pa_cons (pe_lc (own := [("change", 1)]) rfl sc_write_changes.nd (pi_list (pv 0)) (blkOk_by (own := [("change", 1)]) (N := ["changes", "change"]) (sc := (defScope s_write_changes)) (by decide +kernel)) (fun _ _ _ _ _ => (pg_name (i := 1) sc_write_changes.nd rfl (Or.inl rfl))) (fun _ _ _ _ _ => pts_nil) (fun _ _ _ _ _ => (pe_call G_write_change (hr.mono (by omega)) (by rfl) T.g_write_change T.F_write_change.kp T.b_write_change .nil pass0 (pa_cons (pv 1) pa_nil)))) pa_nil)))), ?_⟩
  rintro ss M Q ⟨cs, rfl, ⟨hn, hc⟩, hl, q⟩
  walk_at "k"
  show WS K _ [some (.dat (encCs cs)), none] M _
  walk_at "f"
  refine w_lcD (xs := cs) (enc := Chk.enc) (M1 := M) (by decide) (w_var rfl ⟨rfl, rfl⟩) (by omega) (fun v => bsD (cC v)) (fun v D o hv hD => ?_) ?_
  · walk_at "f"
    exact ⟨v, rfl, hc v hv, len_in hl (List.mem_map_of_mem hv), rfl, rfl⟩
  · walk_at "f"
    exact wits_of (by omega) hl q
end
end
section
section
variable {P : Program} {w : World} {K : PySem.W.Frag} {mg : Str → Option Value} {base : Heap} {a : AD} {d : FD}
def A_lnum : ASp := fun ss M Q => ∃ n : Int, ss = [.int n] ∧ 0 ≤ n ∧ n < 128 ^ 21 ∧ Q (lsm .int (cN n)) M
theorem ok_lnum (T : Txt K mg a d) : FnOk P w K mg base CX0 1 a.law_number d.law_number ["_law_number_here"] (conc K A_lnum) := by
  refine ab_ok T.F_law_number sc_law_number (fun ss M Q ⟨n, e, _⟩ => by subst e; rfl) fun cdv Ar outer s H E hr => ⟨_, (pss_cons (ps_set (i := 1) sc_law_number.nd rfl (Or.inl rfl) (pe_lst pa_nil))
  (pss_cons (ps_for PassesOwn.never rfl (pi_range1 rfl T.n_range (pa_cons pe_int pa_nil)) (pg_name (i := 2) sc_law_number.nd rfl (Or.inl rfl)) (pss_one (ps_if (pt_cmpR op_gt (pv 0) pe_int (nomark _)) (pss_cons (ps_expr (pe_bm PySem.F.plainAttrs_list PySem.F.slot_list_append PySem.F.type_list_append mt_append (pv 1) (pa_cons (pe_op op_add pe_int (pe_op op_mod (pv 0) pe_int)) pa_nil)))
  (pss_one (ps_set (i := 0) sc_law_number.nd rfl (Or.inl rfl) (pe_op op_fdiv (pv 0) pe_int)))) pss_nil)))
  (pss_one (ps_ret (pe_op (r := rCatL K) op_catL (pv 1) (pe_lst (pa_cons (pv 0) pa_nil))))))), ?_⟩
  rintro ss M Q ⟨n, rfl, h0, h1, q⟩
  walk_at "k"
  show WS K _ [some (.int n), none, none] M _
  have hcn : cN n = cnF 20 n.toNat := cnF_fuel 59 20 _ (Nat.lt_trans (show n.toNat < 128 ^ 21 by omega) (by decide +kernel)) (show n.toNat < 128 ^ 21 by omega)
  have hl20 := (cnF_len 20 n.toNat).2
  refine ws_seq (ws_set (w_lstM (wa_nil ⟨by simp, fun p hp => ?_⟩)))
  show WS K _ [some (.int n), some (.raw (.ref p)), none] (um M p (.lst [])) _
  refine ws_seq (ws_forR1 (n := 20) (M1 := um M p (.lst [])) (by walk_at "e"; exact ⟨rfl, rfl⟩) (by omega)
    (fun i ρ' M' => ∃ (acc : List Int) (j : Nat) (z : Option Sl), ρ' = [some (.int (j : Nat)), some (.raw (.ref p)), z] ∧ M' = um M p (.lst (bys acc)) ∧ acc ++ cnF (20 - i) j = cN n ∧ j < 128 ^ (20 - i + 1)) ⟨[], n.toNat, none, by rw [Int.toNat_of_nonneg h0], rfl, hcn.symm, by omega⟩ ?_ ?_)
  · rintro i ρ' M' hi ⟨acc, j, z, rfl, rfl, he, hj⟩
    have hlen : acc.length ≤ 21 := by
      have h1 := congrArg List.length he
      rw [List.length_append, hcn] at h1
      omega
    refine wg_name ?_
    have e20 : 20 - i = (20 - (i + 1)) + 1 := by omega
    rw [e20] at he hj
    walk_at "f"
    refine ite_d (fun hb => ?_) (fun hb => ?_)
    · walk_at "f"
      refine w_bm ?_
      walk_at "f"
      refine ⟨ty_lst (lsv_ref um_same), ?_⟩
      walk_at "f"
      refine wm_append um_same (by rw [bys_len]; omega) ?_
      walk_at "f"
      have hm : 127 < j := by omega
      have e : cnF (20 - (i + 1) + 1) j = (128 + (j : Int) % 128) :: cnF (20 - (i + 1)) (j / 128) := by
        show (if 127 < j then _ else _) = _
        rw [if_pos hm]
      refine ⟨acc ++ [128 + (j : Int) % 128], j / 128, _, rfl, ?_, ?_, Nat.div_lt_of_lt_mul (by rw [Nat.pow_succ, Nat.mul_comm] at hj; exact hj)⟩
      · rw [um_um, bys_app]
        rfl
      · rw [← he, e, List.append_assoc]
        rfl
    · walk_at "f"
      have e : cnF (20 - (i + 1) + 1) j = cnF (20 - (i + 1)) j := by
        have h2 : ∀ k, cnF k j = [(j : Int)] := fun k => by
          cases k with
          | zero => rfl
          | succ k =>
            show (if 127 < j then _ else _) = _
            rw [if_neg (by omega)]
        rw [h2, h2]
      rw [e] at he
      exact ⟨acc, j, _, rfl, rfl, he, Nat.lt_of_lt_of_le (show j < 128 ^ 1 by omega) (Nat.pow_le_pow_right (by decide) (by omega))⟩
  · rintro ρ' M' ⟨acc, j, z, rfl, rfl, he, hj⟩
    have hlen : acc.length ≤ 21 := by
      have h1 := congrArg List.length he
      rw [List.length_append, hcn] at h1
      omega
    walk_at "f"
    have e : cN n = acc ++ [(j : Int)] := he.symm
    refine w2_dropA p (w2_cat (ds := acc.map .int) (lsv_ref um_same) lsv_dat (by rw [List.length_map]; simp; omega) ?_)
    rw [del_um hp, ← List.map_append, ← e]
    exact q
theorem ok_llisted (T : Txt K mg a d) : FnOk P w K mg base CX0 2 a.law_listed d.law_listed ["_law_parts"] (conc K A_wits) := by
  have G_law_number : FnOk P w K mg base CX0 1 a.law_number d.law_number ["_law_number_here"] (conc K A_lnum) := ok_lnum T
  refine ab_ok T.F_law_listed sc_law_listed (fun ss M Q ⟨ps, e, _⟩ => by subst e; rfl) fun cdv Ar outer s H E hr => ⟨_, (pss_cons (ps_set (i := 1) sc_law_listed.nd rfl (Or.inl rfl) (pe_call G_law_number (hr.mono (by omega)) (by rfl) T.g_law_number T.F_law_number.kp T.b_law_number .nil pass0 (pa_cons (pe_callB (r := rLenS K) call_len_seq (by rfl) T.n_len PySem.boot_len (pa_cons (pv 0) pa_nil)) pa_nil)))
  (pss_cons (ps_for PassesOwn.never rfl (pi_list (pv 0)) (pg_name (i := 2) sc_law_listed.nd rfl (Or.inl rfl)) (pss_one (ps_set (i := 1) sc_law_listed.nd rfl (Or.inl rfl) (pe_op (r := rCatL K) op_catL (pv 1) (pv 2)))))
  (pss_one (ps_ret (pv 1))))), ?_⟩
  rintro ss M Q ⟨ps, rfl, hps, hl, q⟩
  walk_at "k"
  show WS K _ [some (.dat (.list (ps.map bsD))), none, none] M _
  walk_at "f"
  refine ⟨(ps.length : Int), rfl, by omega, Int.lt_of_le_of_lt (show (ps.length : Int) ≤ 990000 by omega) (by decide +kernel), ?_⟩
  show WS _ _ [some (.dat (.list (ps.map bsD))), some (lsm .int (cN ps.length)), none] M _
  refine ws_seq (ws_forD (enc := bsD) (xs := ps) (M1 := M) (w_var rfl ⟨rfl, rfl⟩) (fun qs ρ' M' => ∃ z, ρ' = [some (.dat (.list (ps.map bsD))), some (lsm .int (cN ps.length ++ qs.flatten)), z] ∧ M' = M) ⟨none, by simp, rfl⟩ ?_ ?_)
  · rintro pre x post ρ' M' e ⟨z, rfl, rfl⟩
    refine wg_name ?_
    walk_at "f"
    · subst e
      have h1 := len_cL hl
      have h2 := (cnF_len 59 (Int.toNat ((pre ++ x :: post).length : Nat))).2
      rw [List.flatten_append, List.flatten_cons, List.length_append, List.length_append] at h1
      rw [List.length_append]
      unfold cN
      omega
    · refine ⟨some (.dat (bsD x)), ?_, rfl⟩
      rw [List.flatten_append, ← List.append_assoc]
      simp
  · rintro ρ' M' ⟨z, rfl, rfl⟩
    walk_at "f"
    exact q
abbrev A_lstr : ASp := A_w PyData.str (fun z => goodS z = true) cS
theorem char_ix : ∀ c ∈ List.range 127, 32 ≤ c → c ≠ 37 → Txt.index0 charS ⟨#[c]⟩ = some (if c < 37 then c - 32 else c - 33) := by decide +kernel
theorem ok_lstr (T : Txt K mg a d) : FnOk P w K mg base CX0 3 a.law_string_code d.law_string_code ["_law_text"] (conc K A_lstr) := by
  have G_law_characters : FnOk P w K mg base CX0 1 a.law_characters d.law_characters [] (conc K A_chars) := ok_chars T
  have G_law_listed : FnOk P w K mg base CX0 2 a.law_listed d.law_listed ["_law_parts"] (conc K A_wits) := ok_llisted T
  refine ab_ok T.F_law_string_code sc_law_string_code (fun ss M Q ⟨x, e, _⟩ => by subst e; rfl) fun cdv Ar outer s H E hr => ⟨_, (pss_cons (ps_set (i := 1) sc_law_string_code.nd rfl (Or.inr rfl) (pe_call0 G_law_characters (hr.mono (by omega)) (by rfl) T.g_law_characters T.F_law_characters.kp T.b_law_characters .nil pass0))
  (pss_one (ps_ret (pe_call G_law_listed (hr.mono (by omega)) (by rfl) T.g_law_listed T.F_law_listed.kp T.b_law_listed .nil pass0 (pa_cons (pe_lc (own := [("_law_each", 2)]) rfl sc_law_string_code.nd (pi_str (pv 0)) (blkOk_by (own := [("_law_each", 2)]) (N := ["_law_text", "_law_chars", "_law_each"]) (sc := (defScope s_law_string_code)) (by decide +kernel)) (fun _ _ _ _ _ => (pg_name (i := 2) sc_law_string_code.nd rfl (Or.inl rfl))) (fun _ _ _ _ _ => pts_nil) (fun _ _ _ _ _ => (pe_lst (pa_cons (pe_op op_add (pe_op op_add pe_int (pe_bmK (K := K) rfl (pe_bm PySem.F.plainAttrs_str PySem.F.slot_str_index PySem.F.type_str_index (r := rSIx) mt_sindex (pv 1) (pa_cons (pv 2) pa_nil)))) (pe_callTy (r := rInt1) call_int1 (by rfl) T.n_int (by decide +kernel) (pa_cons (pe_cmpR op_gt (pe_bmK (K := K) rfl (pe_bm PySem.F.plainAttrs_str PySem.F.slot_str_index PySem.F.type_str_index (r := rSIx) mt_sindex (pv 1) (pa_cons (pv 2) pa_nil))) pe_int (nomark _)) pa_nil))) pa_nil)))) pa_nil))))), ?_⟩
  rintro ss M Q ⟨z, rfl, hz, hl, q⟩
  walk_at "k"
  show WS K _ [some (.str z), none, none] M _
  have hz1 := good_len hz
  have tys : ∀ (B H : Hp) (v : V), Sep K B M H → SlOk K B v (.str charS) → tyV K "str" v H := fun B H v _ o => by
    obtain rfl := of_str o
    exact rfl
  walk_at "f"
  refine ⟨rfl, ?_⟩
  walk_at "f"
  refine w_lcS (z := z) (M1 := M) (by decide) (w_var rfl ⟨rfl, rfl⟩) (by omega) (fun c => bsD [(c : Int)]) (fun c D o hc hD => ?_) ?_
  · obtain ⟨h1, h2, h3⟩ := good_char hz hc
    have ix := char_ix c (List.mem_range.mpr h2) h1 h3
    have tys : ∀ (B H : Hp) (v : V), Sep K B (um M D o) H → SlOk K B v (.str charS) → tyV K "str" v H := fun B H v _ o => by
      obtain rfl := of_str o
      exact rfl
    refine w_lstI (wa_cons (w_op (w_op (w_int (w_bm (w_var rfl ⟨tys, ?_⟩))))))
    walk_at "f"
    refine wm_sindex ix ?_
    walk_at "f"
    refine w_bm (w_var rfl ⟨tys, ?_⟩)
    walk_at "f"
    refine wm_sindex ix ?_
    walk_at "f"
    have e : (32 : Int) + ((if c < 37 then c - 32 else c - 33 : Nat) : Int) + (if decide ((4 : Int) < ((if c < 37 then c - 32 else c - 33 : Nat) : Int)) = true then (1 : Int) else 0) = c := by
      by_cases h37 : c < 37
      · rw [if_pos h37, if_neg (by simp; omega)]; omega
      · rw [if_neg h37, if_pos (by simp; omega)]; omega
    rw [e]
    refine ⟨_, rfl, ?_⟩
    walk_at "f"
    exact ⟨rfl, rfl⟩
  · walk_at "f"
    exact ⟨z.cps.toList.map fun c : Nat => [(c : Int)], by rw [List.map_map]; rfl, by rw [List.length_map]; omega, hl, q⟩
abbrev A_lval : ASp := A_w Val.enc Val.ok cV
theorem ok_lval (T : Txt K mg a d) : FnOk P w K mg base CX0 4 a.law_value_code d.law_value_code ["_law_value_here"] (conc K A_lval) := by
  have G_law_number : FnOk P w K mg base CX0 1 a.law_number d.law_number ["_law_number_here"] (conc K A_lnum) := ok_lnum T
  have G_law_string_code : FnOk P w K mg base CX0 3 a.law_string_code d.law_string_code ["_law_text"] (conc K A_lstr) := ok_lstr T
  refine ab_ok T.F_law_value_code sc_law_value_code (fun ss M Q ⟨x, e, _⟩ => by subst e; rfl) fun cdv Ar outer s H E hr => ⟨_, (pss_cons (ps_if (pt_val (pe_callB (r := rIsi K) call_isi (by rfl) T.n_isinstance (by decide +kernel) (pa_cons (pv 0) (pa_cons (pe_bltn (v := .ty "str") (u := .type "str") (by rfl) T.n_str (by decide +kernel) rfl) pa_nil)))) (pss_one (ps_ret (pe_op (r := rCatL K) op_catL (pe_lst (pa_cons pe_int pa_nil)) (pe_call G_law_string_code (hr.mono (by omega)) (by rfl) T.g_law_string_code T.F_law_string_code.kp T.b_law_string_code .nil pass0 (pa_cons (pv 0) pa_nil))))) pss_nil)
  (pss_one (ps_ret (pe_op (r := rCatL K) op_catL (pe_lst (pa_cons pe_int (pa_cons (pe_callTy (r := rInt1) call_int1 (by rfl) T.n_int (by decide +kernel) (pa_cons (pe_cmpR op_lt (pv 0) pe_int (nomark _)) pa_nil)) pa_nil))) (pe_call G_law_number (hr.mono (by omega)) (by rfl) T.g_law_number T.F_law_number.kp T.b_law_number .nil pass0 (pa_cons (pe_callB call_abs (by rfl) T.n_abs (by decide +kernel) (pa_cons (pv 0) pa_nil)) pa_nil)))))), ?_⟩
  rintro ss M Q ⟨v, rfl, hv, hl, q⟩
  walk_at "k"
  show WS K _ [some (.dat v.enc)] M _
  cases v with
  | int n =>
    show WS K _ [some (.int n)] M _
    have e : (if n < 0 then -n else n) = (n.natAbs : Int) := by split <;> omega
    walk_at "f"
    refine wl_abs ?_
    walk_at "f"
    rw [e]
    have hb : (n.natAbs : Int) < 128 ^ 21 := by
      have h1 := Nat.lt_trans (Nat.lt_trans (show n.natAbs < 10 ^ 30 from hv) big30) (show 128 ^ 15 < 128 ^ 21 by decide +kernel)
      omega
    refine ⟨_, rfl, by omega, hb, ?_⟩
    have hl : ([0, if n < 0 then 1 else 0] ++ cN n.natAbs).length ≤ 990000 := hl
    rw [List.length_append] at hl
    refine w2_catE (by simp at hl ⊢; omega) ?_
    have e2 : (if decide (n < 0) = true then (1 : Int) else 0) = if n < 0 then 1 else 0 := by simp
    rw [e2]
    exact q
  | str z =>
    walk_at "f"
    have hl : ([1] ++ cS z).length ≤ 990000 := hl
    rw [List.length_append, List.length_singleton] at hl
    refine ⟨z, rfl, hv, by omega, ?_⟩
    refine w2_catE (by rw [List.length_singleton]; omega) ?_
    exact q
abbrev A_lrow : ASp := A_w encR okR cR
theorem ok_lrow (T : Txt K mg a d) : FnOk P w K mg base CX0 5 a.law_row_code d.law_row_code ["_law_row_here"] (conc K A_lrow) := by
  have G_law_listed : FnOk P w K mg base CX0 2 a.law_listed d.law_listed ["_law_parts"] (conc K A_wits) := ok_llisted T
  have G_law_value_code : FnOk P w K mg base CX0 4 a.law_value_code d.law_value_code ["_law_value_here"] (conc K A_lval) := ok_lval T
  refine ab_ok T.F_law_row_code sc_law_row_code (fun ss M Q ⟨x, e, _⟩ => by subst e; rfl) fun cdv Ar outer s H E hr => ⟨_, (pss_one (ps_ret (pe_call G_law_listed (hr.mono (by omega)) (by rfl) T.g_law_listed T.F_law_listed.kp T.b_law_listed .nil pass0 (pa_cons (pe_lc (own := [("_law_value_here", 1)]) rfl sc_law_row_code.nd (pi_tup (pv 0)) (blkOk_by (own := [("_law_value_here", 1)]) (N := ["_law_row_here", "_law_value_here"]) (sc := (defScope s_law_row_code)) (by decide +kernel)) (fun _ _ _ _ _ => (pg_name (i := 1) sc_law_row_code.nd rfl (Or.inl rfl))) (fun _ _ _ _ _ => pts_nil) (fun _ _ _ _ _ => (pe_call G_law_value_code (hr.mono (by omega)) (by rfl) T.g_law_value_code T.F_law_value_code.kp T.b_law_value_code .nil pass0 (pa_cons (pv 1) pa_nil)))) pa_nil)))), ?_⟩
  rintro ss M Q ⟨row, rfl, hr, hl, q⟩
  walk_at "k"
  show WS K _ [some (.dat (encR row)), none] M _
  have h1000 := hr.1
  walk_at "f"
  refine w_lcT (xs := row) (enc := Val.enc) (M1 := M) (by decide) (w_var rfl ⟨rfl, rfl⟩) (by omega) (fun v => bsD (cV v)) (fun v D o hv hD => ?_) ?_
  · walk_at "f"
    exact ⟨v, rfl, hr.2 v hv, len_in hl (List.mem_map_of_mem hv), rfl, rfl⟩
  · walk_at "f"
    exact wits_of (by omega) hl q
abbrev A_lterm : ASp := A_w Term.enc Term.ok cT
theorem ok_lterm (T : Txt K mg a d) : FnOk P w K mg base CX0 5 a.law_term_code d.law_term_code ["_law_term_here"] (conc K A_lterm) := by
  have G_law_string_code : FnOk P w K mg base CX0 3 a.law_string_code d.law_string_code ["_law_text"] (conc K A_lstr) := ok_lstr T
  have G_law_value_code : FnOk P w K mg base CX0 4 a.law_value_code d.law_value_code ["_law_value_here"] (conc K A_lval) := ok_lval T
  refine ab_ok T.F_law_term_code sc_law_term_code (fun ss M Q ⟨x, e, _⟩ => by subst e; rfl) fun cdv Ar outer s H E hr => ?_
  have hu64 := hr.units
  refine ⟨_, (pss_cons (ps_if (pt_cmpR (r := rEqD K) (op_eqD hu64) (pe_ix (r := rIxT K) ix_tup (pv 0) pe_int (fun _ _ => rfl)) pe_str (nomark _)) (pss_one (ps_ret (pe_op (r := rCatL K) op_catL (pe_lst (pa_cons pe_int pa_nil)) (pe_call G_law_value_code (hr.mono (by omega)) (by rfl) T.g_law_value_code T.F_law_value_code.kp T.b_law_value_code .nil pass0 (pa_cons (pe_ix (r := rIxT K) ix_tup (pv 0) pe_int (fun _ _ => rfl)) pa_nil))))) pss_nil)
  (pss_cons (ps_if (pt_cmpR (r := rEqD K) (op_eqD hu64) (pe_ix (r := rIxT K) ix_tup (pv 0) pe_int (fun _ _ => rfl)) pe_str (nomark _)) (pss_one (ps_ret (pe_op (r := rCatL K) op_catL (pe_lst (pa_cons pe_int pa_nil)) (pe_call G_law_string_code (hr.mono (by omega)) (by rfl) T.g_law_string_code T.F_law_string_code.kp T.b_law_string_code .nil pass0 (pa_cons (pe_ix (r := rIxT K) ix_tup (pv 0) pe_int (fun _ _ => rfl)) pa_nil))))) pss_nil)
  (pss_one (ps_ret (pe_lst (pa_cons pe_int pa_nil)))))), ?_⟩
  rintro ss M Q ⟨t, rfl, ht, hl, q⟩
  walk_at "k"
  rcases t with _ | v | z
  · show WS K _ [some (.dat (.tuple [.str "any"]))] M _
    walk_at "f"
    exact q
  · have hl : ([0] ++ cV v).length ≤ 990000 := hl
    rw [List.length_append, List.length_singleton] at hl
    show WS K _ [some (.dat (.tuple [.str "value", v.enc]))] M _
    walk_at "f"
    refine ⟨v, rfl, ht, by omega, ?_⟩
    refine w2_catE (by rw [List.length_singleton]; omega) ?_
    exact q
  · have hl : ([1] ++ cS z).length ≤ 990000 := hl
    rw [List.length_append, List.length_singleton] at hl
    show WS K _ [some (.dat (.tuple [.str "variable", .str z]))] M _
    walk_at "f"
    refine ⟨z, rfl, ht, by omega, ?_⟩
    refine w2_catE (by rw [List.length_singleton]; omega) ?_
    exact q
abbrev A_lterms : ASp := A_w encT okTs cTs
theorem ok_lterms (T : Txt K mg a d) : FnOk P w K mg base CX0 6 a.law_terms_code d.law_terms_code ["_law_terms_here"] (conc K A_lterms) := by
  have G_law_listed : FnOk P w K mg base CX0 2 a.law_listed d.law_listed ["_law_parts"] (conc K A_wits) := ok_llisted T
  have G_law_term_code : FnOk P w K mg base CX0 5 a.law_term_code d.law_term_code ["_law_term_here"] (conc K A_lterm) := ok_lterm T
  refine ab_ok T.F_law_terms_code sc_law_terms_code (fun ss M Q ⟨x, e, _⟩ => by subst e; rfl) fun cdv Ar outer s H E hr => ⟨_, (pss_one (ps_ret (pe_call G_law_listed (hr.mono (by omega)) (by rfl) T.g_law_listed T.F_law_listed.kp T.b_law_listed .nil pass0 (pa_cons (pe_lc (own := [("_law_term_here", 1)]) rfl sc_law_terms_code.nd (pi_tup (pv 0)) (blkOk_by (own := [("_law_term_here", 1)]) (N := ["_law_terms_here", "_law_term_here"]) (sc := (defScope s_law_terms_code)) (by decide +kernel)) (fun _ _ _ _ _ => (pg_name (i := 1) sc_law_terms_code.nd rfl (Or.inl rfl))) (fun _ _ _ _ _ => pts_nil) (fun _ _ _ _ _ => (pe_call G_law_term_code (hr.mono (by omega)) (by rfl) T.g_law_term_code T.F_law_term_code.kp T.b_law_term_code .nil pass0 (pa_cons (pv 1) pa_nil)))) pa_nil)))), ?_⟩
  rintro ss M Q ⟨ts, rfl, ht, hl, q⟩
  walk_at "k"
  show WS K _ [some (.dat (encT ts)), none] M _
  have h1000 := ht.1
  walk_at "f"
  refine w_lcT (xs := ts) (enc := Term.enc) (M1 := M) (by decide) (w_var rfl ⟨rfl, rfl⟩) (by omega) (fun v => bsD (cT v)) (fun v D o hv hD => ?_) ?_
  · walk_at "f"
    exact ⟨v, rfl, ht.2 v hv, len_in hl (List.mem_map_of_mem hv), rfl, rfl⟩
  · walk_at "f"
    exact wits_of (by omega) hl q
end
end
section
section
variable {P : Program} {w : World} {K : PySem.W.Frag} {mg : Str → Option Value} {base : Heap} {a : AD} {d : FD}
abbrev A_llit : ASp := A_w Lit.enc Lit.ok cLit
theorem ok_llit (T : Txt K mg a d) : FnOk P w K mg base CX0 7 a.law_literal_code d.law_literal_code ["_law_literal_here"] (conc K A_llit) := by
  have G_law_string_code : FnOk P w K mg base CX0 3 a.law_string_code d.law_string_code ["_law_text"] (conc K A_lstr) := ok_lstr T
  have G_law_term_code : FnOk P w K mg base CX0 5 a.law_term_code d.law_term_code ["_law_term_here"] (conc K A_lterm) := ok_lterm T
  have G_law_terms_code : FnOk P w K mg base CX0 6 a.law_terms_code d.law_terms_code ["_law_terms_here"] (conc K A_lterms) := ok_lterms T
  refine ab_ok T.F_law_literal_code sc_law_literal_code (fun ss M Q ⟨x, e, _⟩ => by subst e; rfl) fun cdv Ar outer s H E hr => ?_
  have hu64 := hr.units
  have hu65 := room65 hr
  refine ⟨_, (pss_cons (ps_set (i := 1) sc_law_literal_code.nd rfl (Or.inl rfl) (pe_ix (r := rIxT K) ix_tup (pv 0) pe_int (fun _ _ => rfl)))
  (pss_cons (ps_if (pt_cmpR (r := rEqD K) (op_eqD hu64) (pv 1) pe_str (nomark _)) (pss_cons (ps_set (i := 2) sc_law_literal_code.nd rfl (Or.inl rfl) (pe_op (r := rCatL K) op_catL (pe_call G_law_term_code (hr.mono (by omega)) (by rfl) T.g_law_term_code T.F_law_term_code.kp T.b_law_term_code .nil pass0 (pa_cons (pe_ix (r := rIxT K) ix_tup (pv 0) pe_int (fun _ _ => rfl)) pa_nil)) (pe_call G_law_term_code (hr.mono (by omega)) (by rfl) T.g_law_term_code T.F_law_term_code.kp T.b_law_term_code .nil pass0 (pa_cons (pe_ix (r := rIxT K) ix_tup (pv 0) pe_int (fun _ _ => rfl)) pa_nil))))
  (pss_one (ps_ret (pe_op (r := rCatL K) op_catL (pe_lst (pa_cons pe_int (pa_cons (pe_bm PySem.F.plainAttrs_list PySem.F.slot_list_index PySem.F.type_list_index (r := rIndexD K) (mt_indexD hu65) (pe_lst (pa_cons pe_str (pa_cons pe_str (pa_cons pe_str (pa_cons pe_str (pa_cons pe_str (pa_cons pe_str pa_nil))))))) (pa_cons (pe_ix (r := rIxT K) ix_tup (pv 0) pe_int (fun _ _ => rfl)) pa_nil)) pa_nil))) (pv 2))))) pss_nil)
  (pss_cons (ps_if (pt_cmpR (r := rEqD K) (op_eqD hu64) (pv 1) pe_str (nomark _)) (pss_cons (ps_set (i := 2) sc_law_literal_code.nd rfl (Or.inl rfl) (pe_op (r := rCatL K) op_catL (pe_call G_law_term_code (hr.mono (by omega)) (by rfl) T.g_law_term_code T.F_law_term_code.kp T.b_law_term_code .nil pass0 (pa_cons (pe_ix (r := rIxT K) ix_tup (pv 0) pe_int (fun _ _ => rfl)) pa_nil)) (pe_call G_law_term_code (hr.mono (by omega)) (by rfl) T.g_law_term_code T.F_law_term_code.kp T.b_law_term_code .nil pass0 (pa_cons (pe_ix (r := rIxT K) ix_tup (pv 0) pe_int (fun _ _ => rfl)) pa_nil))))
  (pss_one (ps_ret (pe_op (r := rCatL K) op_catL (pe_op (r := rCatL K) op_catL (pe_op (r := rCatL K) op_catL (pe_lst (pa_cons pe_int pa_nil)) (pe_call G_law_string_code (hr.mono (by omega)) (by rfl) T.g_law_string_code T.F_law_string_code.kp T.b_law_string_code .nil pass0 (pa_cons (pe_ix (r := rIxT K) ix_tup (pv 0) pe_int (fun _ _ => rfl)) pa_nil))) (pe_lst (pa_cons (pe_bm PySem.F.plainAttrs_list PySem.F.slot_list_index PySem.F.type_list_index (r := rIndexD K) (mt_indexD hu65) (pe_lst (pa_cons pe_str (pa_cons pe_str (pa_cons pe_str pa_nil)))) (pa_cons (pe_ix (r := rIxT K) ix_tup (pv 0) pe_int (fun _ _ => rfl)) pa_nil)) pa_nil))) (pv 2))))) pss_nil)
  (pss_cons (ps_if (pt_cmpR (r := rEqD K) (op_eqD hu64) (pv 1) pe_str (nomark _)) (pss_one (ps_ret (pe_op (r := rCatL K) op_catL (pe_op (r := rCatL K) op_catL (pe_op (r := rCatL K) op_catL (pe_lst (pa_cons pe_int pa_nil)) (pe_call G_law_string_code (hr.mono (by omega)) (by rfl) T.g_law_string_code T.F_law_string_code.kp T.b_law_string_code .nil pass0 (pa_cons (pe_ix (r := rIxT K) ix_tup (pv 0) pe_int (fun _ _ => rfl)) pa_nil))) (pe_call G_law_string_code (hr.mono (by omega)) (by rfl) T.g_law_string_code T.F_law_string_code.kp T.b_law_string_code .nil pass0 (pa_cons (pe_ix (r := rIxT K) ix_tup (pv 0) pe_int (fun _ _ => rfl)) pa_nil))) (pe_call G_law_terms_code (hr.mono (by omega)) (by rfl) T.g_law_terms_code T.F_law_terms_code.kp T.b_law_terms_code .nil pass0 (pa_cons (pe_ix (r := rIxT K) ix_tup (pv 0) pe_int (fun _ _ => rfl)) pa_nil))))) pss_nil)
  (pss_one (ps_ret (pe_op (r := rCatL K) op_catL (pe_op (r := rCatL K) op_catL (pe_lst (pa_cons (pe_callTy (r := rInt1) call_int1 (by rfl) T.n_int (by decide +kernel) (pa_cons (pe_cmpR (r := rEqD K) (op_eqD hu64) (pv 1) pe_str (nomark _)) pa_nil)) pa_nil)) (pe_call G_law_string_code (hr.mono (by omega)) (by rfl) T.g_law_string_code T.F_law_string_code.kp T.b_law_string_code .nil pass0 (pa_cons (pe_ix (r := rIxT K) ix_tup (pv 0) pe_int (fun _ _ => rfl)) pa_nil))) (pe_call G_law_terms_code (hr.mono (by omega)) (by rfl) T.g_law_terms_code T.F_law_terms_code.kp T.b_law_terms_code .nil pass0 (pa_cons (pe_ix (r := rIxT K) ix_tup (pv 0) pe_int (fun _ _ => rfl)) pa_nil))))))))), ?_⟩
  rintro ss M Q ⟨l, rfl, ht, hl, q⟩
  walk_at "k"
  cases l with
  | fact r ts =>
    have hl : ([0] ++ cS r ++ cTs ts).length ≤ 990000 := hl
    simp only [List.length_append, List.length_singleton] at hl
    show WS K _ [some (.dat (.tuple [.str "fact", .str r, encT ts])), none, none] M _
    walk_at "f"
    refine ⟨r, rfl, ht.1, by omega, ?_⟩
    refine w2_catE (by simp; omega) ?_
    walk_at "f"
    refine ⟨ts, rfl, ht.2, by omega, ?_⟩
    refine w2_catE (by simp; omega) ?_
    exact q
  | neg r ts =>
    have hl : ([1] ++ cS r ++ cTs ts).length ≤ 990000 := hl
    simp only [List.length_append, List.length_singleton] at hl
    show WS K _ [some (.dat (.tuple [.str "not", .str r, encT ts])), none, none] M _
    walk_at "f"
    refine ⟨r, rfl, ht.1, by omega, ?_⟩
    refine w2_catE (by simp; omega) ?_
    walk_at "f"
    refine ⟨ts, rfl, ht.2, by omega, ?_⟩
    refine w2_catE (by simp; omega) ?_
    exact q
  | compare op s t =>
    have hl : ([2, (opsC.idxOf op : Int)] ++ cT s ++ cT t).length ≤ 990000 := hl
    simp only [List.length_append, List.length_cons, List.length_nil] at hl
    show WS K _ [some (.dat (.tuple [.str "compare", .str op, s.enc, t.enc])), none, none] M _
    walk_at "f"
    refine ⟨s, rfl, ht.2.1, by omega, ?_⟩
    walk_at "f"
    refine ⟨t, rfl, ht.2.2, by omega, ?_⟩
    refine w2_catE (by omega) ?_
    refine ws_ret (w_op (w_lstI (wa_cons (w_int (wa_cons (w_bm ?_))))))
    walk_at "f"
    refine ⟨ty_lst lsv_dat, ?_⟩
    walk_at "f"
    refine wm_indexS (ys := opsC) _ (by decide +kernel) (ops_ok ht.1) ⟨ht.1, rfl⟩ ?_
    walk_at "f"
    refine ⟨_, rfl, ?_⟩
    walk_at "f"
    · have e : [2, (opsC.idxOf op : Int)] ++ (cT s ++ cT t) = cLit (.compare op s t) := by simp [cLit]
      rw [e]
      exact q
  | is x op s t =>
    have hl : ([3] ++ cS x ++ [(opsI.idxOf op : Int)] ++ cT s ++ cT t).length ≤ 990000 := hl
    simp only [List.length_append, List.length_singleton] at hl
    show WS K _ [some (.dat (.tuple [.str "is", .str x, .str op, s.enc, t.enc])), none, none] M _
    walk_at "f"
    refine ⟨s, rfl, ht.2.2.1, by omega, ?_⟩
    walk_at "f"
    refine ⟨t, rfl, ht.2.2.2, by omega, ?_⟩
    refine w2_catE (by omega) ?_
    walk_at "f"
    refine ⟨x, rfl, ht.1, by omega, ?_⟩
    refine w2_catE (by simp; omega) ?_
    refine w_lstI (wa_cons (w_bm ?_))
    walk_at "f"
    refine ⟨ty_lst lsv_dat, ?_⟩
    walk_at "f"
    refine wm_indexS (ys := opsI) _ (by decide +kernel) (opsI_ok ht.2.1) ⟨ht.2.1, rfl⟩ ?_
    walk_at "f"
    refine ⟨_, rfl, ?_⟩
    walk_at "f"
    · have e : [3] ++ cS x ++ [(opsI.idxOf op : Int)] ++ (cT s ++ cT t) = cLit (.is x op s t) := by simp [cLit]
      rw [e]
      exact q
  | count x r ts =>
    have hl : ([4] ++ cS x ++ cS r ++ cTs ts).length ≤ 990000 := hl
    simp only [List.length_append, List.length_singleton] at hl
    show WS K _ [some (.dat (.tuple [.str "count", .str x, .str r, encT ts])), none, none] M _
    walk_at "f"
    refine ⟨x, rfl, ht.1, by omega, ?_⟩
    refine w2_catE (by simp; omega) ?_
    walk_at "f"
    refine ⟨r, rfl, ht.2.1, by omega, ?_⟩
    refine w2_catE (by simp; omega) ?_
    walk_at "f"
    refine ⟨ts, rfl, ht.2.2, by omega, ?_⟩
    refine w2_catE (by simp; omega) ?_
    exact q
abbrev A_lbody : ASp := A_w encB okB cB
theorem ok_lbody (T : Txt K mg a d) : FnOk P w K mg base CX0 8 a.law_body_code d.law_body_code ["_law_body_here"] (conc K A_lbody) := by
  have G_law_listed : FnOk P w K mg base CX0 2 a.law_listed d.law_listed ["_law_parts"] (conc K A_wits) := ok_llisted T
  have G_law_literal_code : FnOk P w K mg base CX0 7 a.law_literal_code d.law_literal_code ["_law_literal_here"] (conc K A_llit) := ok_llit T
  refine ab_ok T.F_law_body_code sc_law_body_code (fun ss M Q ⟨x, e, _⟩ => by subst e; rfl) fun cdv Ar outer s H E hr => ?_
  have hu64 := hr.units
  have hu65 := room65 hr
  refine ⟨_, (pss_one (ps_ret (pe_call G_law_listed (hr.mono (by omega)) (by rfl) T.g_law_listed T.F_law_listed.kp T.b_law_listed .nil pass0 (pa_cons (pe_lc (own := [("_law_literal_here", 1)]) rfl sc_law_body_code.nd (pi_tup (pv 0)) (blkOk_by (own := [("_law_literal_here", 1)]) (N := ["_law_body_here", "_law_literal_here"]) (sc := (defScope s_law_body_code)) (by decide +kernel)) (fun _ _ _ _ _ => (pg_name (i := 1) sc_law_body_code.nd rfl (Or.inl rfl))) (fun _ _ _ _ _ => pts_nil) (fun _ _ _ _ _ => (pe_call G_law_literal_code (hr.mono (by omega)) (by rfl) T.g_law_literal_code T.F_law_literal_code.kp T.b_law_literal_code .nil pass0 (pa_cons (pv 1) pa_nil)))) pa_nil)))), ?_⟩
  rintro ss M Q ⟨ts, rfl, ht, hl, q⟩
  walk_at "k"
  show WS K _ [some (.dat (encB ts)), none] M _
  have h1000 := ht.1
  walk_at "f"
  refine w_lcT (xs := ts) (enc := Lit.enc) (M1 := M) (by decide) (w_var rfl ⟨rfl, rfl⟩) (by omega) (fun v => bsD (cLit v)) (fun v D o hv hD => ?_) ?_
  · walk_at "f"
    exact ⟨v, rfl, ht.2 v hv, len_in hl (List.mem_map_of_mem hv), rfl, rfl⟩
  · walk_at "f"
    exact wits_of (by omega) hl q
def words4 : List Str := ["relation", "fact", "rule", "denial"]
abbrev A_litem : ASp := A_w Item.enc Item.ok cI
theorem ok_litem (T : Txt K mg a d) : FnOk P w K mg base CX0 9 a.law_item_code d.law_item_code ["_law_item_here"] (conc K A_litem) := by
  have G_law_number : FnOk P w K mg base CX0 1 a.law_number d.law_number ["_law_number_here"] (conc K A_lnum) := ok_lnum T
  have G_law_string_code : FnOk P w K mg base CX0 3 a.law_string_code d.law_string_code ["_law_text"] (conc K A_lstr) := ok_lstr T
  have G_law_row_code : FnOk P w K mg base CX0 5 a.law_row_code d.law_row_code ["_law_row_here"] (conc K A_lrow) := ok_lrow T
  have G_law_terms_code : FnOk P w K mg base CX0 6 a.law_terms_code d.law_terms_code ["_law_terms_here"] (conc K A_lterms) := ok_lterms T
  have G_law_body_code : FnOk P w K mg base CX0 8 a.law_body_code d.law_body_code ["_law_body_here"] (conc K A_lbody) := ok_lbody T
  refine ab_ok T.F_law_item_code sc_law_item_code (fun ss M Q ⟨x, e, _⟩ => by subst e; rfl) fun cdv Ar outer s H E hr => ?_
  have hu64 := hr.units
  have hu65 := room65 hr
  refine ⟨_, (pss_cons (ps_set (i := 1) sc_law_item_code.nd rfl (Or.inl rfl) (pe_op (r := rCatL K) op_catL (pe_lst (pa_cons (pe_bm PySem.F.plainAttrs_list PySem.F.slot_list_index PySem.F.type_list_index (r := rIndexD K) (mt_indexD hu65) (pe_lst (pa_cons pe_str (pa_cons pe_str (pa_cons pe_str (pa_cons pe_str pa_nil))))) (pa_cons (pe_ix (r := rIxT K) ix_tup (pv 0) pe_int (fun _ _ => rfl)) pa_nil)) pa_nil)) (pe_call G_law_string_code (hr.mono (by omega)) (by rfl) T.g_law_string_code T.F_law_string_code.kp T.b_law_string_code .nil pass0 (pa_cons (pe_ix (r := rIxT K) ix_tup (pv 0) pe_int (fun _ _ => rfl)) pa_nil))))
  (pss_cons (ps_if (pt_cmpR (r := rEqD K) (op_eqD hu64) (pe_ix (r := rIxT K) ix_tup (pv 0) pe_int (fun _ _ => rfl)) pe_str (nomark _)) (pss_one (ps_ret (pe_op (r := rCatL K) op_catL (pv 1) (pe_call G_law_number (hr.mono (by omega)) (by rfl) T.g_law_number T.F_law_number.kp T.b_law_number .nil pass0 (pa_cons (pe_ix (r := rIxT K) ix_tup (pv 0) pe_int (fun _ _ => rfl)) pa_nil))))) pss_nil)
  (pss_cons (ps_if (pt_cmpR (r := rEqD K) (op_eqD hu64) (pe_ix (r := rIxT K) ix_tup (pv 0) pe_int (fun _ _ => rfl)) pe_str (nomark _)) (pss_one (ps_ret (pe_op (r := rCatL K) op_catL (pv 1) (pe_call G_law_row_code (hr.mono (by omega)) (by rfl) T.g_law_row_code T.F_law_row_code.kp T.b_law_row_code .nil pass0 (pa_cons (pe_ix (r := rIxT K) ix_tup (pv 0) pe_int (fun _ _ => rfl)) pa_nil))))) pss_nil)
  (pss_cons (ps_if (pt_cmpR (r := rEqD K) (op_eqD hu64) (pe_ix (r := rIxT K) ix_tup (pv 0) pe_int (fun _ _ => rfl)) pe_str (nomark _)) (pss_one (ps_ret (pe_op (r := rCatL K) op_catL (pv 1) (pe_call G_law_body_code (hr.mono (by omega)) (by rfl) T.g_law_body_code T.F_law_body_code.kp T.b_law_body_code .nil pass0 (pa_cons (pe_ix (r := rIxT K) ix_tup (pv 0) pe_int (fun _ _ => rfl)) pa_nil))))) pss_nil)
  (pss_one (ps_ret (pe_op (r := rCatL K) op_catL (pe_op (r := rCatL K) op_catL (pe_op (r := rCatL K) op_catL (pv 1) (pe_call G_law_string_code (hr.mono (by omega)) (by rfl) T.g_law_string_code T.F_law_string_code.kp T.b_law_string_code .nil pass0 (pa_cons (pe_ix (r := rIxT K) ix_tup (pv 0) pe_int (fun _ _ => rfl)) pa_nil))) (pe_call G_law_terms_code (hr.mono (by omega)) (by rfl) T.g_law_terms_code T.F_law_terms_code.kp T.b_law_terms_code .nil pass0 (pa_cons (pe_ix (r := rIxT K) ix_tup (pv 0) pe_int (fun _ _ => rfl)) pa_nil))) (pe_call G_law_body_code (hr.mono (by omega)) (by rfl) T.g_law_body_code T.F_law_body_code.kp T.b_law_body_code .nil pass0 (pa_cons (pe_ix (r := rIxT K) ix_tup (pv 0) pe_int (fun _ _ => rfl)) pa_nil))))))))), ?_⟩
  rintro ss M Q ⟨it, rfl, ht, hl, q⟩
  walk_at "k"
  rcases it with ⟨n, wd⟩ | ⟨n, row⟩ | ⟨n, r, ts, b⟩ | ⟨n, b⟩
  · have hl : ([0] ++ cS n ++ cN wd).length ≤ 990000 := hl
    simp only [List.length_append, List.length_singleton] at hl
    show WS K _ [some (.dat (.tuple [.str "relation", .str n, .int wd])), none] M _
    refine ws_seq (ws_set (w_op (w_lstI (wa_cons (w_bm ?_)))))
    walk_at "f"
    refine ⟨ty_lst lsv_dat, ?_⟩
    walk_at "f"
    refine wm_indexS (ys := words4) 0 (by decide +kernel) (by decide +kernel) (by decide +kernel) ?_
    walk_at "f"
    refine ⟨_, rfl, ?_⟩
    walk_at "f"
    refine ⟨n, rfl, ht.1, by omega, ?_⟩
    refine w2_catE (by simp; omega) ?_
    walk_at "f"
    refine ⟨wd, rfl, ht.2.1, Int.lt_of_le_of_lt ht.2.2 (by decide +kernel), ?_⟩
    refine w2_catE (by simp; omega) ?_
    exact q
  · have hl : ([1] ++ cS n ++ cR row).length ≤ 990000 := hl
    simp only [List.length_append, List.length_singleton] at hl
    show WS K _ [some (.dat (.tuple [.str "fact", .str n, encR row])), none] M _
    refine ws_seq (ws_set (w_op (w_lstI (wa_cons (w_bm ?_)))))
    walk_at "f"
    refine ⟨ty_lst lsv_dat, ?_⟩
    walk_at "f"
    refine wm_indexS (ys := words4) 1 (by decide +kernel) (by decide +kernel) (by decide +kernel) ?_
    walk_at "f"
    refine ⟨_, rfl, ?_⟩
    walk_at "f"
    refine ⟨n, rfl, ht.1, by omega, ?_⟩
    refine w2_catE (by simp; omega) ?_
    walk_at "f"
    refine ⟨row, rfl, ht.2.1, by omega, ?_⟩
    refine w2_catE (by simp; omega) ?_
    exact q
  · have hl : ([2] ++ cS n ++ cS r ++ cTs ts ++ cB b).length ≤ 990000 := hl
    simp only [List.length_append, List.length_singleton] at hl
    show WS K _ [some (.dat (.tuple [.str "rule", .str n, .str r, encT ts, encB b])), none] M _
    refine ws_seq (ws_set (w_op (w_lstI (wa_cons (w_bm ?_)))))
    walk_at "f"
    refine ⟨ty_lst lsv_dat, ?_⟩
    walk_at "f"
    refine wm_indexS (ys := words4) 2 (by decide +kernel) (by decide +kernel) (by decide +kernel) ?_
    walk_at "f"
    refine ⟨_, rfl, ?_⟩
    walk_at "f"
    refine ⟨n, rfl, ht.1, by omega, ?_⟩
    refine w2_catE (by simp; omega) ?_
    walk_at "f"
    refine ⟨r, rfl, ht.2.1, by omega, ?_⟩
    refine w2_catE (by simp; omega) ?_
    walk_at "f"
    refine ⟨ts, rfl, ht.2.2.1, by omega, ?_⟩
    refine w2_catE (by simp; omega) ?_
    walk_at "f"
    refine ⟨b, rfl, ht.2.2.2, by omega, ?_⟩
    refine w2_catE (by simp; omega) ?_
    exact q
  · have hl : ([3] ++ cS n ++ cB b).length ≤ 990000 := hl
    simp only [List.length_append, List.length_singleton] at hl
    show WS K _ [some (.dat (.tuple [.str "denial", .str n, encB b])), none] M _
    refine ws_seq (ws_set (w_op (w_lstI (wa_cons (w_bm ?_)))))
    walk_at "f"
    refine ⟨ty_lst lsv_dat, ?_⟩
    walk_at "f"
    refine wm_indexS (ys := words4) 3 (by decide +kernel) (by decide +kernel) (by decide +kernel) ?_
    walk_at "f"
    refine ⟨_, rfl, ?_⟩
    walk_at "f"
    refine ⟨n, rfl, ht.1, by omega, ?_⟩
    refine w2_catE (by simp; omega) ?_
    walk_at "f"
    refine ⟨b, rfl, ht.2, by omega, ?_⟩
    refine w2_catE (by simp; omega) ?_
    exact q
abbrev A_lchg : ASp := A_w Chk.enc Chk.ok cC
theorem ok_lchg (T : Txt K mg a d) : FnOk P w K mg base CX0 10 a.law_change_code d.law_change_code ["_law_change"] (conc K A_lchg) := by
  have G_law_string_code : FnOk P w K mg base CX0 3 a.law_string_code d.law_string_code ["_law_text"] (conc K A_lstr) := ok_lstr T
  have G_law_row_code : FnOk P w K mg base CX0 5 a.law_row_code d.law_row_code ["_law_row_here"] (conc K A_lrow) := ok_lrow T
  have G_law_item_code : FnOk P w K mg base CX0 9 a.law_item_code d.law_item_code ["_law_item_here"] (conc K A_litem) := ok_litem T
  refine ab_ok T.F_law_change_code sc_law_change_code (fun ss M Q ⟨x, e, _⟩ => by subst e; rfl) fun cdv Ar outer s H E hr => ?_
  have hu64 := hr.units
  have hu65 := room65 hr
  refine ⟨_, (pss_cons (ps_if (pt_cmpR (r := rEqD K) (op_eqD hu64) (pe_ix (r := rIxT K) ix_tup (pv 0) pe_int (fun _ _ => rfl)) pe_str (nomark _)) (pss_one (ps_ret (pe_op (r := rCatL K) op_catL (pe_lst (pa_cons pe_int pa_nil)) (pe_call G_law_item_code (hr.mono (by omega)) (by rfl) T.g_law_item_code T.F_law_item_code.kp T.b_law_item_code .nil pass0 (pa_cons (pe_ix (r := rIxT K) ix_tup (pv 0) pe_int (fun _ _ => rfl)) pa_nil))))) pss_nil)
  (pss_cons (ps_asg (pe_ix (r := rIxT K) ix_tup (pv 0) pe_int (fun _ _ => rfl)) (pg_tupK (K := K) (n := 3) rfl rfl (pgs_cons (pg_name (i := 1) sc_law_change_code.nd rfl (Or.inl rfl)) (pgs_cons (pg_name (i := 2) sc_law_change_code.nd rfl (Or.inl rfl)) (pgs_cons (pg_name (i := 3) sc_law_change_code.nd rfl (Or.inl rfl)) pgs_nil)))))
  (pss_one (ps_ret (pe_op (r := rCatL K) op_catL (pe_op (r := rCatL K) op_catL (pe_lst (pa_cons pe_int (pa_cons (pv 1) pa_nil))) (pe_call G_law_string_code (hr.mono (by omega)) (by rfl) T.g_law_string_code T.F_law_string_code.kp T.b_law_string_code .nil pass0 (pa_cons (pv 2) pa_nil))) (pe_call G_law_row_code (hr.mono (by omega)) (by rfl) T.g_law_row_code T.F_law_row_code.kp T.b_law_row_code .nil pass0 (pa_cons (pv 3) pa_nil))))))), ?_⟩
  rintro ss M Q ⟨c, rfl, hc, hl, q⟩
  walk_at "k"
  cases c with
  | comes it =>
    have hl : ([0] ++ cI it).length ≤ 990000 := hl
    simp only [List.length_append, List.length_singleton] at hl
    show WS K _ [some (.dat (.tuple [.str "comes", it.enc])), none, none, none] M _
    walk_at "f"
    refine ⟨it, rfl, hc, by omega, ?_⟩
    refine w2_catE (by simp; omega) ?_
    exact q
  | goes k =>
    have hl : ([1, k.s] ++ cS k.n ++ cR k.row).length ≤ 990000 := hl
    simp only [List.length_append, List.length_cons, List.length_nil] at hl
    show WS K _ [some (.dat (.tuple [.str "goes", .tuple [.int k.s, .str k.n, encR k.row]])), none, none, none] M _
    walk_at "f"
    refine ws_seq (ws_asg ?_)
    walk_at "f"
    refine wg_tup rfl rfl (wgs_cons (wg_name (wgs_cons (wg_name (wgs_cons (wg_name (wgs_nil ?_)))))))
    walk_at "f"
    refine ⟨k.n, rfl, hc.1.1, by omega, ?_⟩
    refine w2_catE (by simp; omega) ?_
    walk_at "f"
    refine ⟨k.row, rfl, hc.1.2, by omega, ?_⟩
    refine w2_catE (by simp; omega) ?_
    exact q
def A_anychg : ASp := fun ss M Q => ∃ p xs n, ss = [.raw (.ref p), .int n] ∧ M p = some (.lst xs) ∧ DrawL xs ∧ 0 ≤ n ∧ n ≤ 60 ∧ ∀ cs ys, (∀ c ∈ cs, Chk.ok c ∧ Chk.sm c) → (cs.length : Int) ≤ n → DrawL ys → Q (.dat (encCs cs)) (um M p (.lst ys))
theorem chk_key {it : Item} (h : it.ok) (hs : it.sm) : (Chk.goes (keyOf it)).ok ∧ (Chk.goes (keyOf it)).sm := by
  refine ⟨⟨key_ok h, ?_⟩, ?_⟩
  · cases it <;> exact ⟨by simp [Ab.keyOf], by simp [Ab.keyOf]⟩
  · cases it with
    | fact n row => exact hs
    | relation n w => exact Nat.zero_le _
    | rule n r ts b => exact Nat.zero_le _
    | denial n b => exact Nat.zero_le _
theorem ok_anychg (T : Txt K mg a d) : FnOk P w K mg base CX0 8 a.law_any_changes d.law_any_changes ["_law_state", "_law_most"] (conc K A_anychg) := by
  have G_law_next : FnOk P w K mg base CX0 1 a.law_next d.law_next ["_law_state", "_law_limit"] (conc K A_next) := ok_next T
  have G_law_item : FnOk P w K mg base CX0 7 a.law_item d.law_item ["_law_state"] (conc K A_item) := ok_item T
  have G_law_key : FnOk P w K mg base CX0 1 a.law_key d.law_key ["_law_item_here"] (conc K A_law_key) := ok_law_key T
  refine ab_ok T.F_law_any_changes sc_law_any_changes (fun ss M Q ⟨_, _, _, e, _⟩ => by subst e; rfl) fun cdv Ar outer s H E hr => ?_
  have hu64 := hr.units
  have hu65 := room65 hr
  refine ⟨_, (pss_cons (ps_set (i := 2) sc_law_any_changes.nd rfl (Or.inl rfl) (pe_lst pa_nil))
  (pss_cons (ps_for PassesOwn.never rfl (pi_range1 rfl T.n_range (pa_cons (pe_call G_law_next (hr.mono (by omega)) (by rfl) T.g_law_next T.F_law_next.kp T.b_law_next .nil pass0 (pa_cons (pv 0) (pa_cons (pe_op op_add (pv 1) pe_int) pa_nil))) pa_nil)) (pg_name (i := 3) sc_law_any_changes.nd rfl (Or.inl rfl)) (pss_cons (ps_set (i := 4) sc_law_any_changes.nd rfl (Or.inl rfl) (pe_call G_law_item (hr.mono (by omega)) (by rfl) T.g_law_item T.F_law_item.kp T.b_law_item .nil pass0 (pa_cons (pv 0) pa_nil)))
  (pss_one (ps_expr (pe_bm PySem.F.plainAttrs_list PySem.F.slot_list_append PySem.F.type_list_append mt_append (pv 2) (pa_cons (pe_ix (r := rIxL K) ix_list (pe_lst (pa_cons (pe_tup (pa_cons pe_str (pa_cons (pv 4) pa_nil))) (pa_cons (pe_tup (pa_cons pe_str (pa_cons (pe_call G_law_key (hr.mono (by omega)) (by rfl) T.g_law_key T.F_law_key.kp T.b_law_key .nil pass0 (pa_cons (pv 4) pa_nil)) pa_nil))) pa_nil))) (pe_call G_law_next (hr.mono (by omega)) (by rfl) T.g_law_next T.F_law_next.kp T.b_law_next .nil pass0 (pa_cons (pv 0) (pa_cons pe_int pa_nil))) (fun _ _ => rfl)) pa_nil))))))
  (pss_one (ps_ret (pv 2))))), ?_⟩
  rintro ss M Q ⟨p, xs, n, rfl, hM, hD, n0, n1, q⟩
  walk_at "k"
  obtain ⟨M0, rfl⟩ : ∃ M0, M = um M0 p (.lst xs) := ⟨M, (um_id hM).symm⟩
  simp only [um_um] at q
  show WS K _ [some (.raw (.ref p)), some (.int n), none, none, none] (um M0 p (.lst xs)) _
  refine ws_seq (ws_set (w_lstM (wa_nil ⟨by simp, fun L hL => ?_⟩)))
  have Lp : L ≠ p := fun z => by rw [z, um_same] at hL; cases hL
  have hL0 : M0 L = none := by rwa [um_ne Lp] at hL
  rw [um_comm Lp.symm]
  show WS K _ [some (.raw (.ref p)), some (.int n), some (.raw (.ref L)), none, none] (um (um M0 L (.lst [])) p (.lst xs)) _
  refine ws_seq (ws_forRn ?_)
  walk_at "f"
  refine a_next hD (by omega) (by omega) fun m ys m0 m1 hD1 => ?_
  walk_at "f"
  refine ⟨m, rfl, by omega, by omega, fun i ρ' M' => ∃ (cs : List Chk) (zs : List Sl) (z1 z2 : Option Sl), ρ' = [some (.raw (.ref p)), some (.int n), some (.raw (.ref L)), z1, z2] ∧ M' = um (um M0 L (.lst ((cs.map Chk.enc).map .dat))) p (.lst zs) ∧ DrawL zs ∧ cs.length = i ∧ ∀ c ∈ cs, Chk.ok c ∧ Chk.sm c,
    ⟨[], ys, none, none, rfl, rfl, hD1, rfl, fun c h => nomatch h⟩, ?_, ?_⟩
  · rintro i ρ' M' hi ⟨cs, zs, z1, z2, rfl, rfl, hD2, hl, hcs⟩
    refine wg_name ?_
    walk_at "f"
    refine a_gen0 hD2 rfl fun d zs hP hD3 => ?_
    obtain ⟨it, rfl, hit, hsm⟩ := hP
    walk_at "f"
    have hML : ∀ ws, um (um M0 L (.lst ((cs.map Chk.enc).map .dat))) p (.lst ws) L = some (.lst ((cs.map Chk.enc).map .dat)) := fun ws => by rw [um_ne Lp]; exact um_same
    refine w_bm ?_
    walk_at "f"
    refine ⟨ty_lst (lsv_ref (hML _)), ?_⟩
    walk_at "f"
    refine ⟨it, rfl, ?_⟩
    walk_at "f"
    refine a_next hD3 (by decide) (by decide) fun k us k0 k1 hD4 => ?_
    walk_at "f"
    intro dd hdd
    obtain ⟨c, rfl, hc⟩ : ∃ c : Chk, dd = c.enc ∧ c.ok ∧ c.sm := by
      simp only [List.mem_cons, List.not_mem_nil, or_false] at hdd
      rcases hdd with rfl | rfl
      · exact ⟨.comes it, rfl, hit, hsm⟩
      · exact ⟨.goes (keyOf it), rfl, chk_key hit hsm⟩
    walk_at "f"
    refine wm_append (hML _) (by simp; omega) ?_
    refine ⟨cs ++ [c], us, _, _, rfl, ?_, hD4, by rw [List.length_append, hl]; rfl, fun c' hc' => ?_⟩
    · rw [um_comm Lp.symm, um_um, List.map_append, List.map_append]
      rfl
    · rcases List.mem_append.mp hc' with h | h
      · exact hcs c' h
      · rw [List.mem_singleton.mp h]; exact hc
  · rintro ρ' M' ⟨cs, zs, z1, z2, rfl, rfl, hD2, hl, hcs⟩
    rw [um_comm Lp]
    refine ws_ret (w_frz (w_var rfl ⟨L, cs.map Chk.enc, rfl, um_same, ?_⟩))
    rw [del_um (by rw [um_ne Lp]; exact hL0)]
    exact q cs zs hcs (by omega) hD2
end
end
section
local macro_rules | `(tactic| walk_at "fl") => `(tactic| with_reducible first | exact sl_r _ | exact sl_f _ | exact sl_u _ | exact sl_n _)
section
variable {P : Program} {w : World} {K : PySem.W.Frag} {mg : Str → Option Value} {base : Heap} {a : AD} {d : FD}
def A_placed : ASp := fun ss M Q => ∃ os it, ss = [.dat (.list (List.map Item.enc os)), .dat (Item.enc it)] ∧ (∀ x ∈ os, x.ok) ∧ it.ok ∧ os.length ≤ 1000 ∧ Q (.dat (.list ((placedI os it).map Item.enc))) M
theorem ok_placed (T : Txt K mg a d) : FnOk P w K mg base CX0 4 a.law_placed d.law_placed ["_law_items_here", "_law_item_here"] (conc K A_placed) := by
  have G_law_key := ok_law_key (P := P) (w := w) (base := base) T
  have G_law_key_order := ok_law_key_order (P := P) (w := w) (base := base) T
  refine ab_ok T.F_law_placed sc_law_placed (fun ss M Q ⟨os, it, e, _⟩ => by subst e; rfl) fun cdv Ar outer s H E hr => ?_
  have hu64 := hr.units
  refine ⟨_, (pss_cons (ps_setLc (i := 2) (own := [("_law_other", 3)]) rfl sc_law_placed.nd rfl rfl (sw_true rfl rfl rfl (by decide +kernel)) (pi_list (pv 0)) (blkOk_by (own := [("_law_other", 3)]) (N := ["_law_items_here", "_law_item_here", "_law_before_here", "_law_other", "_law_behind"]) (sc := (defScope s_law_placed)) (by decide +kernel)) (fun _ _ _ _ _ => (pg_name (i := 3) sc_law_placed.nd rfl (Or.inl rfl))) (fun _ _ _ _ _ => pts_one (pt_cmpR op_lt (pe_call G_law_key_order (hr.mono (by omega)) (by rfl) T.g_law_key_order T.F_law_key_order.kp T.b_law_key_order .nil pass0 (pa_cons (pe_call G_law_key (hr.mono (by omega)) (by rfl) T.g_law_key T.F_law_key.kp T.b_law_key .nil pass0 (pa_cons (pv 3) pa_nil)) (pa_cons (pe_call G_law_key (hr.mono (by omega)) (by rfl) T.g_law_key T.F_law_key.kp T.b_law_key .nil pass0 (pa_cons (pv 1) pa_nil)) pa_nil))) pe_int (nomark _))) (fun _ _ _ _ _ => (pv 3)))
  (pss_cons (ps_setLc (i := 4) (own := [("_law_other", 3)]) rfl sc_law_placed.nd rfl rfl (sw_true rfl rfl rfl (by decide +kernel)) (pi_list (pv 0)) (blkOk_by (own := [("_law_other", 3)]) (N := ["_law_items_here", "_law_item_here", "_law_before_here", "_law_other", "_law_behind"]) (sc := (defScope s_law_placed)) (by decide +kernel)) (fun _ _ _ _ _ => (pg_name (i := 3) sc_law_placed.nd rfl (Or.inl rfl))) (fun _ _ _ _ _ => pts_one (pt_cmpR op_gt (pe_call G_law_key_order (hr.mono (by omega)) (by rfl) T.g_law_key_order T.F_law_key_order.kp T.b_law_key_order .nil pass0 (pa_cons (pe_call G_law_key (hr.mono (by omega)) (by rfl) T.g_law_key T.F_law_key.kp T.b_law_key .nil pass0 (pa_cons (pv 3) pa_nil)) (pa_cons (pe_call G_law_key (hr.mono (by omega)) (by rfl) T.g_law_key T.F_law_key.kp T.b_law_key .nil pass0 (pa_cons (pv 1) pa_nil)) pa_nil))) pe_int (nomark _))) (fun _ _ _ _ _ => (pv 3)))
  (pss_one (ps_ret (pe_op (r := rCatL K) op_catL (pe_op (r := rCatL K) op_catL (pv 2) (pe_lst (pa_cons (pv 1) pa_nil))) (pv 4)))))), ?_⟩
  rintro ss M Q ⟨os, it, rfl, ho, hi, hl, q⟩
  walk_at "k"
  show WS K _ [some (.dat (.list (os.map Item.enc))), some (.dat it.enc), none, none, none] M _
  refine ws_seq (ws_set (w_lcF (xs := os) (enc := Item.enc) (M1 := M) (by decide) (w_var rfl ⟨rfl, rfl⟩) (by omega) (fun x => decide (ordK (keyOf x) (keyOf it) < 0)) Item.enc (fun x D o hx hD => ?_) (fun x D o hx _ hD => w_var rfl ⟨rfl, rfl⟩) ?_))
  · walk_at "f"
    refine ⟨x, rfl, ?_⟩
    walk_at "f"
    refine ⟨it, rfl, ?_⟩
    walk_at "f"
    refine ⟨keyOf x, keyOf it, rfl, key_ok (ho x hx), key_ok hi, ?_⟩
    walk_at "f"
    exact ⟨rfl, rfl⟩
  refine ws_seq (ws_set (w_lcF (xs := os) (enc := Item.enc) (M1 := M) (by decide) (w_var rfl ⟨rfl, rfl⟩) (by omega) (fun x => decide (0 < ordK (keyOf x) (keyOf it))) Item.enc (fun x D o hx hD => ?_) (fun x D o hx _ hD => w_var rfl ⟨rfl, rfl⟩) ?_))
  · walk_at "f"
    refine ⟨x, rfl, ?_⟩
    walk_at "f"
    refine ⟨it, rfl, ?_⟩
    walk_at "f"
    refine ⟨keyOf x, keyOf it, rfl, key_ok (ho x hx), key_ok hi, ?_⟩
    walk_at "f"
    exact ⟨rfl, rfl⟩
  have l1 := List.length_filter_le (fun x => decide (ordK (keyOf x) (keyOf it) < 0)) os
  have l2 := List.length_filter_le (fun x => decide (0 < ordK (keyOf x) (keyOf it))) os
  refine ws_ret (w_op (w_op (w_var rfl (w_lstD (wa_cons (w_var rfl (wa_nil ⟨_, rfl, by simp, w2_cat lsv_dat lsv_dat (by rw [List.length_map]; simp; omega) ?_⟩)))))))
  refine w_var rfl (w2_cat lsv_dat lsv_dat (by rw [List.length_append, List.length_map, List.length_map]; simp; omega) ?_)
  have : ((os.filter fun x => decide (ordK (keyOf x) (keyOf it) < 0)).map Item.enc ++ [it.enc]) ++ (os.filter fun x => decide (0 < ordK (keyOf x) (keyOf it))).map Item.enc = (placedI os it).map Item.enc := by
    unfold placedI
    rw [List.map_append, List.map_append]
    rfl
  rw [this]
  exact q
def A_litems : ASp := fun ss M Q => ∃ p xs n, ss = [.raw (.ref p), .int n] ∧ M p = some (.lst xs) ∧ DrawL xs ∧ 0 ≤ n ∧ n ≤ 60 ∧ ∀ its ys, (∀ it ∈ its, Item.ok it ∧ Item.sm it) → (its.length : Int) ≤ n → DrawL ys → Q (.dat (.tuple [.list (its.map Item.enc), .list ((orderd its).map Item.enc)])) (Ab.um M p (.lst ys))
theorem ok_litems (T : Txt K mg a d) : FnOk P w K mg base CX0 8 a.law_items d.law_items ["_law_state", "_law_most"] (conc K A_litems) := by
  have G_law_next : FnOk P w K mg base CX0 1 a.law_next d.law_next ["_law_state", "_law_limit"] (conc K A_next) := ok_next T
  have G_law_item := ok_item (P := P) (w := w) (base := base) T
  have G_law_placed := ok_placed (P := P) (w := w) (base := base) T
  refine ab_ok T.F_law_items sc_law_items (fun ss M Q ⟨p, xs, n, e, _⟩ => by subst e; rfl) fun cdv Ar outer s H E hr => ?_
  have hu64 := hr.units
  refine ⟨_, (pss_cons (ps_setLc (i := 2) (own := [("_law_k", 3)]) rfl sc_law_items.nd rfl rfl (sw_true rfl rfl rfl (by decide +kernel)) (pi_range1 rfl T.n_range (pa_cons (pe_call G_law_next (hr.mono (by omega)) (by rfl) T.g_law_next T.F_law_next.kp T.b_law_next .nil pass0 (pa_cons (pv 0) (pa_cons (pe_op op_add (pv 1) pe_int) pa_nil))) pa_nil)) (blkOk_by (own := [("_law_k", 3)]) (N := ["_law_state", "_law_most", "_law_items_here", "_law_k", "_law_ordered", "_law_item_here"]) (sc := (defScope s_law_items)) (by decide +kernel)) (fun _ _ _ _ _ => (pg_name (i := 3) sc_law_items.nd rfl (Or.inl rfl))) (fun _ _ _ _ _ => pts_nil) (fun _ _ _ _ _ => (pe_call G_law_item (hr.mono (by omega)) (by rfl) T.g_law_item T.F_law_item.kp T.b_law_item .nil pass0 (pa_cons (pv 0) pa_nil))))
  (pss_cons (ps_set (i := 4) sc_law_items.nd rfl (Or.inl rfl) (pe_lst pa_nil))
  (pss_cons (ps_for PassesOwn.never rfl (pi_list (pv 2)) (pg_name (i := 5) sc_law_items.nd rfl (Or.inl rfl)) (pss_one (ps_set (i := 4) sc_law_items.nd rfl (Or.inl rfl) (pe_call G_law_placed (hr.mono (by omega)) (by rfl) T.g_law_placed T.F_law_placed.kp T.b_law_placed .nil pass0 (pa_cons (pv 4) (pa_cons (pv 5) pa_nil))))))
  (pss_one (ps_ret (pe_tup (pa_cons (pv 2) (pa_cons (pv 4) pa_nil)))))))), ?_⟩
  rintro ss M Q ⟨p, xs, n, rfl, hp, hD, h0, h1, q⟩
  walk_at "k"
  show WS K _ [some (.raw (.ref p)), some (.int n), none, none, none, none] M _
  refine ws_seq (ws_set (w_lcGen (p := p) (by decide) (fun d => ∃ t : Item, d = t.enc ∧ t.ok ∧ t.sm) ?_))
  walk_at "f"
  refine ⟨p, _, xs, rfl, hp, hD, by omega, Int.le_trans (b := 100) (by omega) (by decide), fun v zs v0 v1 hD1 => ?_⟩
  refine wa_nil ⟨v, M, zs, rfl, rfl, hD1, by omega, by omega, fun i M2 us hi hu => ?_, fun ds zs hz hln hP => ?_⟩
  · walk_at "f"
    refine a_gen0 hu rfl fun d zs hP hD => ?_
    exact ⟨d, zs, rfl, rfl, hD, hP⟩
  obtain ⟨its, rfl, hits⟩ := list_enc (f := Item.enc) (R := fun t => Item.ok t ∧ Item.sm t) hP
  rw [List.length_map] at hln
  generalize hM1 : Ab.um M p (.lst zs) = M1
  refine ws_seq (ws_set (w_lstD (wa_nil ⟨[], rfl, by simp, ?_⟩)))
  refine ws_seq (ws_forD (xs := its) (enc := Item.enc) (M1 := M1) (w_var rfl ⟨rfl, rfl⟩)
    (fun pre ρ' M' => ∃ y3 y5, ρ' = [some (.raw (.ref p)), some (.int n), some (.dat (.list (its.map Item.enc))), y3, some (.dat (.list ((orderd pre).map Item.enc))), y5] ∧ M' = M1) ⟨_, none, rfl, rfl⟩ ?_ ?_)
  · rintro pre x post ρ' M' hx ⟨y3, y5, rfl, rfl⟩
    have hpre : ∀ z ∈ pre, Item.ok z := fun z hz => (hits z (by rw [hx]; exact List.mem_append_left _ hz)).1
    have hxo : Item.ok x := (hits x (by rw [hx]; simp)).1
    have hpl : pre.length ≤ its.length := by rw [hx, List.length_append]; omega
    have := orderd_len pre
    refine wg_name ?_
    walk_at "f"
    refine ⟨orderd pre, x, rfl, orderd_ok hpre, hxo, by omega, ?_⟩
    rw [← orderd_snoc]
    exact ⟨_, _, rfl, rfl⟩
  rintro ρ' M' ⟨y3, y5, rfl, rfl⟩
  refine ws_ret (w_tupD (wa_cons (w_var rfl (wa_cons (w_var rfl (wa_nil ⟨_, rfl, by simp, ?_⟩))))))
  rw [← hM1]
  exact q its zs hits (by omega) hz
end
end
section
local macro_rules | `(tactic| walk_at "fl") => `(tactic| with_reducible first | exact rf_data _ _ | exact rf_at _ _)
section
variable {P : Program} {w : World} {K : PySem.W.Frag} {mg : Str → Option Value} {base : Heap} {a : AD} {d : FD}
/-- what is read is written again -/
def pAg (f : Int) : Prs (List Int) :=
  if f = 0 then Prs.thn pNum fun x => Prs.ret (cN x) else if f = 1 then Prs.thn pVal fun x => Prs.ret (cV x) else if f = 2 then Prs.thn pRow fun x => Prs.ret (cR x) else
  if f = 3 then Prs.thn pBody fun x => Prs.ret (cB x) else if f = 4 then Prs.thn pItem fun x => Prs.ret (cI x) else if f = 5 then Prs.thn pChg fun x => Prs.ret (cC x) else Prs.thn pChgs fun x => Prs.ret (cCs x)
theorem iv_one {α : Type} {p : Prs α} {code : α → List Int} {R : α → Prop} {D z r : List Int} (hp : Iv p code R) (bD : Byt D) (lD : D.length ≤ 900000) (h : Prs.thn p (fun x => Prs.ret (code x)) D = some (z, r)) : D = z ++ r := by
  obtain ⟨x, D1, rfl, _, _, _, h1⟩ := iv_thn hp bD lD h
  cases h1
  rfl
theorem iv_ag {f : Int} {D z r : List Int} (bD : Byt D) (lD : D.length ≤ 900000) (h : pAg f D = some (z, r)) : D = z ++ r := by
  unfold pAg at h
  repeat' (first | exact iv_one iv_num bD lD h | exact iv_one iv_val bD lD h | exact iv_one iv_row bD lD h | exact iv_one iv_body bD lD h | exact iv_one iv_item bD lD h | exact iv_one iv_chg bD lD h | exact iv_one iv_chgs bD lD h | split at h)
def A_again (C Ex : Addr) : ASpX := fun ss M Q X => ∃ (f : Int) (c : Rx) (D : List Int), c.C = C ∧ c.Ex = Ex ∧ ss = [.raw (.ref c.o), .int f] ∧ M = c.m D ∧ c.Ok ∧ D <:+ c.all ∧ c.all.length ≤ 900000 ∧ c.Fut (pAg f) D (fun z M' => Q (lsm .int z) M') X
theorem ok_again (T : Txt K mg a d) : FnOk P w K mg base (L2.CX P w) 14 a.law_again d.law_again ["_law_reader", "_law_form"] (concX K (A_again a.Reader a.DamagedData)) := by
  have G_Reader_read_number : FnOk P w K mg base (L2.CX P w) 3 a.Reader_read_number d.Reader_read_number ["self"] (concX K (A_rd a.Reader a.DamagedData pNum .int)) := ok_num T
  have G_Reader_read_value : FnOk P w K mg base (L2.CX P w) 6 a.Reader_read_value d.Reader_read_value ["self"] (concX K (A_rd a.Reader a.DamagedData pVal Val.enc)) := ok_rval T
  have G_Reader_read_row : FnOk P w K mg base (L2.CX P w) 7 a.Reader_read_row d.Reader_read_row ["self"] (concX K (A_rd a.Reader a.DamagedData pRow encR)) := ok_rrow T
  have G_Reader_read_body : FnOk P w K mg base (L2.CX P w) 10 a.Reader_read_body d.Reader_read_body ["self"] (concX K (A_rd a.Reader a.DamagedData pBody encB)) := ok_rbody T
  have G_Reader_read_item : FnOk P w K mg base (L2.CX P w) 11 a.Reader_read_item d.Reader_read_item ["self"] (concX K (A_rd a.Reader a.DamagedData pItem Item.enc)) := ok_ritem T
  have G_Reader_read_change : FnOk P w K mg base (L2.CX P w) 12 a.Reader_read_change d.Reader_read_change ["self"] (concX K (A_rd a.Reader a.DamagedData pChg Chk.enc)) := ok_rchg T
  have G_Reader_read_changes : FnOk P w K mg base (L2.CX P w) 13 a.Reader_read_changes d.Reader_read_changes ["self"] (concX K (A_rd a.Reader a.DamagedData pChgs encCs')) := ok_rchgs T
  have G_write_number : FnOk P w K mg base CX0 1 a.write_number d.write_number ["number"] (conc K A_wnum) := ok_write_number T
  have G_write_value : FnOk P w K mg base CX0 4 a.write_value d.write_value ["value"] (conc K A_wval) := ok_write_value T
  have G_write_row : FnOk P w K mg base CX0 5 a.write_row d.write_row ["row"] (conc K A_wrow) := ok_write_row T
  have G_write_body : FnOk P w K mg base CX0 8 a.write_body d.write_body ["body"] (conc K A_wbody) := ok_write_body T
  have G_write_item : FnOk P w K mg base CX0 9 a.write_item d.write_item ["item"] (conc K A_witem) := ok_write_item T
  have G_write_change : FnOk P w K mg base CX0 10 a.write_change d.write_change ["change"] (conc K A_wchg) := ok_write_change T
  have G_write_changes : FnOk P w K mg base CX0 11 a.write_changes d.write_changes ["changes"] (conc K A_wchgs) := ok_write_changes T
  refine ab_okX T.F_law_again sc_law_again (fun ss M Q X ⟨f, c, D, _, _, e, _⟩ => by subst e; rfl) fun cdv Ar outer s H E hr => ?_
  have hu64 := hr.units
  refine ⟨_, (pss_cons (ps_if (pt_cmpR (r := rEqD K) (op_eqD hu64) (pv 1) pe_int (nomark _)) (pss_one (ps_ret (pe_call G_write_number (hr.mono (by omega)) (by rfl) T.g_write_number T.F_write_number.kp T.b_write_number .nil pass0 (pa_cons (pe_methD0 (pv 0) T.cl_Reader T.m_Reader_read_number G_Reader_read_number (hr.mono (by omega)) T.b_Reader_read_number .nil (fun σ => passAt (takes_of rfl rfl rfl rfl) σ)) pa_nil)))) pss_nil)
  (pss_cons (ps_if (pt_cmpR (r := rEqD K) (op_eqD hu64) (pv 1) pe_int (nomark _)) (pss_one (ps_ret (pe_call G_write_value (hr.mono (by omega)) (by rfl) T.g_write_value T.F_write_value.kp T.b_write_value .nil pass0 (pa_cons (pe_methD0 (pv 0) T.cl_Reader T.m_Reader_read_value G_Reader_read_value (hr.mono (by omega)) T.b_Reader_read_value .nil (fun σ => passAt (takes_of rfl rfl rfl rfl) σ)) pa_nil)))) pss_nil)
  (pss_cons (ps_if (pt_cmpR (r := rEqD K) (op_eqD hu64) (pv 1) pe_int (nomark _)) (pss_one (ps_ret (pe_call G_write_row (hr.mono (by omega)) (by rfl) T.g_write_row T.F_write_row.kp T.b_write_row .nil pass0 (pa_cons (pe_methD0 (pv 0) T.cl_Reader T.m_Reader_read_row G_Reader_read_row (hr.mono (by omega)) T.b_Reader_read_row .nil (fun σ => passAt (takes_of rfl rfl rfl rfl) σ)) pa_nil)))) pss_nil)
  (pss_cons (ps_if (pt_cmpR (r := rEqD K) (op_eqD hu64) (pv 1) pe_int (nomark _)) (pss_one (ps_ret (pe_call G_write_body (hr.mono (by omega)) (by rfl) T.g_write_body T.F_write_body.kp T.b_write_body .nil pass0 (pa_cons (pe_methD0 (pv 0) T.cl_Reader T.m_Reader_read_body G_Reader_read_body (hr.mono (by omega)) T.b_Reader_read_body .nil (fun σ => passAt (takes_of rfl rfl rfl rfl) σ)) pa_nil)))) pss_nil)
  (pss_cons (ps_if (pt_cmpR (r := rEqD K) (op_eqD hu64) (pv 1) pe_int (nomark _)) (pss_one (ps_ret (pe_call G_write_item (hr.mono (by omega)) (by rfl) T.g_write_item T.F_write_item.kp T.b_write_item .nil pass0 (pa_cons (pe_methD0 (pv 0) T.cl_Reader T.m_Reader_read_item G_Reader_read_item (hr.mono (by omega)) T.b_Reader_read_item .nil (fun σ => passAt (takes_of rfl rfl rfl rfl) σ)) pa_nil)))) pss_nil)
  (pss_cons (ps_if (pt_cmpR (r := rEqD K) (op_eqD hu64) (pv 1) pe_int (nomark _)) (pss_one (ps_ret (pe_call G_write_change (hr.mono (by omega)) (by rfl) T.g_write_change T.F_write_change.kp T.b_write_change .nil pass0 (pa_cons (pe_methD0 (pv 0) T.cl_Reader T.m_Reader_read_change G_Reader_read_change (hr.mono (by omega)) T.b_Reader_read_change .nil (fun σ => passAt (takes_of rfl rfl rfl rfl) σ)) pa_nil)))) pss_nil)
  (pss_one (ps_ret (pe_call G_write_changes (hr.mono (by omega)) (by rfl) T.g_write_changes T.F_write_changes.kp T.b_write_changes .nil pass0 (pa_cons (pe_methD0 (pv 0) T.cl_Reader T.m_Reader_read_changes G_Reader_read_changes (hr.mono (by omega)) T.b_Reader_read_changes .nil (fun σ => passAt (takes_of rfl rfl rfl rfl) σ)) pa_nil)))))))))), ?_⟩
  rintro ss M Q X ⟨f, c, D, hC, hE, rfl, rfl, ok, hs, h9, F⟩
  walk_at "k"
  show WS _ _ [some (.raw (.ref c.o)), some (.int f)] (c.m D) _
  have bD : Byt D := fun b hb => ok.by' b (hs.subset hb)
  have lD : D.length ≤ 900000 := Nat.le_trans hs.length_le h9
  unfold pAg at F
  walk_at "f"
  refine ite_d (fun hf => ?_) (fun hf => ?_)
  · rw [if_pos hf] at F
    walk_at "f"
    refine w_rd F hC hE ok hs rfl (fun _ => by kernel_rfl) (fun _ _ _ h => h) fun x r h hr F => ?_
    obtain ⟨eD, hx⟩ := iv_num D x r bD lD h
    walk_at "f"
    exact ⟨x, rfl, hx.1, hx.2, .inr (F.ret hr)⟩
  rw [if_neg hf] at F
  walk_at "f"
  refine ite_d (fun hf => ?_) (fun hf => ?_)
  · rw [if_pos hf] at F
    walk_at "f"
    refine w_rd F hC hE ok hs rfl (fun _ => by kernel_rfl) (fun _ _ _ h => h) fun x r h hr F => ?_
    obtain ⟨eD, hx⟩ := iv_val D x r bD lD h
    have := congrArg List.length eD
    rw [List.length_append] at this
    walk_at "f"
    exact ⟨x, rfl, hx, by omega, F.ret hr⟩
  rw [if_neg hf] at F
  walk_at "f"
  refine ite_d (fun hf => ?_) (fun hf => ?_)
  · rw [if_pos hf] at F
    walk_at "f"
    refine w_rd F hC hE ok hs rfl (fun _ => by kernel_rfl) (fun _ _ _ h => h) fun x r h hr F => ?_
    obtain ⟨eD, hx⟩ := iv_row D x r bD lD h
    have := congrArg List.length eD
    rw [List.length_append] at this
    walk_at "f"
    exact ⟨x, rfl, hx, by omega, F.ret hr⟩
  rw [if_neg hf] at F
  walk_at "f"
  refine ite_d (fun hf => ?_) (fun hf => ?_)
  · rw [if_pos hf] at F
    walk_at "f"
    refine w_rd F hC hE ok hs rfl (fun _ => by kernel_rfl) (fun _ _ _ h => h) fun x r h hr F => ?_
    obtain ⟨eD, hx⟩ := iv_body D x r bD lD h
    have := congrArg List.length eD
    rw [List.length_append] at this
    walk_at "f"
    exact ⟨x, rfl, hx, by omega, F.ret hr⟩
  rw [if_neg hf] at F
  walk_at "f"
  refine ite_d (fun hf => ?_) (fun hf => ?_)
  · rw [if_pos hf] at F
    walk_at "f"
    refine w_rd F hC hE ok hs rfl (fun _ => by kernel_rfl) (fun _ _ _ h => h) fun x r h hr F => ?_
    obtain ⟨eD, hx⟩ := iv_item D x r bD lD h
    have := congrArg List.length eD
    rw [List.length_append] at this
    walk_at "f"
    exact ⟨x, rfl, hx, by omega, F.ret hr⟩
  rw [if_neg hf] at F
  walk_at "f"
  refine ite_d (fun hf => ?_) (fun hf => ?_)
  · rw [if_pos hf] at F
    walk_at "f"
    refine w_rd F hC hE ok hs rfl (fun _ => by kernel_rfl) (fun _ _ _ h => h) fun x r h hr F => ?_
    obtain ⟨eD, hx⟩ := iv_chg D x r bD lD h
    have := congrArg List.length eD
    rw [List.length_append] at this
    walk_at "f"
    exact ⟨x, rfl, hx, by omega, F.ret hr⟩
  rw [if_neg hf] at F
  walk_at "f"
  refine w_rd F hC hE ok hs rfl (fun _ => by kernel_rfl) (fun _ _ _ h => h) fun x r h hr F => ?_
  obtain ⟨eD, hx⟩ := iv_chgs D x r bD lD h
  have := congrArg List.length eD
  rw [List.length_append] at this
  walk_at "f"
  exact ⟨x, rfl, hx, by omega, F.ret hr⟩
/-- a reader just made -/
theorem newRx {M : MH} {o dx l C Ex : Addr} {D : List Int} (ho : M o = none) (hl : um M o (.ins C dx []) l = none) (bD : Byt D) (lD : D.length ≤ 900000) :
    ∃ c : Rx, c.C = C ∧ c.Ex = Ex ∧ c.o = o ∧ c.all = D ∧ c.Ok ∧ um (um (um M o (.ins C dx [])) l (.lst (bys D))) o (rdO C dx l 0) = c.m D ∧ ∀ b u, M b = some u → b ≠ c.o ∧ c.M0 b = some u := by
  have lo : l ≠ o := fun z => by rw [z, um_same] at hl; cases hl
  have hl1 : M l = none := by rwa [um_ne lo] at hl
  refine ⟨⟨C, Ex, o, dx, l, D, um (um M o (.ins C dx [])) l (.lst (bys D))⟩, rfl, rfl, rfl, rfl, ⟨um_same, lo, bD, by show D.length ≤ _; omega⟩, ?_, fun b u hb => ?_⟩
  · show _ = um _ o (rdO C dx l ((D.length : Int) - D.length))
    rw [Int.sub_self]
  · have b1 : b ≠ o := fun z => by rw [z, ho] at hb; cases hb
    have b3 : b ≠ l := fun z => by rw [z, hl1] at hb; cases hb
    refine ⟨b1, ?_⟩
    show um (um M o _) l _ b = _
    rw [um_ne b3, um_ne b1]
    exact hb
def tryD (f : Int) (D : List Int) : PyData := match pAg f D with
  | none => .list [.bool true, .none]
  | some (_, r) => .list [.bool true, .int ((D.length : Int) - r.length)]
def A_tried : ASp := fun ss M Q => ∃ (D : List Int) (f : Int), ss = [lsm .int D, .int f] ∧ Byt D ∧ D.length ≤ 900000 ∧ ∀ M', (∀ b u, M b = some u → M' b = some u) → Q (.dat (tryD f D)) M'
theorem ok_bys {D : List Int} (h : D.length ≤ 1000000) : okD 1 (.list (D.map .int)) = true := okD_mkL (by rw [List.length_map]; exact h) (okAll_of fun d hd => by
  obtain ⟨i, _, rfl⟩ := List.mem_map.mp hd
  rfl)
theorem ok_tried (T : Txt K mg a d) : FnOk P w K mg base CX0 15 a.law_tried d.law_tried ["_law_data", "_law_form"] (conc K A_tried) := by
  have cl := T.cl_Reader
  have n1 := T.na_Reader_at
  have G_law_same : FnOk P w K mg base CX0 10 a.law_same d.law_same ["_law_actual", "_law_expected"] (conc K (A_sameN 10)) := ok_sameN T 10
  have G_Reader___init__ : FnOk P w K mg base CX0 1 a.Reader___init__ d.Reader___init__ ["self", "data"] (conc K (A_rinit (K := K) a.Reader)) := ok_rinit T
  have G_law_again : FnOk P w K mg base (L2.CX P w) 14 a.law_again d.law_again ["_law_reader", "_law_form"] (concX K (A_again a.Reader a.DamagedData)) := ok_again T
  refine ab_ok T.F_law_tried sc_law_tried (fun ss M Q ⟨_, _, e, _⟩ => by subst e; rfl) fun cdv Ar outer s H E hr => ?_
  have hu64 := hr.units
  refine ⟨_, (pss_cons (ps_set (i := 2) sc_law_tried.nd rfl (Or.inl rfl) (pe_make T.mk_Reader G_Reader___init__ (hr.mono (by omega)) (by rfl) T.g_Reader T.b_Reader___init__ .nil pass0 (pa_cons (pe_callTy (r := rListS K) call_list_of (by rfl) T.n_list (by decide +kernel) (pa_cons (pv 0) pa_nil)) pa_nil)))
  (pss_cons (ps_tryAs (i := 4) rfl rfl sc_law_tried.nd rfl rfl ⟨rfl, by decide, .inl T.g_RuleError⟩ takes0 (fun W pn xe tk po => (pss_one (ps_set (i := 3) sc_law_tried.nd rfl (Or.inl rfl) (pe_callSD G_law_again (hr.mono (by omega)) (by rfl) T.g_law_again T.F_law_again.kp T.b_law_again .nil (fun σ => passAt tk σ) (pa_cons (pv 2) (pa_cons (pv 1) pa_nil)))))) (fun a1 oe cls d pn hz hf => (pss_one (ps_ret (pe_lst (pa_cons (pe_isE hz hf (by rfl) T.n_isinstance (pa_cons (pv 4) (pa_cons (pe_glob (v := .ref a.DamagedData) (by rfl) T.g_DamagedData rfl) pa_nil))) (pa_cons pe_non pa_nil)))))))
  (pss_one (ps_ret (pe_lst (pa_cons (pe_call G_law_same (hr.mono (by omega)) (by rfl) T.g_law_same T.F_law_same.kp T.b_law_same .nil pass0 (pa_cons (pv 3) (pa_cons (pe_slice (r := rSlL K) sl_list (pv 0) po_none (po_some (pe_fld (pv 2) rfl))) pa_nil))) (pa_cons (pe_fld (pv 2) rfl) pa_nil))))))), ?_⟩
  rintro ss M Q ⟨D, f, rfl, bD, lD, q⟩
  walk_at "k"
  show WS K _ [some (lsm .int D), some (.int f), none, none, none] M _
  refine ws_seq (ws_set (w_make (wa_cons (w_cb (wa_cons (w_var rfl (wa_nil (wl_listE (wa_nil fun o dx ho => ?_)))))))))
  refine ⟨o, dx, _, D, rfl, um_same, lsv_dat, fun l hl0 => ⟨rfl, ?_⟩⟩
  obtain ⟨c, hC, hE, eo, ea, ok, em, kp⟩ := newRx (Ex := a.DamagedData) ho hl0 bD lD
  rw [em]
  subst eo
  have hs : D <:+ c.all := by rw [ea]; exact List.suffix_refl _
  show WS K _ [some (lsm .int D), some (.int f), some (.raw (.ref c.o)), none, none] (c.m D) _
  have kk : ∀ M', c.Keep M' → ∀ b u, M b = some u → M' b = some u := fun M' h b u hb => h b u (kp b u hb).1 (kp b u hb).2
  unfold tryD at q
  refine ws_seq (ws_tryAs (fun C d ρ' M' => C = .ref a.DamagedData ∧ d = none ∧ (∃ y z, ρ' = [some (lsm .int D), some (.int f), some (.raw (.ref c.o)), y, z]) ∧ c.Keep M' ∧ pAg f D = none) (fun W => ?_) ?_)
  · refine ws_set (w_callX (wa_cons (w_var rfl (wa_cons (w_var rfl (wa_nil ⟨f, c, D, hC, hE, rfl, rfl, ok, hs, by rw [ea]; exact lD, ?_⟩))))))
    refine Rx.Fut.of (fun h M' k => ⟨by rw [hE], rfl, ⟨_, _, rfl⟩, k, h⟩) fun z r h hr => ?_
    rw [h] at q
    have eD := iv_ag bD lD h
    show WS K _ [some (lsm .int D), some (.int f), some (.raw (.ref c.o)), some (lsm .int z), none] (c.m r) _
    have ho' := c.at r
    rw [hC, ea] at ho'
    have e1 : ((D.length : Nat) : Int) - r.length = z.length := by rw [eD, List.length_append]; omega
    have q : ∀ M', (∀ b u, M b = some u → M' b = some u) → Q (.dat (.list [.bool true, .int ((D.length : Int) - r.length)])) M' := q
    rw [e1] at ho' q
    walk_at "f"
    have ec : cutG D none (some (z.length : Int)) = z := by
      rw [cutG_hi _ (by omega), eD, Int.toNat_natCast, List.take_left]
    rw [ec]
    have lz : z.length ≤ 1000000 := by have := congrArg List.length eD; rw [List.length_append] at this; omega
    refine ⟨.list (z.map .int), rfl, okD_upTo (ok_bys lz) (by decide), ?_⟩
    walk_at "f"
    exact q _ (kk _ (c.keep r))
  · rintro C dd ρ' M' ⟨rfl, rfl, ⟨y, z, rfl⟩, hk, hn⟩
    rw [hn] at q
    refine ⟨true, PySem.W.exm_ref T.bs_RuleError T.hd_RuleError T.ty_RuleError T.s_DamagedData_RuleError, fun _ x => ?_, fun e => nomatch e⟩
    refine ws_ret (w_lstD (wa_cons (w_isE rfl rfl T.xc_DamagedData (wa_cons (w_var rfl (wa_cons (w_raw (wa_nil ⟨_, .ref a.DamagedData, true, rfl, fun u r => r, T.ki_DamagedData_DamagedData, wa_cons (w_non (wa_nil ⟨_, rfl, by simp, q _ (kk _ hk)⟩))⟩))))))))
/-- what is left behind an image -/
def imgR (D : List Int) : Option (List Int) := (pImg D).map (·.2)
def imgD (D : List Int) : PyData := match imgR D with
  | none => .list [.bool true, .none]
  | some r => .list [.bool true, .int ((D.length : Int) - r.length)]
def A_imgat : ASp := fun ss M Q => ∃ (D : List Int), ss = [lsm .int D] ∧ Byt D ∧ D.length ≤ 400000 ∧ ∀ M', (∀ b u, M b = some u → M' b = some u) → Q (.dat (imgD D)) M'
theorem ok_imgat (T : Txt K mg a d) : FnOk P w K mg base CX0 13 a.law_image_at d.law_image_at ["_law_data"] (conc K A_imgat) := by
  have cl := T.cl_Reader
  have n1 := T.na_Reader_at
  have G_Reader___init__ : FnOk P w K mg base CX0 1 a.Reader___init__ d.Reader___init__ ["self", "data"] (conc K (A_rinit (K := K) a.Reader)) := ok_rinit T
  have G_Reader_read_image : FnOk P w K mg base (L2.CX P w) 12 a.Reader_read_image d.Reader_read_image ["self"] (concX K (A_rimg a.Reader a.DamagedData)) := ok_rimg T
  refine ab_ok T.F_law_image_at sc_law_image_at (fun ss M Q ⟨_, e, _⟩ => by subst e; rfl) fun cdv Ar outer s H E hr => ?_
  have hu64 := hr.units
  refine ⟨_, (pss_cons (ps_set (i := 1) sc_law_image_at.nd rfl (Or.inl rfl) (pe_make T.mk_Reader G_Reader___init__ (hr.mono (by omega)) (by rfl) T.g_Reader T.b_Reader___init__ .nil pass0 (pa_cons (pe_callTy (r := rListS K) call_list_of (by rfl) T.n_list (by decide +kernel) (pa_cons (pv 0) pa_nil)) pa_nil)))
  (pss_cons (ps_tryAs (i := 2) rfl rfl sc_law_image_at.nd rfl rfl ⟨rfl, by decide, .inl T.g_RuleError⟩ takes0 (fun W pn xe tk po => (pss_one (ps_expr (pe_methD0 (pv 1) T.cl_Reader T.m_Reader_read_image G_Reader_read_image (hr.mono (by omega)) T.b_Reader_read_image .nil (fun σ => passAt tk σ))))) (fun a1 oe cls d pn hz hf => (pss_one (ps_ret (pe_lst (pa_cons (pe_isE hz hf (by rfl) T.n_isinstance (pa_cons (pv 2) (pa_cons (pe_glob (v := .ref a.DamagedData) (by rfl) T.g_DamagedData rfl) pa_nil))) (pa_cons pe_non pa_nil)))))))
  (pss_one (ps_ret (pe_lst (pa_cons pe_bl (pa_cons (pe_fld (pv 1) rfl) pa_nil))))))), ?_⟩
  rintro ss M Q ⟨D, rfl, bD, lD, q⟩
  walk_at "k"
  show WS K _ [some (lsm .int D), none, none] M _
  refine ws_seq (ws_set (w_make (wa_cons (w_cb (wa_cons (w_var rfl (wa_nil (wl_listE (wa_nil fun o dx ho => ?_)))))))))
  refine ⟨o, dx, _, D, rfl, um_same, lsv_dat, fun l hl0 => ⟨rfl, ?_⟩⟩
  obtain ⟨c, hC, hE, eo, ea, ok, em, kp⟩ := newRx (Ex := a.DamagedData) ho hl0 bD (by omega)
  rw [em]
  subst eo
  have hs : D <:+ c.all := by rw [ea]; exact List.suffix_refl _
  show WS K _ [some (lsm .int D), some (.raw (.ref c.o)), none] (c.m D) _
  have kk : ∀ M', c.Keep M' → ∀ b u, M b = some u → M' b = some u := fun M' h b u hb => h b u (kp b u hb).1 (kp b u hb).2
  unfold imgD imgR at q
  refine ws_seq (ws_tryAs (fun C d ρ' M' => C = .ref a.DamagedData ∧ d = none ∧ (∃ y, ρ' = [some (lsm .int D), some (.raw (.ref c.o)), y]) ∧ c.Keep M' ∧ pImg D = none) (fun W => ?_) ?_)
  · refine ws_drop (w_methX (w_var rfl ⟨c.o, c.dx, _, rfl, by rw [← hC]; exact c.at D, by kernel_rfl, wa_nil ⟨c, D, hC, hE, rfl, rfl, ok, hs, by rw [ea]; exact lD, ?_⟩⟩))
    refine Rx.Fut.of (fun h M' k => ⟨by rw [hE], rfl, ⟨_, rfl⟩, k, h⟩) fun x r h hr v M' ext => ?_
    rw [h] at q
    have q : ∀ M', (∀ b u, M b = some u → M' b = some u) → Q (.dat (.list [.bool true, .int ((D.length : Int) - r.length)])) M' := q
    have ho' := ext _ _ (c.at r)
    rw [hC, ea] at ho'
    refine ws_ret (w_lstD (wa_cons (w_bl (wa_cons (w_fldI rfl ho' cl n1 (rf_at _ _) (wa_nil ⟨_, rfl, by simp, q _ fun b u hb => ?_⟩))))))
    exact ext b u (kk _ (c.keep r) b u hb)
  · rintro C dd ρ' M' ⟨rfl, rfl, ⟨y, rfl⟩, hk, hn⟩
    rw [hn] at q
    refine ⟨true, PySem.W.exm_ref T.bs_RuleError T.hd_RuleError T.ty_RuleError T.s_DamagedData_RuleError, fun _ x => ?_, fun e => nomatch e⟩
    refine ws_ret (w_lstD (wa_cons (w_isE rfl rfl T.xc_DamagedData (wa_cons (w_var rfl (wa_cons (w_raw (wa_nil ⟨_, .ref a.DamagedData, true, rfl, fun u r => r, T.ki_DamagedData_DamagedData, wa_cons (w_non (wa_nil ⟨_, rfl, by simp, q _ (kk _ hk)⟩))⟩))))))))
theorem rep_snd {α : Type} {p : Prs α} (k : Nat) (D : List Int) : (pRep p (k + 1) D).map (·.2) = match p D with
  | none => none
  | some (_, r) => (pRep p k r).map (·.2) := by
  show (Prs.thn p (fun x => Prs.thn (pRep p k) fun xs => Prs.ret (x :: xs)) D).map (·.2) = _
  unfold Prs.thn
  cases p D with
  | none => rfl
  | some z =>
    dsimp only
    cases pRep p k z.2 with
    | none => rfl
    | some y => rfl
/-- an image is a number, a number that is no more than what is left, and so many items -/
theorem imgR_eq (D : List Int) : imgR D = match pNum D with
  | none => none
  | some (_, r) => match pNum r with
    | none => none
    | some (n, r2) => if n ≤ r2.length then (pRep pItem n.toNat r2).map (·.2) else none := by
  unfold imgR pImg pList pCount Prs.thn pLen pNeed Prs.ret
  cases pNum D with
  | none => rfl
  | some z =>
    dsimp only
    cases pNum z.2 with
    | none => rfl
    | some y =>
      dsimp only
      by_cases h : y.1 ≤ (y.2.length : Int)
      · rw [if_pos h, decide_eq_true h, if_pos rfl]
        dsimp only
        cases pRep pItem y.1.toNat y.2 <;> rfl
      · rw [if_neg h, decide_eq_false h, if_neg Bool.false_ne_true]
        rfl
def itR (n : Nat) : Option (List Int) → PyData
  | none => .none
  | some r => .int ((n : Int) - r.length)
def itsD (D : List Int) : PyData := itR D.length (imgR D)
def A_itsat : ASp := fun ss M Q => ∃ (D : List Int), ss = [lsm .int D] ∧ Byt D ∧ D.length ≤ 400000 ∧ ∀ M', (∀ b u, M b = some u → M' b = some u) → Q (.dat (itsD D)) M'
theorem ok_itsat (T : Txt K mg a d) : FnOk P w K mg base CX0 12 a.law_items_at d.law_items_at ["_law_data"] (conc K A_itsat) := by
  have cl := T.cl_Reader
  have n1 := T.na_Reader_at
  have G_Reader___init__ : FnOk P w K mg base CX0 1 a.Reader___init__ d.Reader___init__ ["self", "data"] (conc K (A_rinit (K := K) a.Reader)) := ok_rinit T
  have G_Reader_read_number : FnOk P w K mg base (L2.CX P w) 3 a.Reader_read_number d.Reader_read_number ["self"] (concX K (A_rd a.Reader a.DamagedData pNum .int)) := ok_num T
  have G_Reader_read_item : FnOk P w K mg base (L2.CX P w) 11 a.Reader_read_item d.Reader_read_item ["self"] (concX K (A_rd a.Reader a.DamagedData pItem Item.enc)) := ok_ritem T
  refine ab_ok T.F_law_items_at sc_law_items_at (fun ss M Q ⟨_, e, _⟩ => by subst e; rfl) fun cdv Ar outer s H E hr => ?_
  have hu64 := hr.units
  refine ⟨_, (pss_cons (ps_set (i := 1) sc_law_items_at.nd rfl (Or.inl rfl) (pe_make T.mk_Reader G_Reader___init__ (hr.mono (by omega)) (by rfl) T.g_Reader T.b_Reader___init__ .nil pass0 (pa_cons (pe_callTy (r := rListS K) call_list_of (by rfl) T.n_list (by decide +kernel) (pa_cons (pv 0) pa_nil)) pa_nil)))
  (pss_cons (ps_tryOnly rfl rfl ⟨rfl, by decide, .inl T.g_DamagedData⟩ takes0 (fun W pn xe tk po => (pss_cons (ps_expr (pe_methD0 (pv 1) T.cl_Reader T.m_Reader_read_number G_Reader_read_number (hr.mono (by omega)) T.b_Reader_read_number .nil (fun σ => passAt tk σ)))
  (pss_cons (ps_set (i := 2) sc_law_items_at.nd rfl (Or.inl rfl) (pe_methD0 (pv 1) T.cl_Reader T.m_Reader_read_number G_Reader_read_number (hr.mono (by omega)) T.b_Reader_read_number .nil (fun σ => passAt tk σ)))
  (pss_cons (ps_if (pt_cmpR op_gt (pv 2) (pe_op op_sub (pe_callB (r := rLenS K) call_len_seq (by rfl) T.n_len PySem.boot_len (pa_cons (pv 0) pa_nil)) (pe_fldK (K := K) rfl (pv 1) rfl)) (nomark _)) (pss_one (ps_ret pe_non)) pss_nil)
  (pss_one (ps_for po rfl (pi_range1 rfl T.n_range (pa_cons (pv 2) pa_nil)) (pg_name (i := 3) sc_law_items_at.nd rfl (Or.inl rfl)) (pss_one (ps_expr (pe_methD0 (pv 1) T.cl_Reader T.m_Reader_read_item G_Reader_read_item (hr.mono (by omega)) T.b_Reader_read_item .nil (fun σ => passAt tk σ)))))))))) (fun a1 oe cls d pn _ _ => (pss_one (ps_ret pe_non))))
  (pss_one (ps_ret (pe_fld (pv 1) rfl))))), ?_⟩
  rintro ss M Q ⟨D, rfl, bD, lD, q⟩
  walk_at "k"
  show WS K _ [some (lsm .int D), none, none, none] M _
  refine ws_seq (ws_set (w_make (wa_cons (w_cb (wa_cons (w_var rfl (wa_nil (wl_listE (wa_nil fun o dx ho => ?_)))))))))
  refine ⟨o, dx, _, D, rfl, um_same, lsv_dat, fun l hl0 => ⟨rfl, ?_⟩⟩
  obtain ⟨c, hC, hE, eo, ea, ok, em, kp⟩ := newRx (Ex := a.DamagedData) ho hl0 bD (by omega)
  rw [em]
  subst eo
  have hs : D <:+ c.all := by rw [ea]; exact List.suffix_refl _
  show WS K _ [some (lsm .int D), some (.raw (.ref c.o)), none, none] (c.m D) _
  have kk : ∀ M', c.Keep M' → ∀ b u, M b = some u → M' b = some u := fun M' h b u hb => h b u (kp b u hb).1 (kp b u hb).2
  unfold itsD at q
  have ei := imgR_eq D
  refine ws_seq (ws_tryO (fun C d ρ' M' => C = .ref a.DamagedData ∧ d = none ∧ c.Keep M' ∧ imgR D = none) (fun W => ?_) ?_)
  · refine ws_seq (ws_drop (w_rd0 hC hE ok hs rfl (fun _ => by kernel_rfl) (fun h M' k => ⟨by rw [hE], rfl, k, by rw [ei, h]⟩) fun x1 r1 h1 hr1 => ?_))
    rw [h1] at ei
    dsimp only at ei
    refine ws_seq (ws_set (w_rd0 hC hE ok hr1 rfl (fun _ => by kernel_rfl) (fun h M' k => ⟨by rw [hE], rfl, k, by rw [ei, h]⟩) fun n r2 h2 hr2 => ?_))
    rw [h2] at ei
    dsimp only at ei
    have n0 := num_nonneg h2
    have ho' := c.at r2
    rw [hC, ea] at ho'
    show WS _ _ [some (lsm .int D), some (.raw (.ref c.o)), some (.int n), none] (c.m r2) _
    walk_at "f"
    rw [show (D.length : Int) - ((D.length : Int) - r2.length) = r2.length by omega]
    refine ite_d (fun hn => ?_) (fun hn => ?_)
    · rw [if_neg (by omega)] at ei
      rw [ei] at q
      refine ws_ret (w_non (q _ (kk _ (c.keep r2))))
    · rw [if_pos (by omega)] at ei
      have rl : r2.length ≤ 400000 := by have := hr2.length_le; rw [ea] at this; omega
      refine ws_next ?_
      refine ws_forRn (wa_cons (w_var rfl (wa_nil ?_)))
      refine ⟨n, rfl, by omega, by omega, fun i ρ' M' => ∃ (y : Option Sl) (r : List Int), ρ' = [some (lsm .int D), some (.raw (.ref c.o)), some (.int n), y] ∧ M' = c.m r ∧ r <:+ c.all ∧ imgR D = (pRep pItem (n.toNat - i) r).map (·.2), ⟨none, r2, rfl, rfl, hr2, ei⟩, ?_, ?_⟩
      · rintro i ρ' M' hi ⟨y, r, rfl, rfl, hr, e⟩
        have ek : n.toNat - i = (n.toNat - (i + 1)) + 1 := by omega
        rw [ek, rep_snd] at e
        refine wg_name ?_
        show WS _ _ [some (lsm .int D), some (.raw (.ref c.o)), some (.int n), some (.int (i : Int))] (c.m r) _
        refine ws_drop (w_rd0 hC hE ok hr rfl (fun _ => by kernel_rfl) (fun h M' k => ⟨by rw [hE], rfl, k, by rw [e, h]⟩) fun x r' h hr' => ?_)
        rw [h] at e
        exact ⟨_, r', rfl, rfl, hr', e⟩
      · rintro ρ' M' ⟨y, r, rfl, rfl, hr, e⟩
        rw [Nat.sub_self] at e
        have e : imgR D = some r := e
        rw [e] at q
        have ho' := c.at r
        rw [hC, ea] at ho'
        walk_at "f"
        exact q _ (kk _ (c.keep r))
  · rintro C dd ρ' M' ⟨rfl, rfl, hk, hn⟩
    rw [hn] at q
    refine ⟨true, PySem.W.exm_ref T.bs_DamagedData T.hd_DamagedData T.ty_DamagedData T.s_DamagedData_DamagedData, fun _ x => ?_, fun e => nomatch e⟩
    exact ws_ret (w_non (q _ (kk _ hk)))
end
end
section
section
variable {P : Program} {w : World} {K : PySem.W.Frag} {mg : Str → Option Value} {base : Heap} {a : AD} {d : FD}
/-- bytes, not too many -/
def FewB (d : PyData) : Prop := ∃ D : List Int, d = .list (D.map .int) ∧ Byt D ∧ D.length ≤ 390000
theorem ok_drawn (T : Txt K mg a d) : FnOk P w K mg base CX0 12 a.law_drawn d.law_drawn ["_law_state"] (conc K (A_draw FewB)) := by
  have G_law_next : FnOk P w K mg base CX0 1 a.law_next d.law_next ["_law_state", "_law_limit"] (conc K A_next) := ok_next T
  have G_law_items : FnOk P w K mg base CX0 8 a.law_items d.law_items ["_law_state", "_law_most"] (conc K A_litems) := ok_litems T
  have G_law_value : FnOk P w K mg base CX0 2 a.law_value d.law_value ["_law_state"] (conc K (A_draw fun d => isVal d = true)) := ok_value T
  have G_law_body : FnOk P w K mg base CX0 6 a.law_body d.law_body ["_law_state"] (conc K A_body) := ok_body T
  have G_law_item : FnOk P w K mg base CX0 7 a.law_item d.law_item ["_law_state"] (conc K A_item) := ok_item T
  have G_law_any_changes : FnOk P w K mg base CX0 8 a.law_any_changes d.law_any_changes ["_law_state", "_law_most"] (conc K A_anychg) := ok_anychg T
  have G_law_number : FnOk P w K mg base CX0 1 a.law_number d.law_number ["_law_number_here"] (conc K A_lnum) := ok_lnum T
  have G_law_listed : FnOk P w K mg base CX0 2 a.law_listed d.law_listed ["_law_parts"] (conc K A_wits) := ok_llisted T
  have G_law_value_code : FnOk P w K mg base CX0 4 a.law_value_code d.law_value_code ["_law_value_here"] (conc K A_lval) := ok_lval T
  have G_law_body_code : FnOk P w K mg base CX0 8 a.law_body_code d.law_body_code ["_law_body_here"] (conc K A_lbody) := ok_lbody T
  have G_law_item_code : FnOk P w K mg base CX0 9 a.law_item_code d.law_item_code ["_law_item_here"] (conc K A_litem) := ok_litem T
  have G_law_change_code : FnOk P w K mg base CX0 10 a.law_change_code d.law_change_code ["_law_change"] (conc K A_lchg) := ok_lchg T
  refine ab_ok T.F_law_drawn sc_law_drawn (fun ss M Q ⟨p, xs, ds, e, e2, _⟩ => by subst e e2; rfl) fun cdv Ar outer s H E hr => ?_
  have hu64 := hr.units
  refine ⟨_, (pss_cons (ps_if (pt_cmpR (r := rEqD K) (op_eqD hu64) (pe_call G_law_next (hr.mono (by omega)) (by rfl) T.g_law_next T.F_law_next.kp T.b_law_next .nil pass0 (pa_cons (pv 0) (pa_cons pe_int pa_nil))) pe_int (nomark _)) (pss_one (ps_ret (pe_lc (own := [("_law_k", 1)]) rfl sc_law_drawn.nd (pi_range1 rfl T.n_range (pa_cons (pe_call G_law_next (hr.mono (by omega)) (by rfl) T.g_law_next T.F_law_next.kp T.b_law_next .nil pass0 (pa_cons (pv 0) (pa_cons pe_int pa_nil))) pa_nil)) (blkOk_by (own := [("_law_k", 1)]) (N := ["_law_state", "_law_k", "_law_items_here", "_law_things", "_law_each", "_law_item_here", "_law_data", "_law_at", "_law_byte", "_law_pick"]) (sc := (defScope s_law_drawn)) (by decide +kernel)) (fun _ _ _ _ _ => (pg_name (i := 1) sc_law_drawn.nd rfl (Or.inl rfl))) (fun _ _ _ _ _ => pts_nil) (fun _ _ _ _ _ => (pe_ix (r := rIxL K) ix_list (pe_lst (pa_cons (pe_call G_law_next (hr.mono (by omega)) (by rfl) T.g_law_next T.F_law_next.kp T.b_law_next .nil pass0 (pa_cons (pv 0) (pa_cons pe_int pa_nil))) (pa_cons (pe_call G_law_next (hr.mono (by omega)) (by rfl) T.g_law_next T.F_law_next.kp T.b_law_next .nil pass0 (pa_cons (pv 0) (pa_cons pe_int pa_nil))) pa_nil))) (pe_call G_law_next (hr.mono (by omega)) (by rfl) T.g_law_next T.F_law_next.kp T.b_law_next .nil pass0 (pa_cons (pv 0) (pa_cons pe_int pa_nil))) (fun _ _ => rfl)))))) pss_nil)
  (pss_cons (ps_set (i := 2) sc_law_drawn.nd rfl (Or.inl rfl) (pe_ix (r := rIxT K) ix_tup (pe_call G_law_items (hr.mono (by omega)) (by rfl) T.g_law_items T.F_law_items.kp T.b_law_items .nil pass0 (pa_cons (pv 0) (pa_cons pe_int pa_nil))) pe_int (fun _ _ => rfl)))
  (pss_cons (ps_set (i := 3) sc_law_drawn.nd rfl (Or.inl rfl) (pe_lst (pa_cons (pe_call G_law_number (hr.mono (by omega)) (by rfl) T.g_law_number T.F_law_number.kp T.b_law_number .nil pass0 (pa_cons (pe_call G_law_next (hr.mono (by omega)) (by rfl) T.g_law_next T.F_law_next.kp T.b_law_next .nil pass0 (pa_cons (pv 0) (pa_cons (pe_op op_pow pe_int pe_int) pa_nil))) pa_nil)) (pa_cons (pe_call G_law_value_code (hr.mono (by omega)) (by rfl) T.g_law_value_code T.F_law_value_code.kp T.b_law_value_code .nil pass0 (pa_cons (pe_call G_law_value (hr.mono (by omega)) (by rfl) T.g_law_value T.F_law_value.kp T.b_law_value .nil pass0 (pa_cons (pv 0) pa_nil)) pa_nil)) (pa_cons (pe_call G_law_body_code (hr.mono (by omega)) (by rfl) T.g_law_body_code T.F_law_body_code.kp T.b_law_body_code .nil pass0 (pa_cons (pe_call G_law_body (hr.mono (by omega)) (by rfl) T.g_law_body T.F_law_body.kp T.b_law_body .nil pass0 (pa_cons (pv 0) pa_nil)) pa_nil)) (pa_cons (pe_call G_law_item_code (hr.mono (by omega)) (by rfl) T.g_law_item_code T.F_law_item_code.kp T.b_law_item_code .nil pass0 (pa_cons (pe_call G_law_item (hr.mono (by omega)) (by rfl) T.g_law_item T.F_law_item.kp T.b_law_item .nil pass0 (pa_cons (pv 0) pa_nil)) pa_nil)) (pa_cons (pe_call G_law_listed (hr.mono (by omega)) (by rfl) T.g_law_listed T.F_law_listed.kp T.b_law_listed .nil pass0 (pa_cons (pe_lc (own := [("_law_each", 4)]) rfl sc_law_drawn.nd (pi_list (pe_call G_law_any_changes (hr.mono (by omega)) (by rfl) T.g_law_any_changes T.F_law_any_changes.kp T.b_law_any_changes .nil pass0 (pa_cons (pv 0) (pa_cons pe_int pa_nil)))) (blkOk_by (own := [("_law_each", 4)]) (N := ["_law_state", "_law_k", "_law_items_here", "_law_things", "_law_each", "_law_item_here", "_law_data", "_law_at", "_law_byte", "_law_pick"]) (sc := (defScope s_law_drawn)) (by decide +kernel)) (fun _ _ _ _ _ => (pg_name (i := 4) sc_law_drawn.nd rfl (Or.inl rfl))) (fun _ _ _ _ _ => pts_nil) (fun _ _ _ _ _ => (pe_call G_law_change_code (hr.mono (by omega)) (by rfl) T.g_law_change_code T.F_law_change_code.kp T.b_law_change_code .nil pass0 (pa_cons (pv 4) pa_nil)))) pa_nil)) (pa_cons (pe_op (r := rCatL K) op_catL (pe_lst (pa_cons pe_int pa_nil)) (pe_call G_law_listed (hr.mono (by omega)) (by rfl) T.g_law_listed T.F_law_listed.kp T.b_law_listed .nil pass0 (pa_cons (pe_lc (own := [("_law_item_here", 5)]) rfl sc_law_drawn.nd (pi_list (pv 2)) (blkOk_by (own := [("_law_item_here", 5)]) (N := ["_law_state", "_law_k", "_law_items_here", "_law_things", "_law_each", "_law_item_here", "_law_data", "_law_at", "_law_byte", "_law_pick"]) (sc := (defScope s_law_drawn)) (by decide +kernel)) (fun _ _ _ _ _ => (pg_name (i := 5) sc_law_drawn.nd rfl (Or.inl rfl))) (fun _ _ _ _ _ => pts_nil) (fun _ _ _ _ _ => (pe_call G_law_item_code (hr.mono (by omega)) (by rfl) T.g_law_item_code T.F_law_item_code.kp T.b_law_item_code .nil pass0 (pa_cons (pv 5) pa_nil)))) pa_nil))) pa_nil))))))))
  (pss_cons (ps_set (i := 6) sc_law_drawn.nd rfl (Or.inl rfl) (pe_ix (r := rIxL K) ix_list (pv 3) (pe_call G_law_next (hr.mono (by omega)) (by rfl) T.g_law_next T.F_law_next.kp T.b_law_next .nil pass0 (pa_cons (pv 0) (pa_cons pe_int pa_nil))) (fun _ _ => rfl)))
  (pss_cons (ps_set (i := 7) sc_law_drawn.nd rfl (Or.inl rfl) (pe_call G_law_next (hr.mono (by omega)) (by rfl) T.g_law_next T.F_law_next.kp T.b_law_next .nil pass0 (pa_cons (pv 0) (pa_cons (pe_callB (r := rLenS K) call_len_seq (by rfl) T.n_len PySem.boot_len (pa_cons (pv 6) pa_nil)) pa_nil))))
  (pss_cons (ps_set (i := 8) sc_law_drawn.nd rfl (Or.inl rfl) (pe_ix (r := rIxL K) ix_list (pe_lst (pa_cons (pe_call G_law_next (hr.mono (by omega)) (by rfl) T.g_law_next T.F_law_next.kp T.b_law_next .nil pass0 (pa_cons (pv 0) (pa_cons pe_int pa_nil))) (pa_cons (pe_call G_law_next (hr.mono (by omega)) (by rfl) T.g_law_next T.F_law_next.kp T.b_law_next .nil pass0 (pa_cons (pv 0) (pa_cons pe_int pa_nil))) pa_nil))) (pe_call G_law_next (hr.mono (by omega)) (by rfl) T.g_law_next T.F_law_next.kp T.b_law_next .nil pass0 (pa_cons (pv 0) (pa_cons pe_int pa_nil))) (fun _ _ => rfl)))
  (pss_cons (ps_set (i := 9) sc_law_drawn.nd rfl (Or.inl rfl) (pe_call G_law_next (hr.mono (by omega)) (by rfl) T.g_law_next T.F_law_next.kp T.b_law_next .nil pass0 (pa_cons (pv 0) (pa_cons pe_int pa_nil))))
  (pss_one (ps_ret (pe_ix (r := rIxL K) ix_list (pe_lst (pa_cons (pv 6) (pa_cons (pe_slice (r := rSlL K) sl_list (pv 6) po_none (po_some (pv 7))) (pa_cons (pe_op (r := rCatL K) op_catL (pe_op (r := rCatL K) op_catL (pe_slice (r := rSlL K) sl_list (pv 6) po_none (po_some (pv 7))) (pe_lst (pa_cons (pv 8) pa_nil))) (pe_slice (r := rSlL K) sl_list (pv 6) (po_some (pe_op op_add (pv 7) pe_int)) po_none)) (pa_cons (pe_op (r := rCatL K) op_catL (pe_slice (r := rSlL K) sl_list (pv 6) po_none (po_some (pv 7))) (pe_slice (r := rSlL K) sl_list (pv 6) (po_some (pe_op op_add (pv 7) pe_int)) po_none)) (pa_cons (pe_op (r := rCatL K) op_catL (pe_op (r := rCatL K) op_catL (pe_slice (r := rSlL K) sl_list (pv 6) po_none (po_some (pv 7))) (pe_lst (pa_cons (pv 8) pa_nil))) (pe_slice (r := rSlL K) sl_list (pv 6) (po_some (pv 7)) po_none)) pa_nil)))))) (pv 9) (fun _ _ => rfl))))))))))), ?_⟩
  rintro ss M Q ⟨p, xs, ds, rfl, rfl, hM, hD, q⟩
  obtain ⟨M0, rfl⟩ : ∃ M0, M = um M0 p (.lst xs) := ⟨M, (um_id hM).symm⟩
  simp only [um_um] at q
  walk_at "k"
  show WS K _ [some (.ref p), none, none, none, none, none, none, none, none, none] (um M0 p (.lst xs)) _
  walk_at "f"
  refine a_next hD (by decide) (by decide) fun v ys h0 h1 hD1 => ?_
  walk_at "f"
  refine ite_d (fun h => ?_) (fun h => ?_)
  · walk_at "f"
    refine w_lcGen (p := p) (by decide) (fun d => ∃ n : Int, d = .int n ∧ 0 ≤ n ∧ n < 256) ?_
    walk_at "f"
    refine a_next hD1 (by decide) (by decide) fun n zs n0 n1 hD4 => ?_
    walk_at "f"
    refine ⟨n, M0, zs, rfl, rfl, hD4, by omega, by omega, fun i M2 us hi hu => ?_, fun ds us hu hl hP => ?_⟩
    · walk_at "f"
      refine a_next hu (by decide) (by decide) fun x zs x0 x1 hD5 => ?_
      walk_at "f"
      refine a_next hD5 (by decide) (by decide) fun y zs y0 y1 hD6 => ?_
      walk_at "f"
      refine a_next hD6 (by decide) (by decide) fun z zs z0 z1 hD7 => ?_
      walk_at "f"
      intro e he
      simp only [List.mem_cons, List.not_mem_nil, or_false] at he
      rcases he with rfl | rfl
      · exact ⟨_, zs, rfl, rfl, hD7, _, rfl, x0, x1⟩
      · exact ⟨_, zs, rfl, rfl, hD7, _, rfl, y0, by omega⟩
    · obtain ⟨D, rfl, hB⟩ := list_enc (f := fun n : Int => PyData.int n) (R := fun n => 0 ≤ n ∧ n < 256) hP
      rw [List.length_map] at hl
      exact q _ _ ⟨D, rfl, hB, by omega⟩ hu
  walk_at "f"
  refine ⟨p, ys, 4, rfl, um_same, hD1, by decide, by decide, fun its zs hits hlen hD2 => ?_⟩
  rw [um_um]
  refine w_int (w2_ixT rfl ?_)
  show WS K _ [some (.ref p), none, some (.dat (.list (its.map Item.enc))), none, none, none, none, none, none, none] (um M0 p (.lst zs)) _
  refine ws_seq (ws_set (w_lstD (wa_cons ?_)))
  walk_at "f"
  refine a_next hD2 (by decide) (by decide) fun n1 zs n10 n11 hD3 => ?_
  walk_at "f"
  refine ⟨n1, rfl, n10, Int.lt_trans n11 (by decide +kernel), ?_⟩
  walk_at "f"
  refine a_gen0 hD3 rfl fun d zs hP hD4 => ?_
  obtain ⟨v2, rfl, hv2⟩ := isVal_of hP
  have l2 := lenV_le hv2
  walk_at "f"
  refine ⟨v2, rfl, hv2, by omega, ?_⟩
  walk_at "f"
  refine a_gen0 hD4 rfl fun d zs hP hD5 => ?_
  obtain ⟨b3, rfl, hb3, sb3⟩ := hP
  have l3 := lenB_le hb3 sb3
  walk_at "f"
  refine ⟨b3, rfl, hb3, by omega, ?_⟩
  walk_at "f"
  refine a_gen0 hD5 rfl fun d zs hP hD6 => ?_
  obtain ⟨i4, rfl, hi4, si4⟩ := hP
  have l4 := lenI_le hi4 si4
  walk_at "f"
  refine ⟨i4, rfl, hi4, by omega, ?_⟩
  refine wa_cons ?_
  refine w_call (wa_cons ?_)
  refine w_lcDX (by decide) Chk Chk.enc (fun c => bsD (cC c)) ?_
  walk_at "f"
  refine ⟨p, zs, 3, rfl, um_same, hD6, by decide, by decide, fun cs zs hcs hlc hD7 => ?_⟩
  rw [um_um]
  refine ⟨cs, rfl, by omega, fun x D o hx hD => ?_, ?_⟩
  · have lx := lenK_le (hcs x hx).1 (hcs x hx).2
    walk_at "f"
    exact ⟨x, rfl, (hcs x hx).1, by omega, rfl, rfl⟩
  have l5 := lenCs_le hcs (by omega)
  refine wa_nil (wits_of (by omega) (by show (cCs cs).length ≤ _; omega) ?_)
  refine wa_cons (w_op (w_lstI (wa_cons (w_int (wa_nil ?_)))))
  walk_at "f"
  refine ⟨[7], rfl, by simp, ?_⟩
  refine w_call (wa_cons ?_)
  refine w_lcD (xs := its) (enc := Item.enc) (M1 := um M0 p (.lst zs)) (by decide) (w_var rfl ⟨rfl, rfl⟩) (by omega) (fun x => bsD (cI x)) (fun x D o hx hD => ?_) ?_
  · have lx := lenI_le (hits x hx).1 (hits x hx).2
    walk_at "f"
    exact ⟨x, rfl, (hits x hx).1, by omega, rfl, rfl⟩
  have l6 : (cL (its.map cI)).length ≤ 2 + 4 * 2000 := lenL_le (by omega) (by omega) fun x hx => lenI_le (hits x hx).1 (hits x hx).2
  refine wa_nil (wits_of (by omega) (by omega) ?_)
  refine w2_catE (by simp; omega) ?_
  refine wa_nil ⟨_, rfl, by simp, ?_⟩
  have l1 := lenN_le (n := n1) (Int.lt_trans n11 (by decide +kernel))
  have all : ∀ e ∈ [bsD (cN n1), bsD (cV v2), bsD (cB b3), bsD (cI i4), bsD (cCs cs), bsD ([7] ++ cL (its.map cI))], ∃ D : List Int, e = bsD D ∧ Byt D ∧ D.length ≤ 380000 ∧ D ≠ [] := by
    have ne : ∀ {D : List Int}, 1 ≤ D.length → D ≠ [] := fun h e => by rw [e] at h; cases h
    intro e he
    simp only [List.mem_cons, List.not_mem_nil, or_false] at he
    rcases he with rfl | rfl | rfl | rfl | rfl | rfl
    · exact ⟨_, rfl, byt_N (Int.lt_trans n11 (by decide +kernel)), by omega, ne (lenC_pos _)⟩
    · exact ⟨_, rfl, byt_V hv2, by omega, ne (lenV_pos _)⟩
    · exact ⟨_, rfl, byt_B hb3, by omega, ne (lenL_pos _)⟩
    · exact ⟨_, rfl, byt_I hi4, by omega, ne (lenI_pos _)⟩
    · exact ⟨_, rfl, byt_Cs (fun c hc => (hcs c hc).1) (by omega), by omega, ne (lenL_pos _)⟩
    · exact ⟨_, rfl, byt_app byt_1 (byt_L (Nat.lt_of_le_of_lt (show its.length ≤ 4 by omega) (by decide +kernel)) fun x hx => byt_I (hits x hx).1), by rw [List.length_append, List.length_singleton]; omega, fun e => nomatch e⟩
  show WS K _ [some (.ref p), none, some (.dat (.list (its.map Item.enc))), some (.dat (.list [bsD (cN n1), bsD (cV v2), bsD (cB b3), bsD (cI i4), bsD (cCs cs), bsD ([7] ++ cL (its.map cI))])), none, none, none, none, none, none] (um M0 p (.lst zs)) _
  generalize hth : ([bsD (cN n1), bsD (cV v2), bsD (cB b3), bsD (cI i4), bsD (cCs cs), bsD ([7] ++ cL (its.map cI))] : List PyData) = things at all
  have len6 : things.length = 6 := by rw [← hth]; rfl
  walk_at "f"
  refine a_next hD7 (by decide) (by decide) fun k zs k0 k1 hD8 => ?_
  refine w2_ixAny (by omega) (by rw [len6]; omega) fun d hd => ?_
  obtain ⟨D, rfl, bD, lD, nD⟩ := all d hd
  have pD : 0 < D.length := List.length_pos_iff.mpr nD
  walk_at "f"
  refine a_next hD8 (by omega) (by omega) fun at' zs at0 at1 hD9 => ?_
  walk_at "f"
  refine a_next hD9 (by decide) (by decide) fun x zs x0 x1 hD10 => ?_
  walk_at "f"
  refine a_next hD10 (by decide) (by decide) fun y zs y0 y1 hD11 => ?_
  walk_at "f"
  refine a_next hD11 (by decide) (by decide) fun z zs z0 z1 hD12 => ?_
  walk_at "f"
  intro e he
  obtain ⟨b, rfl, b0, b1⟩ : ∃ b : Int, e = .int b ∧ 0 ≤ b ∧ b < 256 := by
    simp only [List.mem_cons, List.not_mem_nil, or_false] at he
    rcases he with rfl | rfl
    · exact ⟨_, rfl, x0, x1⟩
    · exact ⟨_, rfl, y0, by omega⟩
  walk_at "f"
  refine a_next hD12 (by decide) (by decide) fun pk zs pk0 pk1 hD13 => ?_
  have c1 := cutG_len D none (some at')
  have c2 := cutG_len D (some (at' + 1)) none
  have c3 := cutG_len D (some at') none
  have b1' : ∀ lo hi, Byt (cutG D lo hi) := fun lo hi c hc => bD c (by unfold cutG at hc; exact List.mem_of_mem_drop (List.mem_of_mem_take hc))
  have b2' : Byt [b] := byt_1 b0 b1
  walk_at "f"
  have all5 : ∀ e ∈ [bsD D, bsD (cutG D none (some at')), bsD (cutG D none (some at') ++ [b] ++ cutG D (some (at' + 1)) none), bsD (cutG D none (some at') ++ cutG D (some (at' + 1)) none), bsD (cutG D none (some at') ++ [b] ++ cutG D (some at') none)], FewB e := by
    have cut : ∀ {E : List Int}, Byt E → E.length ≤ 390000 → FewB (bsD E) := fun h1 h2 => ⟨_, rfl, h1, h2⟩
    intro e he
    simp only [List.mem_cons, List.not_mem_nil, or_false] at he
    rcases he with rfl | rfl | rfl | rfl | rfl
    · exact cut bD (by omega)
    · exact cut (b1' _ _) (by omega)
    · refine cut (byt_app (byt_app (b1' _ _) b2') (b1' _ _)) ?_
      rw [List.length_append, List.length_append, cutG_hi _ at0, cutG_lo _ (by omega), List.length_take, List.length_drop, List.length_singleton]
      omega
    · refine cut (byt_app (b1' _ _) (b1' _ _)) ?_
      rw [List.length_append, cutG_hi _ at0, cutG_lo _ (by omega), List.length_take, List.length_drop]
      omega
    · refine cut (byt_app (byt_app (b1' _ _) b2') (b1' _ _)) ?_
      rw [List.length_append, List.length_append, cutG_hi _ at0, cutG_lo _ (by omega), List.length_take, List.length_drop, List.length_singleton]
      omega
  exact fun e he => q e _ (all5 e he) hD13
end
end
section
section
variable {P : Program} {w : World} {K : PySem.W.Frag} {mg : Str → Option Value} {base : Heap} {a : AD} {d : FD}
/-- what is damaged -/
def Dmg (e : PyData) : Prop := ∃ (f : Int) (D : List Int), e = .tuple [.int f, bsD D] ∧ Byt D ∧ D.length ≤ 1000 ∧ pAg f D = none
theorem num_last : ∀ k n : Nat, n < 128 ^ (k + 1) → ∃ (pre : List Int) (l : Int), cnF k n = pre ++ [l] ∧ (∀ b ∈ pre, 128 ≤ b ∧ b < 256) ∧ 0 ≤ l ∧ l < 128
  | 0, n, h => ⟨[], n, rfl, fun _ h => (nomatch h), by omega, by omega⟩
  | k + 1, n, h => by
    unfold cnF
    by_cases hn : 127 < n
    · rw [if_pos hn]
      obtain ⟨pre, l, e, h1, h2, h3⟩ := num_last k (n / 128) (Nat.div_lt_of_lt_mul (by rw [Nat.pow_succ, Nat.mul_comm] at h; exact h))
      refine ⟨(128 + (n : Int) % 128) :: pre, l, by rw [e]; rfl, fun b hb => ?_, h2, h3⟩
      rcases List.mem_cons.mp hb with rfl | hb
      · omega
      · exact h1 b hb
    · rw [if_neg hn]
      exact ⟨[], n, rfl, fun _ h => (nomatch h), by omega, by omega⟩
theorem needless_no : ∀ (pre : List Int) (l : Int) (j : Nat) (t f : Int) (first : Bool), (∀ b ∈ pre, 128 ≤ b ∧ b < 256) → 0 ≤ l → l < 128 → pNumF j t f first (pre ++ [128 + l, 0]) = none
  | _, _, 0, _, _, _, _, _, _ => rfl
  | [], l, j + 1, t, f, first, _, h0, h1 => by
    show Prs.thn (pByte 256) _ [128 + l, 0] = none
    unfold Prs.thn
    rw [show pByte 256 [128 + l, 0] = some (128 + l, [0]) from if_pos (by omega)]
    dsimp only
    rw [if_neg (by omega)]
    cases j with
    | zero => rfl
    | succ j => rfl
  | b :: pre, l, j + 1, t, f, first, hp, h0, h1 => by
    obtain ⟨b0, b1⟩ := hp b List.mem_cons_self
    show Prs.thn (pByte 256) _ (b :: (pre ++ [128 + l, 0])) = none
    unfold Prs.thn
    rw [show pByte 256 (b :: (pre ++ [128 + l, 0])) = some (b, pre ++ [128 + l, 0]) from if_pos b1]
    dsimp only
    rw [if_neg (by omega)]
    exact needless_no pre l j _ _ _ (fun c hc => hp c (List.mem_cons_of_mem _ hc)) h0 h1
theorem d1 : ∀ k : Nat, k < 254 → pAg 1 [0, 2 + (k : Int), 5] = none := by decide +kernel
theorem d2 : ∀ k : Nat, k < 254 → pAg 1 [2 + (k : Int), 0, 0] = none := by decide +kernel
theorem d3 : ∀ k : Nat, k < 251 → pAg 3 [1, 5 + (k : Int), 0, 0] = none := by decide +kernel
theorem d4 : ∀ k : Nat, k < 250 → pAg 3 [1, 2, 6 + (k : Int), 2, 2] = none := by decide +kernel
theorem d5 : ∀ k : Nat, k < 253 → pAg 3 [1, 3, 0, 3 + (k : Int), 2, 2] = none := by decide +kernel
theorem d6 : ∀ k : Nat, k < 253 → pAg 3 [1, 0, 0, 1, 3 + (k : Int)] = none := by decide +kernel
theorem d7 : ∀ k : Nat, k < 252 → pAg 4 [4 + (k : Int), 0, 0] = none := by decide +kernel
theorem d8 : ∀ k : Nat, k < 254 → pAg 5 [2 + (k : Int), 0, 0, 0] = none := by decide +kernel
theorem d9 : ∀ k : Nat, k < 252 → pAg 5 [1, 4 + (k : Int), 0, 0] = none := by decide +kernel
theorem d0 : ∀ k : Nat, k < 256 → (k < 32 ∨ k = 37 ∨ 127 ≤ k) → pAg 1 [1, 1, (k : Int)] = none := by decide +kernel
theorem dmg {f : Int} {D : List Int} (h : pAg f D = none) (b : Byt D) (l : D.length ≤ 1000) : Dmg (.tuple [.int f, bsD D]) := ⟨f, D, rfl, b, l, h⟩
instance (D : List Int) : Decidable (Byt D) := by unfold Byt; infer_instance
/-- a fault that is written out -/
theorem dmgC {f : Int} {D : List Int} (h : pAg f D = none ∧ Byt D ∧ D.length ≤ 1000) : Dmg (.tuple [.int f, bsD D]) := dmg h.1 h.2.1 h.2.2
theorem dmgK {f v : Int} {n : Nat} {D : Int → List Int} (v0 : 0 ≤ v) (v1 : v < n) (h : ∀ k : Nat, k < n → pAg f (D k) = none) (b : Byt (D v)) (l : (D v).length ≤ 1000) : Dmg (.tuple [.int f, bsD (D v)]) := by
  obtain ⟨k, rfl⟩ := Int.eq_ofNat_of_zero_le v0
  exact dmg (h k (by omega)) b l
abbrev A_faults : ASp := A_draw fun e => ∃ es, e = .list es ∧ es.length ≤ 40 ∧ ∀ x ∈ es, Dmg x
theorem ok_faults (T : Txt K mg a d) : FnOk P w K mg base CX0 2 a.law_faults d.law_faults ["_law_state"] (conc K A_faults) := by
  have G_law_next : FnOk P w K mg base CX0 1 a.law_next d.law_next ["_law_state", "_law_limit"] (conc K A_next) := ok_next T
  have G_law_number : FnOk P w K mg base CX0 1 a.law_number d.law_number ["_law_number_here"] (conc K A_lnum) := ok_lnum T
  refine ab_ok T.F_law_faults sc_law_faults (fun ss M Q ⟨p, xs, ds, e, e2, _⟩ => by subst e e2; rfl) fun cdv Ar outer s H E hr => ?_
  have hu64 := hr.units
  refine ⟨_, (pss_cons (ps_set (i := 1) sc_law_faults.nd rfl (Or.inl rfl) (pe_call G_law_number (hr.mono (by omega)) (by rfl) T.g_law_number T.F_law_number.kp T.b_law_number .nil pass0 (pa_cons (pe_call G_law_next (hr.mono (by omega)) (by rfl) T.g_law_next T.F_law_next.kp T.b_law_next .nil pass0 (pa_cons (pv 0) (pa_cons (pe_op op_pow pe_int pe_int) pa_nil))) pa_nil)))
  (pss_cons (ps_set (i := 2) sc_law_faults.nd rfl (Or.inl rfl) (pe_op (r := rCatL K) op_catL (pe_slice (r := rSlL K) sl_list (pv 1) po_none (po_some (pe_op op_sub (pe_callB (r := rLenS K) call_len_seq (by rfl) T.n_len PySem.boot_len (pa_cons (pv 1) pa_nil)) pe_int))) (pe_lst (pa_cons (pe_op op_add pe_int (pe_ix (r := rIxL K) ix_list (pv 1) (pe_op op_sub (pe_callB (r := rLenS K) call_len_seq (by rfl) T.n_len PySem.boot_len (pa_cons (pv 1) pa_nil)) pe_int) (fun _ _ => rfl))) (pa_cons pe_int pa_nil)))))
  (pss_cons (ps_set (i := 3) sc_law_faults.nd rfl (Or.inl rfl) (pe_ix (r := rIxL K) ix_list (pe_lst (pa_cons (pe_call G_law_next (hr.mono (by omega)) (by rfl) T.g_law_next T.F_law_next.kp T.b_law_next .nil pass0 (pa_cons (pv 0) (pa_cons pe_int pa_nil))) (pa_cons pe_int (pa_cons pe_int (pa_cons (pe_op op_add pe_int (pe_call G_law_next (hr.mono (by omega)) (by rfl) T.g_law_next T.F_law_next.kp T.b_law_next .nil pass0 (pa_cons (pv 0) (pa_cons pe_int pa_nil)))) pa_nil))))) (pe_call G_law_next (hr.mono (by omega)) (by rfl) T.g_law_next T.F_law_next.kp T.b_law_next .nil pass0 (pa_cons (pv 0) (pa_cons pe_int pa_nil))) (fun _ _ => rfl)))
  (pss_cons (ps_set (i := 4) sc_law_faults.nd rfl (Or.inl rfl) (pe_lst (pa_cons (pe_tup (pa_cons pe_int (pa_cons (pv 2) pa_nil))) (pa_cons (pe_tup (pa_cons pe_int (pa_cons (pe_op (r := rCatL K) op_catL (pe_op op_repL (pe_lst (pa_cons pe_int pa_nil)) pe_int) (pe_lst (pa_cons pe_int pa_nil))) pa_nil))) (pa_cons (pe_tup (pa_cons pe_int (pa_cons (pe_lst pa_nil) pa_nil))) (pa_cons (pe_tup (pa_cons pe_int (pa_cons (pe_lst (pa_cons pe_int (pa_cons pe_int (pa_cons pe_int pa_nil)))) pa_nil))) (pa_cons (pe_tup (pa_cons pe_int (pa_cons (pe_lst (pa_cons pe_int (pa_cons (pe_op op_add pe_int (pe_call G_law_next (hr.mono (by omega)) (by rfl) T.g_law_next T.F_law_next.kp T.b_law_next .nil pass0 (pa_cons (pv 0) (pa_cons pe_int pa_nil)))) (pa_cons pe_int pa_nil)))) pa_nil))) pa_nil)))))))
  (pss_cons (ps_set (i := 4) sc_law_faults.nd rfl (Or.inl rfl) (pe_op (r := rCatL K) op_catL (pv 4) (pe_lst (pa_cons (pe_tup (pa_cons pe_int (pa_cons (pe_lst (pa_cons (pe_op op_add pe_int (pe_call G_law_next (hr.mono (by omega)) (by rfl) T.g_law_next T.F_law_next.kp T.b_law_next .nil pass0 (pa_cons (pv 0) (pa_cons pe_int pa_nil)))) (pa_cons pe_int (pa_cons pe_int pa_nil)))) pa_nil))) (pa_cons (pe_tup (pa_cons pe_int (pa_cons (pe_lst (pa_cons pe_int (pa_cons pe_int (pa_cons (pv 3) pa_nil)))) pa_nil))) (pa_cons (pe_tup (pa_cons pe_int (pa_cons (pe_lst (pa_cons pe_int (pa_cons pe_int (pa_cons pe_int (pa_cons pe_int pa_nil))))) pa_nil))) (pa_cons (pe_tup (pa_cons pe_int (pa_cons (pe_lst (pa_cons pe_int (pa_cons pe_int (pa_cons pe_int (pa_cons pe_int pa_nil))))) pa_nil))) (pa_cons (pe_tup (pa_cons pe_int (pa_cons (pe_lst (pa_cons pe_int (pa_cons pe_int pa_nil))) pa_nil))) pa_nil))))))))
  (pss_cons (ps_set (i := 4) sc_law_faults.nd rfl (Or.inl rfl) (pe_op (r := rCatL K) op_catL (pv 4) (pe_lst (pa_cons (pe_tup (pa_cons pe_int (pa_cons (pe_lst (pa_cons pe_int (pa_cons pe_int (pa_cons pe_int pa_nil)))) pa_nil))) (pa_cons (pe_tup (pa_cons pe_int (pa_cons (pe_lst (pa_cons pe_int (pa_cons pe_int (pa_cons pe_int (pa_cons pe_int pa_nil))))) pa_nil))) (pa_cons (pe_tup (pa_cons pe_int (pa_cons (pe_lst (pa_cons pe_int (pa_cons (pe_op op_add pe_int (pe_call G_law_next (hr.mono (by omega)) (by rfl) T.g_law_next T.F_law_next.kp T.b_law_next .nil pass0 (pa_cons (pv 0) (pa_cons pe_int pa_nil)))) (pa_cons pe_int (pa_cons pe_int pa_nil))))) pa_nil))) (pa_cons (pe_tup (pa_cons pe_int (pa_cons (pe_lst (pa_cons pe_int (pa_cons pe_int (pa_cons pe_int pa_nil)))) pa_nil))) (pa_cons (pe_tup (pa_cons pe_int (pa_cons (pe_lst (pa_cons pe_int pa_nil)) pa_nil))) pa_nil))))))))
  (pss_cons (ps_set (i := 4) sc_law_faults.nd rfl (Or.inl rfl) (pe_op (r := rCatL K) op_catL (pv 4) (pe_lst (pa_cons (pe_tup (pa_cons pe_int (pa_cons (pe_lst (pa_cons pe_int (pa_cons pe_int (pa_cons (pe_op op_add pe_int (pe_call G_law_next (hr.mono (by omega)) (by rfl) T.g_law_next T.F_law_next.kp T.b_law_next .nil pass0 (pa_cons (pv 0) (pa_cons pe_int pa_nil)))) (pa_cons pe_int (pa_cons pe_int pa_nil)))))) pa_nil))) (pa_cons (pe_tup (pa_cons pe_int (pa_cons (pe_lst (pa_cons pe_int (pa_cons pe_int (pa_cons pe_int (pa_cons pe_int pa_nil))))) pa_nil))) (pa_cons (pe_tup (pa_cons pe_int (pa_cons (pe_lst (pa_cons pe_int (pa_cons pe_int (pa_cons pe_int (pa_cons (pe_op op_add pe_int (pe_call G_law_next (hr.mono (by omega)) (by rfl) T.g_law_next T.F_law_next.kp T.b_law_next .nil pass0 (pa_cons (pv 0) (pa_cons pe_int pa_nil)))) (pa_cons pe_int (pa_cons pe_int pa_nil))))))) pa_nil))) pa_nil))))))
  (pss_cons (ps_set (i := 4) sc_law_faults.nd rfl (Or.inl rfl) (pe_op (r := rCatL K) op_catL (pv 4) (pe_lst (pa_cons (pe_tup (pa_cons pe_int (pa_cons (pe_lst (pa_cons pe_int (pa_cons pe_int (pa_cons pe_int (pa_cons pe_int (pa_cons pe_int pa_nil)))))) pa_nil))) (pa_cons (pe_tup (pa_cons pe_int (pa_cons (pe_lst (pa_cons pe_int (pa_cons pe_int (pa_cons pe_int (pa_cons pe_int pa_nil))))) pa_nil))) (pa_cons (pe_tup (pa_cons pe_int (pa_cons (pe_lst (pa_cons pe_int (pa_cons pe_int (pa_cons pe_int (pa_cons pe_int (pa_cons (pe_op op_add pe_int (pe_call G_law_next (hr.mono (by omega)) (by rfl) T.g_law_next T.F_law_next.kp T.b_law_next .nil pass0 (pa_cons (pv 0) (pa_cons pe_int pa_nil)))) pa_nil)))))) pa_nil))) (pa_cons (pe_tup (pa_cons pe_int (pa_cons (pe_lst (pa_cons pe_int (pa_cons pe_int (pa_cons pe_int (pa_cons pe_int (pa_cons pe_int pa_nil)))))) pa_nil))) pa_nil)))))))
  (pss_cons (ps_set (i := 4) sc_law_faults.nd rfl (Or.inl rfl) (pe_op (r := rCatL K) op_catL (pv 4) (pe_lst (pa_cons (pe_tup (pa_cons pe_int (pa_cons (pe_lst (pa_cons (pe_op op_add pe_int (pe_call G_law_next (hr.mono (by omega)) (by rfl) T.g_law_next T.F_law_next.kp T.b_law_next .nil pass0 (pa_cons (pv 0) (pa_cons pe_int pa_nil)))) (pa_cons pe_int (pa_cons pe_int pa_nil)))) pa_nil))) (pa_cons (pe_tup (pa_cons pe_int (pa_cons (pe_lst (pa_cons pe_int (pa_cons pe_int pa_nil))) pa_nil))) (pa_cons (pe_tup (pa_cons pe_int (pa_cons (pe_lst (pa_cons pe_int (pa_cons pe_int pa_nil))) pa_nil))) (pa_cons (pe_tup (pa_cons pe_int (pa_cons (pe_lst (pa_cons pe_int (pa_cons pe_int (pa_cons pe_int (pa_cons pe_int pa_nil))))) pa_nil))) (pa_cons (pe_tup (pa_cons pe_int (pa_cons (pe_lst (pa_cons pe_int (pa_cons pe_int pa_nil))) pa_nil))) (pa_cons (pe_tup (pa_cons pe_int (pa_cons (pe_lst pa_nil) pa_nil))) pa_nil)))))))))
  (pss_one (ps_ret (pe_op (r := rCatL K) op_catL (pv 4) (pe_lst (pa_cons (pe_tup (pa_cons pe_int (pa_cons (pe_lst (pa_cons (pe_op op_add pe_int (pe_call G_law_next (hr.mono (by omega)) (by rfl) T.g_law_next T.F_law_next.kp T.b_law_next .nil pass0 (pa_cons (pv 0) (pa_cons pe_int pa_nil)))) (pa_cons pe_int (pa_cons pe_int (pa_cons pe_int pa_nil))))) pa_nil))) (pa_cons (pe_tup (pa_cons pe_int (pa_cons (pe_lst (pa_cons pe_int (pa_cons (pe_op op_add pe_int (pe_call G_law_next (hr.mono (by omega)) (by rfl) T.g_law_next T.F_law_next.kp T.b_law_next .nil pass0 (pa_cons (pv 0) (pa_cons pe_int pa_nil)))) (pa_cons pe_int (pa_cons pe_int pa_nil))))) pa_nil))) (pa_cons (pe_tup (pa_cons pe_int (pa_cons (pe_lst (pa_cons pe_int (pa_cons pe_int (pa_cons pe_int pa_nil)))) pa_nil))) (pa_cons (pe_tup (pa_cons pe_int (pa_cons (pe_lst (pa_cons pe_int (pa_cons pe_int (pa_cons pe_int (pa_cons pe_int (pa_cons pe_int pa_nil)))))) pa_nil))) pa_nil))))))))))))))))), ?_⟩
  rintro ss M Q ⟨p, xs, ds, rfl, rfl, hM, hD, q⟩
  obtain ⟨M0, rfl⟩ : ∃ M0, M = um M0 p (.lst xs) := ⟨M, (um_id hM).symm⟩
  simp only [um_um] at q
  walk_at "k"
  show WS K _ [some (.ref p), none, none, none, none] (um M0 p (.lst xs)) _
  walk_at "f"
  refine a_next hD (by decide) (by decide) fun n ys n0 n1 hD1 => ?_
  walk_at "f"
  refine ⟨n, rfl, n0, Int.lt_trans n1 (by decide +kernel), ?_⟩
  have ne9 : (10 : Int) ^ Int.toNat 9 = 1000000000 := by decide +kernel
  rw [ne9] at n1
  have l1 := lenN_le (n := n) (Int.lt_trans n1 (by decide +kernel))
  obtain ⟨pre, l, e, p0, p1, p2⟩ := num_last 59 n.toNat (Nat.lt_trans (show n.toNat < 1000000000 by omega) (by decide +kernel))
  have e : cN n = pre ++ [l] := e
  rw [e] at l1 ⊢
  rw [List.length_append, List.length_singleton] at l1
  walk_at "f"
  · exact .int l
  · rw [List.length_append, List.length_singleton]
    refine atI_ok (by omega) ?_
    rw [show ((pre.length + 1 : Nat) : Int) - 1 = (pre.length : Int) by omega, Int.toNat_natCast, List.map_append, List.map_append, List.getElem?_append_right (by simp)]
    simp
  walk_at "f"
  have ec : cutG (pre ++ [l]) none (some (((pre ++ [l]).length : Int) - 1)) = pre := by
    rw [cutG_hi _ (by rw [List.length_append, List.length_singleton]; omega), List.length_append, List.length_singleton, show (((pre.length + 1 : Nat) : Int) - 1).toNat = pre.length by omega, List.take_left]
  rw [ec]
  show W2 _ _ (lsm .int pre) (lsm .int [128 + l, 0]) _ _
  refine w2_catE (by simp; omega) ?_
  have hN : pAg 0 (pre ++ [128 + l, 0]) = none := by
    unfold pAg
    rw [if_pos rfl]
    unfold Prs.thn
    rw [show pNum (pre ++ [128 + l, 0]) = none from needless_no pre l 60 0 1 true p0 p1 p2]
  have bN : Byt (pre ++ [128 + l, 0]) := byt_app (fun b hb => by have := p0 b hb; omega) (byt_cons (by omega) (by omega) byt_1)
  have lN : (pre ++ [128 + l, 0]).length ≤ 1000 := by rw [List.length_append]; simp; omega
  generalize pre ++ [128 + l, 0] = ndl at hN bN lN
  show WS K _ [some (.ref p), some (lsm .int (pre ++ [l])), some (lsm .int ndl), none, none] (um M0 p (.lst ys)) _
  walk_at "f"
  refine a_next hD1 (by decide) (by decide) fun x zs x0 x1 hD2 => ?_
  walk_at "f"
  refine a_next hD2 (by decide) (by decide) fun y zs y0 y1 hD3 => ?_
  walk_at "f"
  refine a_next hD3 (by decide) (by decide) fun z zs z0 z1 hD4 => ?_
  walk_at "f"
  intro e he
  obtain ⟨cd, rfl, c0, c1, c2⟩ : ∃ c : Int, e = .int c ∧ 0 ≤ c ∧ c < 256 ∧ (c < 32 ∨ c = 37 ∨ 127 ≤ c) := by
    simp only [List.mem_cons, List.not_mem_nil, or_false] at he
    rcases he with rfl | rfl | rfl | rfl
    · exact ⟨_, rfl, x0, by omega, .inl x1⟩
    · exact ⟨_, rfl, by omega, by omega, .inr (.inl rfl)⟩
    · exact ⟨_, rfl, by omega, by omega, .inr (.inr (by omega))⟩
    · exact ⟨_, rfl, by omega, by omega, .inr (.inr (by omega))⟩
  walk_at "f"
  refine a_next hD4 (by decide) (by decide) fun v1 zs v10 v11 hD5 => ?_
  have a0 : ∀ e ∈ ([.tuple [.int 0, .list (List.map PyData.int ndl)], .tuple [.int 0, .list (List.map PyData.int (List.replicate (Int.toNat 60) 128 ++ [1]))], .tuple [.int 0, .list []], .tuple [.int 1, .list (List.map PyData.int [0, 1, 0])], .tuple [.int 1, .list [.int 0, .int (2 + v1), .int 5]]] : List PyData), Dmg e := by
    intro e he
    simp only [List.mem_cons, List.not_mem_nil, or_false] at he
    rcases he with rfl | rfl | rfl | rfl | rfl
    · exact dmg (D := ndl) hN bN lN
    · exact dmgC (D := List.replicate (Int.toNat 60) 128 ++ [1]) (by decide +kernel)
    · exact dmgC (D := []) (by decide +kernel)
    · exact dmgC (D := [0, 1, 0]) (by decide +kernel)
    · exact dmgK (v := v1) (n := 254) (D := fun k => [0, 2 + k, 5]) v10 v11 d1 (by simp [Byt]; omega) (by simp)
  walk_at "f"
  have m0 : ([.tuple [.int 0, .list (List.map PyData.int ndl)], .tuple [.int 0, .list (List.map PyData.int (List.replicate (Int.toNat 60) 128 ++ [1]))], .tuple [.int 0, .list []], .tuple [.int 1, .list (List.map PyData.int [0, 1, 0])], .tuple [.int 1, .list [.int 0, .int (2 + v1), .int 5]]] : List PyData).length ≤ 5 := by simp
  generalize ([.tuple [.int 0, .list (List.map PyData.int ndl)], .tuple [.int 0, .list (List.map PyData.int (List.replicate (Int.toNat 60) 128 ++ [1]))], .tuple [.int 0, .list []], .tuple [.int 1, .list (List.map PyData.int [0, 1, 0])], .tuple [.int 1, .list [.int 0, .int (2 + v1), .int 5]]] : List PyData) = es0 at a0 m0 ⊢
  walk_at "f"
  refine a_next hD5 (by decide) (by decide) fun v2 zs v20 v21 hD6 => ?_
  walk_at "f"
  have a1 : ∀ e ∈ ([.tuple [.int 1, .list [.int (2 + v2), .int 0, .int 0]], .tuple [.int 1, .list (List.map PyData.int [1, 1, cd])], .tuple [.int 1, .list (List.map PyData.int [1, 1, 225, 0])], .tuple [.int 1, .list (List.map PyData.int [1, 3, 65, 66])], .tuple [.int 1, .list (List.map PyData.int [0, 0])]] : List PyData), Dmg e := by
    intro e he
    simp only [List.mem_cons, List.not_mem_nil, or_false] at he
    rcases he with rfl | rfl | rfl | rfl | rfl
    · exact dmgK (v := v2) (n := 254) (D := fun k => [2 + k, 0, 0]) v20 v21 d2 (by simp [Byt]; omega) (by simp)
    · exact dmg (D := [1, 1, cd]) (by have := d0 cd.toNat (by omega) (by omega); rwa [Int.toNat_of_nonneg c0] at this) (byt_cons (by omega) (by omega) (byt_cons (by omega) (by omega) (byt_1 c0 c1))) (by simp)
    · exact dmgC (D := [1, 1, 225, 0]) (by decide +kernel)
    · exact dmgC (D := [1, 3, 65, 66]) (by decide +kernel)
    · exact dmgC (D := [0, 0]) (by decide +kernel)
  refine w2_cat lsv_dat lsv_dat (by simp; omega) ?_
  have b1 : ∀ e ∈ es0 ++ ([.tuple [.int 1, .list [.int (2 + v2), .int 0, .int 0]], .tuple [.int 1, .list (List.map PyData.int [1, 1, cd])], .tuple [.int 1, .list (List.map PyData.int [1, 1, 225, 0])], .tuple [.int 1, .list (List.map PyData.int [1, 3, 65, 66])], .tuple [.int 1, .list (List.map PyData.int [0, 0])]] : List PyData), Dmg e := fun e he => (List.mem_append.mp he).elim (a0 e) (a1 e)
  have m1 : (es0 ++ ([.tuple [.int 1, .list [.int (2 + v2), .int 0, .int 0]], .tuple [.int 1, .list (List.map PyData.int [1, 1, cd])], .tuple [.int 1, .list (List.map PyData.int [1, 1, 225, 0])], .tuple [.int 1, .list (List.map PyData.int [1, 3, 65, 66])], .tuple [.int 1, .list (List.map PyData.int [0, 0])]] : List PyData)).length ≤ 10 := by rw [List.length_append]; simp; omega
  generalize es0 ++ ([.tuple [.int 1, .list [.int (2 + v2), .int 0, .int 0]], .tuple [.int 1, .list (List.map PyData.int [1, 1, cd])], .tuple [.int 1, .list (List.map PyData.int [1, 1, 225, 0])], .tuple [.int 1, .list (List.map PyData.int [1, 3, 65, 66])], .tuple [.int 1, .list (List.map PyData.int [0, 0])]] : List PyData) = es1 at b1 m1 ⊢
  walk_at "f"
  refine a_next hD6 (by decide) (by decide) fun v3 zs v30 v31 hD7 => ?_
  walk_at "f"
  have a2 : ∀ e ∈ ([.tuple [.int 2, .list (List.map PyData.int [1, 0, 0])], .tuple [.int 2, .list (List.map PyData.int [2, 0, 0, 5])], .tuple [.int 3, .list [.int 1, .int (5 + v3), .int 0, .int 0]], .tuple [.int 3, .list (List.map PyData.int [1, 0, 0])], .tuple [.int 3, .list (List.map PyData.int [1])]] : List PyData), Dmg e := by
    intro e he
    simp only [List.mem_cons, List.not_mem_nil, or_false] at he
    rcases he with rfl | rfl | rfl | rfl | rfl
    · exact dmgC (D := [1, 0, 0]) (by decide +kernel)
    · exact dmgC (D := [2, 0, 0, 5]) (by decide +kernel)
    · exact dmgK (v := v3) (n := 251) (D := fun k => [1, 5 + k, 0, 0]) v30 v31 d3 (by simp [Byt]; omega) (by simp)
    · exact dmgC (D := [1, 0, 0]) (by decide +kernel)
    · exact dmgC (D := [1]) (by decide +kernel)
  refine w2_cat lsv_dat lsv_dat (by simp; omega) ?_
  have b2 : ∀ e ∈ es1 ++ ([.tuple [.int 2, .list (List.map PyData.int [1, 0, 0])], .tuple [.int 2, .list (List.map PyData.int [2, 0, 0, 5])], .tuple [.int 3, .list [.int 1, .int (5 + v3), .int 0, .int 0]], .tuple [.int 3, .list (List.map PyData.int [1, 0, 0])], .tuple [.int 3, .list (List.map PyData.int [1])]] : List PyData), Dmg e := fun e he => (List.mem_append.mp he).elim (b1 e) (a2 e)
  have m2 : (es1 ++ ([.tuple [.int 2, .list (List.map PyData.int [1, 0, 0])], .tuple [.int 2, .list (List.map PyData.int [2, 0, 0, 5])], .tuple [.int 3, .list [.int 1, .int (5 + v3), .int 0, .int 0]], .tuple [.int 3, .list (List.map PyData.int [1, 0, 0])], .tuple [.int 3, .list (List.map PyData.int [1])]] : List PyData)).length ≤ 15 := by rw [List.length_append]; simp; omega
  generalize es1 ++ ([.tuple [.int 2, .list (List.map PyData.int [1, 0, 0])], .tuple [.int 2, .list (List.map PyData.int [2, 0, 0, 5])], .tuple [.int 3, .list [.int 1, .int (5 + v3), .int 0, .int 0]], .tuple [.int 3, .list (List.map PyData.int [1, 0, 0])], .tuple [.int 3, .list (List.map PyData.int [1])]] : List PyData) = es2 at b2 m2 ⊢
  walk_at "f"
  refine a_next hD7 (by decide) (by decide) fun v4 zs v40 v41 hD8 => ?_
  walk_at "f"
  refine a_next hD8 (by decide) (by decide) fun v5 zs v50 v51 hD9 => ?_
  walk_at "f"
  have a3 : ∀ e ∈ ([.tuple [.int 3, .list [.int 1, .int 2, .int (6 + v4), .int 2, .int 2]], .tuple [.int 3, .list (List.map PyData.int [1, 2, 0, 2])], .tuple [.int 3, .list [.int 1, .int 3, .int 0, .int (3 + v5), .int 2, .int 2]]] : List PyData), Dmg e := by
    intro e he
    simp only [List.mem_cons, List.not_mem_nil, or_false] at he
    rcases he with rfl | rfl | rfl
    · exact dmgK (v := v4) (n := 250) (D := fun k => [1, 2, 6 + k, 2, 2]) v40 v41 d4 (by simp [Byt]; omega) (by simp)
    · exact dmgC (D := [1, 2, 0, 2]) (by decide +kernel)
    · exact dmgK (v := v5) (n := 253) (D := fun k => [1, 3, 0, 3 + k, 2, 2]) v50 v51 d5 (by simp [Byt]; omega) (by simp)
  refine w2_cat lsv_dat lsv_dat (by simp; omega) ?_
  have b3 : ∀ e ∈ es2 ++ ([.tuple [.int 3, .list [.int 1, .int 2, .int (6 + v4), .int 2, .int 2]], .tuple [.int 3, .list (List.map PyData.int [1, 2, 0, 2])], .tuple [.int 3, .list [.int 1, .int 3, .int 0, .int (3 + v5), .int 2, .int 2]]] : List PyData), Dmg e := fun e he => (List.mem_append.mp he).elim (b2 e) (a3 e)
  have m3 : (es2 ++ ([.tuple [.int 3, .list [.int 1, .int 2, .int (6 + v4), .int 2, .int 2]], .tuple [.int 3, .list (List.map PyData.int [1, 2, 0, 2])], .tuple [.int 3, .list [.int 1, .int 3, .int 0, .int (3 + v5), .int 2, .int 2]]] : List PyData)).length ≤ 18 := by rw [List.length_append]; simp; omega
  generalize es2 ++ ([.tuple [.int 3, .list [.int 1, .int 2, .int (6 + v4), .int 2, .int 2]], .tuple [.int 3, .list (List.map PyData.int [1, 2, 0, 2])], .tuple [.int 3, .list [.int 1, .int 3, .int 0, .int (3 + v5), .int 2, .int 2]]] : List PyData) = es3 at b3 m3 ⊢
  walk_at "f"
  refine a_next hD9 (by decide) (by decide) fun v6 zs v60 v61 hD10 => ?_
  walk_at "f"
  have a4 : ∀ e ∈ ([.tuple [.int 3, .list (List.map PyData.int [1, 3, 0, 0, 2])], .tuple [.int 3, .list (List.map PyData.int [1, 4, 0, 0])], .tuple [.int 3, .list [.int 1, .int 0, .int 0, .int 1, .int (3 + v6)]], .tuple [.int 3, .list (List.map PyData.int [1, 0, 0, 2, 2])]] : List PyData), Dmg e := by
    intro e he
    simp only [List.mem_cons, List.not_mem_nil, or_false] at he
    rcases he with rfl | rfl | rfl | rfl
    · exact dmgC (D := [1, 3, 0, 0, 2]) (by decide +kernel)
    · exact dmgC (D := [1, 4, 0, 0]) (by decide +kernel)
    · exact dmgK (v := v6) (n := 253) (D := fun k => [1, 0, 0, 1, 3 + k]) v60 v61 d6 (by simp [Byt]; omega) (by simp)
    · exact dmgC (D := [1, 0, 0, 2, 2]) (by decide +kernel)
  refine w2_cat lsv_dat lsv_dat (by simp; omega) ?_
  have b4 : ∀ e ∈ es3 ++ ([.tuple [.int 3, .list (List.map PyData.int [1, 3, 0, 0, 2])], .tuple [.int 3, .list (List.map PyData.int [1, 4, 0, 0])], .tuple [.int 3, .list [.int 1, .int 0, .int 0, .int 1, .int (3 + v6)]], .tuple [.int 3, .list (List.map PyData.int [1, 0, 0, 2, 2])]] : List PyData), Dmg e := fun e he => (List.mem_append.mp he).elim (b3 e) (a4 e)
  have m4 : (es3 ++ ([.tuple [.int 3, .list (List.map PyData.int [1, 3, 0, 0, 2])], .tuple [.int 3, .list (List.map PyData.int [1, 4, 0, 0])], .tuple [.int 3, .list [.int 1, .int 0, .int 0, .int 1, .int (3 + v6)]], .tuple [.int 3, .list (List.map PyData.int [1, 0, 0, 2, 2])]] : List PyData)).length ≤ 22 := by rw [List.length_append]; simp; omega
  generalize es3 ++ ([.tuple [.int 3, .list (List.map PyData.int [1, 3, 0, 0, 2])], .tuple [.int 3, .list (List.map PyData.int [1, 4, 0, 0])], .tuple [.int 3, .list [.int 1, .int 0, .int 0, .int 1, .int (3 + v6)]], .tuple [.int 3, .list (List.map PyData.int [1, 0, 0, 2, 2])]] : List PyData) = es4 at b4 m4 ⊢
  walk_at "f"
  refine a_next hD10 (by decide) (by decide) fun v7 zs v70 v71 hD11 => ?_
  walk_at "f"
  have a5 : ∀ e ∈ ([.tuple [.int 4, .list [.int (4 + v7), .int 0, .int 0]], .tuple [.int 4, .list (List.map PyData.int [0, 0])], .tuple [.int 4, .list (List.map PyData.int [1, 0])], .tuple [.int 4, .list (List.map PyData.int [2, 0, 0, 0])], .tuple [.int 4, .list (List.map PyData.int [3, 0])], .tuple [.int 4, .list []]] : List PyData), Dmg e := by
    intro e he
    simp only [List.mem_cons, List.not_mem_nil, or_false] at he
    rcases he with rfl | rfl | rfl | rfl | rfl | rfl
    · exact dmgK (v := v7) (n := 252) (D := fun k => [4 + k, 0, 0]) v70 v71 d7 (by simp [Byt]; omega) (by simp)
    · exact dmgC (D := [0, 0]) (by decide +kernel)
    · exact dmgC (D := [1, 0]) (by decide +kernel)
    · exact dmgC (D := [2, 0, 0, 0]) (by decide +kernel)
    · exact dmgC (D := [3, 0]) (by decide +kernel)
    · exact dmgC (D := []) (by decide +kernel)
  refine w2_cat lsv_dat lsv_dat (by simp; omega) ?_
  have b5 : ∀ e ∈ es4 ++ ([.tuple [.int 4, .list [.int (4 + v7), .int 0, .int 0]], .tuple [.int 4, .list (List.map PyData.int [0, 0])], .tuple [.int 4, .list (List.map PyData.int [1, 0])], .tuple [.int 4, .list (List.map PyData.int [2, 0, 0, 0])], .tuple [.int 4, .list (List.map PyData.int [3, 0])], .tuple [.int 4, .list []]] : List PyData), Dmg e := fun e he => (List.mem_append.mp he).elim (b4 e) (a5 e)
  have m5 : (es4 ++ ([.tuple [.int 4, .list [.int (4 + v7), .int 0, .int 0]], .tuple [.int 4, .list (List.map PyData.int [0, 0])], .tuple [.int 4, .list (List.map PyData.int [1, 0])], .tuple [.int 4, .list (List.map PyData.int [2, 0, 0, 0])], .tuple [.int 4, .list (List.map PyData.int [3, 0])], .tuple [.int 4, .list []]] : List PyData)).length ≤ 28 := by rw [List.length_append]; simp; omega
  generalize es4 ++ ([.tuple [.int 4, .list [.int (4 + v7), .int 0, .int 0]], .tuple [.int 4, .list (List.map PyData.int [0, 0])], .tuple [.int 4, .list (List.map PyData.int [1, 0])], .tuple [.int 4, .list (List.map PyData.int [2, 0, 0, 0])], .tuple [.int 4, .list (List.map PyData.int [3, 0])], .tuple [.int 4, .list []]] : List PyData) = es5 at b5 m5 ⊢
  walk_at "f"
  refine a_next hD11 (by decide) (by decide) fun v8 zs v80 v81 hD12 => ?_
  walk_at "f"
  refine a_next hD12 (by decide) (by decide) fun v9 zs v90 v91 hD13 => ?_
  walk_at "f"
  have a6 : ∀ e ∈ ([.tuple [.int 5, .list [.int (2 + v8), .int 0, .int 0, .int 0]], .tuple [.int 5, .list [.int 1, .int (4 + v9), .int 0, .int 0]], .tuple [.int 5, .list (List.map PyData.int [1, 1, 0])], .tuple [.int 6, .list (List.map PyData.int [2, 1, 3, 0, 0])]] : List PyData), Dmg e := by
    intro e he
    simp only [List.mem_cons, List.not_mem_nil, or_false] at he
    rcases he with rfl | rfl | rfl | rfl
    · exact dmgK (v := v8) (n := 254) (D := fun k => [2 + k, 0, 0, 0]) v80 v81 d8 (by simp [Byt]; omega) (by simp)
    · exact dmgK (v := v9) (n := 252) (D := fun k => [1, 4 + k, 0, 0]) v90 v91 d9 (by simp [Byt]; omega) (by simp)
    · exact dmgC (D := [1, 1, 0]) (by decide +kernel)
    · exact dmgC (D := [2, 1, 3, 0, 0]) (by decide +kernel)
  refine w2_cat lsv_dat lsv_dat (by simp; omega) ?_
  have b6 : ∀ e ∈ es5 ++ ([.tuple [.int 5, .list [.int (2 + v8), .int 0, .int 0, .int 0]], .tuple [.int 5, .list [.int 1, .int (4 + v9), .int 0, .int 0]], .tuple [.int 5, .list (List.map PyData.int [1, 1, 0])], .tuple [.int 6, .list (List.map PyData.int [2, 1, 3, 0, 0])]] : List PyData), Dmg e := fun e he => (List.mem_append.mp he).elim (b5 e) (a6 e)
  have m6 : (es5 ++ ([.tuple [.int 5, .list [.int (2 + v8), .int 0, .int 0, .int 0]], .tuple [.int 5, .list [.int 1, .int (4 + v9), .int 0, .int 0]], .tuple [.int 5, .list (List.map PyData.int [1, 1, 0])], .tuple [.int 6, .list (List.map PyData.int [2, 1, 3, 0, 0])]] : List PyData)).length ≤ 32 := by rw [List.length_append]; simp; omega
  exact q _ _ ⟨_, rfl, by omega, b6⟩ hD13
end
end
section
section
variable {P : Program} {w : World} {K : PySem.W.Frag} {mg : Str → Option Value} {base : Heap} {a : AD} {d : FD}
theorem keep_um {M M' : MH} {p : Addr} {o : MO} (e : ∀ b u, um M p o b = some u → M' b = some u) : ∃ N, M' = um N p o := ⟨M', (um_id (e p _ um_same)).symm⟩
theorem tryD_form (f : Int) (D : List Int) : ∃ x, tryD f D = .list [.bool true, x] := by
  unfold tryD
  split <;> exact ⟨_, rfl⟩
theorem imgD_form (D : List Int) : imgD D = .list [.bool true, itsD D] := by
  unfold imgD itsD
  cases imgR D <;> rfl
theorem itsD_ok (D : List Int) : okD 9 (itsD D) = true := by
  unfold itsD
  cases imgR D <;> rfl
/-- what is read to its end -/
def Bnd (e : PyData) : Prop := ∃ (f : Int) (D : List Int), e = .tuple [.int f, bsD D] ∧ Byt D ∧ D.length ≤ 1000 ∧ tryD f D = .list [.bool true, .int D.length]
theorem bnd {f : Int} {D : List Int} (h : (pAg f D).map (·.2) = some []) (b : Byt D) (l : D.length ≤ 1000) : Bnd (.tuple [.int f, bsD D]) := ⟨f, D, rfl, b, l, by
  unfold tryD
  cases e : pAg f D with
  | none => rw [e] at h; cases h
  | some z =>
    rw [e] at h
    have h : some z.2 = some [] := h
    injection h with h
    show PyData.list [.bool true, .int ((D.length : Int) - z.2.length)] = _
    rw [h]
    simp⟩
theorem bndC {f : Int} {D : List Int} (h : (pAg f D).map (·.2) = some [] ∧ Byt D ∧ D.length ≤ 1000) : Bnd (.tuple [.int f, bsD D]) := bnd h.1 h.2.1 h.2.2
theorem most_ok : ∀ k : Nat, k < 127 → (pAg 0 (List.replicate 59 255 ++ [1 + (k : Int)])).map (·.2) = some [] ∧ Byt (List.replicate 59 255 ++ [1 + (k : Int)]) := by decide +kernel
theorem ok_law (T : Txt K mg a d) : FnOk P w K mg base CX0 16 a.law d.law ["_law_script"] (scriptA K) := by
  have G_law_next : FnOk P w K mg base CX0 1 a.law_next d.law_next ["_law_state", "_law_limit"] (conc K A_next) := ok_next T
  have G_law_same : FnOk P w K mg base CX0 10 a.law_same d.law_same ["_law_actual", "_law_expected"] (conc K (A_sameN 10)) := ok_sameN T 10
  have G_law_drawn : FnOk P w K mg base CX0 12 a.law_drawn d.law_drawn ["_law_state"] (conc K (A_draw FewB)) := ok_drawn T
  have G_law_faults : FnOk P w K mg base CX0 2 a.law_faults d.law_faults ["_law_state"] (conc K A_faults) := ok_faults T
  have G_law_tried : FnOk P w K mg base CX0 15 a.law_tried d.law_tried ["_law_data", "_law_form"] (conc K A_tried) := ok_tried T
  have G_law_image_at : FnOk P w K mg base CX0 13 a.law_image_at d.law_image_at ["_law_data"] (conc K A_imgat) := ok_imgat T
  have G_law_items_at : FnOk P w K mg base CX0 12 a.law_items_at d.law_items_at ["_law_data"] (conc K A_itsat) := ok_itsat T
  refine ab_ok T.F_law sc_law (fun ss M Q ⟨p, xs, e, _⟩ => by subst e; rfl) fun cdv Ar outer s H E hr => ?_
  have hu64 := hr.units
  refine ⟨_, (pss_cons (ps_set (i := 1) sc_law.nd rfl (Or.inl rfl) (pe_lst (pa_cons (pe_callTy (r := rListS K) call_list_of (by rfl) T.n_list (by decide +kernel) (pa_cons (pv 0) pa_nil)) (pa_cons pe_int (pa_cons pe_int (pa_cons pe_int pa_nil))))))
  (pss_cons (ps_for PassesOwn.never rfl (pi_range1 rfl T.n_range (pa_cons pe_int pa_nil)) (pg_name (i := 2) sc_law.nd rfl (Or.inl rfl)) (pss_cons (ps_set (i := 3) sc_law.nd rfl (Or.inl rfl) (pe_call G_law_drawn (hr.mono (by omega)) (by rfl) T.g_law_drawn T.F_law_drawn.kp T.b_law_drawn .nil pass0 (pa_cons (pv 1) pa_nil)))
  (pss_cons (ps_for PassesOwn.never rfl (pi_range1 rfl T.n_range (pa_cons pe_int pa_nil)) (pg_name (i := 4) sc_law.nd rfl (Or.inl rfl)) (pss_one (ps_if (pt_not (pt_val (pe_ix (r := rIxL K) ix_list (pe_call G_law_tried (hr.mono (by omega)) (by rfl) T.g_law_tried T.F_law_tried.kp T.b_law_tried .nil pass0 (pa_cons (pv 3) (pa_cons (pv 4) pa_nil))) pe_int (fun _ _ => rfl)))) (pss_one (ps_ret pe_bl)) pss_nil)))
  (pss_cons (ps_set (i := 5) sc_law.nd rfl (Or.inl rfl) (pe_call G_law_image_at (hr.mono (by omega)) (by rfl) T.g_law_image_at T.F_law_image_at.kp T.b_law_image_at .nil pass0 (pa_cons (pv 3) pa_nil)))
  (pss_one (ps_if (PW.pt (pw_or (pt_not (pt_val (pe_ix (r := rIxL K) ix_list (pv 5) pe_int (fun _ _ => rfl)))) (pw_or1 (pt_not (pt_val (pe_call G_law_same (hr.mono (by omega)) (by rfl) T.g_law_same T.F_law_same.kp T.b_law_same .nil pass0 (pa_cons (pe_ix (r := rIxL K) ix_list (pv 5) pe_int (fun _ _ => rfl)) (pa_cons (pe_call G_law_items_at (hr.mono (by omega)) (by rfl) T.g_law_items_at T.F_law_items_at.kp T.b_law_items_at .nil pass0 (pa_cons (pv 3) pa_nil)) pa_nil)))))))) (pss_one (ps_ret pe_bl)) pss_nil))))))
  (pss_cons (ps_for PassesOwn.never rfl (pi_list (pe_call G_law_faults (hr.mono (by omega)) (by rfl) T.g_law_faults T.F_law_faults.kp T.b_law_faults .nil pass0 (pa_cons (pv 1) pa_nil))) (pg_tupK (K := K) (n := 2) rfl rfl (pgs_cons (pg_name (i := 4) sc_law.nd rfl (Or.inl rfl)) (pgs_cons (pg_name (i := 3) sc_law.nd rfl (Or.inl rfl)) pgs_nil))) (pss_one (ps_if (pt_not (pt_val (pe_call G_law_same (hr.mono (by omega)) (by rfl) T.g_law_same T.F_law_same.kp T.b_law_same .nil pass0 (pa_cons (pe_call G_law_tried (hr.mono (by omega)) (by rfl) T.g_law_tried T.F_law_tried.kp T.b_law_tried .nil pass0 (pa_cons (pv 3) (pa_cons (pv 4) pa_nil))) (pa_cons (pe_lst (pa_cons pe_bl (pa_cons pe_non pa_nil))) pa_nil))))) (pss_one (ps_ret pe_bl)) pss_nil)))
  (pss_cons (ps_set (i := 6) sc_law.nd rfl (Or.inl rfl) (pe_op (r := rCatL K) op_catL (pe_op op_repL (pe_lst (pa_cons pe_int pa_nil)) pe_int) (pe_lst (pa_cons (pe_op op_add pe_int (pe_call G_law_next (hr.mono (by omega)) (by rfl) T.g_law_next T.F_law_next.kp T.b_law_next .nil pass0 (pa_cons (pv 1) (pa_cons pe_int pa_nil)))) pa_nil))))
  (pss_cons (ps_set (i := 7) sc_law.nd rfl (Or.inl rfl) (pe_lst (pa_cons (pe_tup (pa_cons pe_int (pa_cons (pv 6) pa_nil))) (pa_cons (pe_tup (pa_cons pe_int (pa_cons (pe_lst (pa_cons pe_int (pa_cons pe_int (pa_cons pe_int (pa_cons pe_int (pa_cons pe_int pa_nil)))))) pa_nil))) (pa_cons (pe_tup (pa_cons pe_int (pa_cons (pe_lst (pa_cons pe_int pa_nil)) pa_nil))) (pa_cons (pe_tup (pa_cons pe_int (pa_cons (pe_lst (pa_cons pe_int (pa_cons pe_int (pa_cons pe_int (pa_cons pe_int pa_nil))))) pa_nil))) (pa_cons (pe_tup (pa_cons pe_int (pa_cons (pe_lst (pa_cons pe_int (pa_cons pe_int (pa_cons pe_int (pa_cons pe_int (pa_cons pe_int pa_nil)))))) pa_nil))) (pa_cons (pe_tup (pa_cons pe_int (pa_cons (pe_lst (pa_cons pe_int (pa_cons pe_int (pa_cons pe_int (pa_cons pe_int (pa_cons pe_int (pa_cons pe_int pa_nil))))))) pa_nil))) pa_nil))))))))
  (pss_cons (ps_set (i := 7) sc_law.nd rfl (Or.inl rfl) (pe_op (r := rCatL K) op_catL (pv 7) (pe_lst (pa_cons (pe_tup (pa_cons pe_int (pa_cons (pe_lst (pa_cons pe_int (pa_cons pe_int (pa_cons pe_int (pa_cons pe_int (pa_cons pe_int (pa_cons pe_int pa_nil))))))) pa_nil))) (pa_cons (pe_tup (pa_cons pe_int (pa_cons (pe_lst (pa_cons pe_int (pa_cons pe_int (pa_cons pe_int (pa_cons pe_int (pa_cons pe_int pa_nil)))))) pa_nil))) (pa_cons (pe_tup (pa_cons pe_int (pa_cons (pe_lst (pa_cons pe_int (pa_cons pe_int (pa_cons pe_int pa_nil)))) pa_nil))) (pa_cons (pe_tup (pa_cons pe_int (pa_cons (pe_lst (pa_cons pe_int (pa_cons pe_int (pa_cons pe_int (pa_cons pe_int pa_nil))))) pa_nil))) (pa_cons (pe_tup (pa_cons pe_int (pa_cons (pe_lst (pa_cons pe_int (pa_cons pe_int (pa_cons pe_int (pa_cons pe_int (pa_cons pe_int pa_nil)))))) pa_nil))) (pa_cons (pe_tup (pa_cons pe_int (pa_cons (pe_lst (pa_cons pe_int pa_nil)) pa_nil))) pa_nil)))))))))
  (pss_cons (ps_for PassesOwn.never rfl (pi_list (pv 7)) (pg_tupK (K := K) (n := 2) rfl rfl (pgs_cons (pg_name (i := 4) sc_law.nd rfl (Or.inl rfl)) (pgs_cons (pg_name (i := 3) sc_law.nd rfl (Or.inl rfl)) pgs_nil))) (pss_one (ps_if (pt_not (pt_val (pe_call G_law_same (hr.mono (by omega)) (by rfl) T.g_law_same T.F_law_same.kp T.b_law_same .nil pass0 (pa_cons (pe_call G_law_tried (hr.mono (by omega)) (by rfl) T.g_law_tried T.F_law_tried.kp T.b_law_tried .nil pass0 (pa_cons (pv 3) (pa_cons (pv 4) pa_nil))) (pa_cons (pe_lst (pa_cons pe_bl (pa_cons (pe_callB (r := rLenS K) call_len_seq (by rfl) T.n_len PySem.boot_len (pa_cons (pv 3) pa_nil)) pa_nil))) pa_nil))))) (pss_one (ps_ret pe_bl)) pss_nil)))
  (pss_one (ps_ret pe_bl))))))))), ?_⟩
  rintro ss M Q ⟨sc, ns, rfl, hl, hb, hs, q⟩
  walk_at "k"
  show WS K _ [some sc, none, none, none, none, none, none, none] M _
  refine ws_seq (ws_set (w_lstM ?_))
  walk_at "g"
  refine wl_list (.inl (hs M)) ?_
  walk_at "g"
  intro p hp
  have hD : DrawL [.dat (.list (ns.map .int)), .int 0, .int 0, .int 1] := ⟨ns, 0, 0, 1, rfl, by decide⟩
  generalize [Sl.dat (.list (ns.map .int)), .int 0, .int 0, .int 1] = ys0 at hD
  show WS K _ [some sc, some (.raw (.ref p)), none, none, none, none, none, none] (um M p (.lst ys0)) _
  refine ws_seq (ws_forR1 (n := 3) (M1 := um M p (.lst ys0)) (by walk_at "e"; exact ⟨rfl, rfl⟩) (by omega)
    (fun i ρ' M' => ∃ (N : MH) (ys : List Sl) (z2 z3 z4 z5 : Option Sl), ρ' = [some sc, some (.raw (.ref p)), z2, z3, z4, z5, none, none] ∧ M' = um N p (.lst ys) ∧ DrawL ys) ⟨M, ys0, none, none, none, none, rfl, rfl, hD⟩ ?_ ?_)
  · rintro i ρ' M' hi ⟨N, ys, z2, z3, z4, z5, rfl, rfl, hD1⟩
    refine wg_name ?_
    walk_at "f"
    refine a_gen0 hD1 rfl fun e zs hP hD2 => ?_
    obtain ⟨D, rfl, bD, lD⟩ := hP
    show WS K _ [some sc, some (.raw (.ref p)), some (.int (i : Int)), some (lsm .int D), z4, z5, none, none] (um N p (.lst zs)) _
    refine ws_seq (ws_forR1 (n := 7) (M1 := um N p (.lst zs)) (by walk_at "e"; exact ⟨rfl, rfl⟩) (by omega)
      (fun j ρ' M' => ∃ (N : MH) (z4 : Option Sl), ρ' = [some sc, some (.raw (.ref p)), some (.int (i : Int)), some (lsm .int D), z4, z5, none, none] ∧ M' = um N p (.lst zs)) ⟨N, z4, rfl, rfl⟩ ?_ ?_)
    · rintro j ρ' M' hj ⟨N, z4, rfl, rfl⟩
      refine wg_name ?_
      walk_at "f"
      refine ⟨D, (j : Int), rfl, bD, by omega, fun M' e => ?_⟩
      obtain ⟨N', rfl⟩ := keep_um e
      obtain ⟨x, ex⟩ := tryD_form (j : Int) D
      rw [ex]
      generalize hL : [PyData.bool true, x] = tl
      have t0 : atI (tl.map Sl.dat) 0 = some (.dat (.bool true)) := by rw [← hL]; rfl
      walk_at "f"
      · exact .dat (.bool true)
      · exact t0
      walk_at "f"
      exact ⟨N', _, rfl, rfl⟩
    · rintro ρ' M' ⟨N, z4, rfl, rfl⟩
      walk_at "f"
      refine ⟨D, rfl, bD, by omega, fun M' e => ?_⟩
      obtain ⟨N', rfl⟩ := keep_um e
      rw [imgD_form]
      generalize hL : [PyData.bool true, itsD D] = tl
      have t0 : atI (tl.map Sl.dat) 0 = some (.dat (.bool true)) := by rw [← hL]; rfl
      have t1 : atI (tl.map Sl.dat) 1 = some (.dat (itsD D)) := by rw [← hL]; rfl
      walk_at "f"
      · exact .dat (.bool true)
      · exact t0
      walk_at "f"
      · exact .dat (itsD D)
      · exact t1
      walk_at "f"
      refine ⟨D, rfl, bD, by omega, fun M' e => ?_⟩
      obtain ⟨N2, rfl⟩ := keep_um e
      walk_at "f"
      refine ⟨itsD D, rfl, itsD_ok D, ?_⟩
      walk_at "f"
      exact ⟨N2, zs, _, _, _, _, rfl, rfl, hD2⟩
  · rintro ρ' M' ⟨N, ys, z2, z3, z4, z5, rfl, rfl, hD1⟩
    refine ws_seq (ws_for (wi_list ?_))
    walk_at "f"
    refine a_gen0 hD1 rfl fun e zs hP hD2 => ?_
    obtain ⟨es, rfl, les, hes⟩ := hP
    refine ⟨es.map .dat, lsv_dat, fun i ρ' M' => ∃ (N : MH) (z3 z4 : Option Sl), ρ' = [some sc, some (.raw (.ref p)), z2, z3, z4, z5, none, none] ∧ M' = um N p (.lst zs), ⟨N, z3, z4, rfl, rfl⟩, fun _ _ _ _ _ => lsv_dat, ?_, ?_⟩
    · rintro i ρ' M' hi ⟨N, z3, z4, rfl, rfl⟩
      have hi' : i < es.length := by rw [List.length_map] at hi; exact hi
      have gi : (es.map Sl.dat).getD i .non = .dat es[i] := by rw [List.getD_eq_getElem?_getD, List.getElem?_map, List.getElem?_eq_getElem hi']; rfl
      obtain ⟨f, D, ee, bD, lD, hn⟩ := hes _ (List.getElem_mem hi')
      dsimp only
      rw [gi, ee]
      have et : tryD f D = .list [.bool true, .none] := by unfold tryD; rw [hn]
      refine wg_tup rfl rfl (wgs_cons (wg_name (wgs_cons (wg_name (wgs_nil ?_)))))
      walk_at "f"
      refine ⟨D, f, rfl, bD, by omega, fun M' e => ?_⟩
      obtain ⟨N', rfl⟩ := keep_um e
      rw [et]
      walk_at "f"
      refine ⟨.list [.bool true, .none], rfl, rfl, ?_⟩
      walk_at "f"
      exact ⟨N', _, _, rfl, rfl⟩
    · rintro ρ' M' ⟨N, z3, z4, rfl, rfl⟩
      walk_at "f"
      refine a_next hD2 (by decide) (by decide) fun v zs v0 v1 hD3 => ?_
      walk_at "f"
      show W2 _ _ (lsm .int (List.replicate (Int.toNat 59) 255)) (lsm .int [1 + v]) _ _
      refine w2_catE (by simp) ?_
      obtain ⟨h0, b0⟩ : (pAg 0 (List.replicate (Int.toNat 59) 255 ++ [1 + v])).map (·.2) = some [] ∧ Byt (List.replicate (Int.toNat 59) 255 ++ [1 + v]) := by
        have := most_ok v.toNat (by omega)
        rwa [Int.toNat_of_nonneg v0] at this
      have l0 : (List.replicate (Int.toNat 59) 255 ++ [1 + v]).length ≤ 1000 := by simp
      generalize List.replicate (Int.toNat 59) 255 ++ [1 + v] = D0 at h0 b0 l0
      show WS K _ [some sc, some (.raw (.ref p)), z2, z3, z4, z5, some (lsm .int D0), none] (um N p (.lst zs)) _
      walk_at "f"
      have a0 : ∀ e ∈ ([.tuple [.int 0, .list (List.map PyData.int D0)], .tuple [.int 1, .list (List.map PyData.int [1, 3, 65, 66, 126])], .tuple [.int 2, .list (List.map PyData.int [0])], .tuple [.int 3, .list (List.map PyData.int [1, 0, 0, 0])], .tuple [.int 3, .list (List.map PyData.int [1, 2, 5, 2, 2])], .tuple [.int 3, .list (List.map PyData.int [1, 3, 0, 2, 2, 2])]] : List PyData), Bnd e := by
        intro e he
        simp only [List.mem_cons, List.not_mem_nil, or_false] at he
        rcases he with rfl | rfl | rfl | rfl | rfl | rfl
        · exact bnd h0 b0 l0
        · exact bndC (D := [1, 3, 65, 66, 126]) (by decide +kernel)
        · exact bndC (D := [0]) (by decide +kernel)
        · exact bndC (D := [1, 0, 0, 0]) (by decide +kernel)
        · exact bndC (D := [1, 2, 5, 2, 2]) (by decide +kernel)
        · exact bndC (D := [1, 3, 0, 2, 2, 2]) (by decide +kernel)
      have a1 : ∀ e ∈ ([.tuple [.int 3, .list (List.map PyData.int [1, 4, 0, 0, 1, 2])], .tuple [.int 4, .list (List.map PyData.int [2, 0, 0, 0, 0])], .tuple [.int 4, .list (List.map PyData.int [3, 0, 0])], .tuple [.int 5, .list (List.map PyData.int [1, 3, 0, 0])], .tuple [.int 6, .list (List.map PyData.int [1, 0, 0, 0, 9])], .tuple [.int 6, .list (List.map PyData.int [0])]] : List PyData), Bnd e := by
        intro e he
        simp only [List.mem_cons, List.not_mem_nil, or_false] at he
        rcases he with rfl | rfl | rfl | rfl | rfl | rfl
        · exact bndC (D := [1, 4, 0, 0, 1, 2]) (by decide +kernel)
        · exact bndC (D := [2, 0, 0, 0, 0]) (by decide +kernel)
        · exact bndC (D := [3, 0, 0]) (by decide +kernel)
        · exact bndC (D := [1, 3, 0, 0]) (by decide +kernel)
        · exact bndC (D := [1, 0, 0, 0, 9]) (by decide +kernel)
        · exact bndC (D := [0]) (by decide +kernel)
      refine w2_cat lsv_dat lsv_dat (by simp) ?_
      have b1 : ∀ e ∈ ([.tuple [.int 0, .list (List.map PyData.int D0)], .tuple [.int 1, .list (List.map PyData.int [1, 3, 65, 66, 126])], .tuple [.int 2, .list (List.map PyData.int [0])], .tuple [.int 3, .list (List.map PyData.int [1, 0, 0, 0])], .tuple [.int 3, .list (List.map PyData.int [1, 2, 5, 2, 2])], .tuple [.int 3, .list (List.map PyData.int [1, 3, 0, 2, 2, 2])]] : List PyData) ++ [.tuple [.int 3, .list (List.map PyData.int [1, 4, 0, 0, 1, 2])], .tuple [.int 4, .list (List.map PyData.int [2, 0, 0, 0, 0])], .tuple [.int 4, .list (List.map PyData.int [3, 0, 0])], .tuple [.int 5, .list (List.map PyData.int [1, 3, 0, 0])], .tuple [.int 6, .list (List.map PyData.int [1, 0, 0, 0, 9])], .tuple [.int 6, .list (List.map PyData.int [0])]], Bnd e := fun e he => (List.mem_append.mp he).elim (a0 e) (a1 e)
      generalize ([.tuple [.int 0, .list (List.map PyData.int D0)], .tuple [.int 1, .list (List.map PyData.int [1, 3, 65, 66, 126])], .tuple [.int 2, .list (List.map PyData.int [0])], .tuple [.int 3, .list (List.map PyData.int [1, 0, 0, 0])], .tuple [.int 3, .list (List.map PyData.int [1, 2, 5, 2, 2])], .tuple [.int 3, .list (List.map PyData.int [1, 3, 0, 2, 2, 2])]] : List PyData) ++ [.tuple [.int 3, .list (List.map PyData.int [1, 4, 0, 0, 1, 2])], .tuple [.int 4, .list (List.map PyData.int [2, 0, 0, 0, 0])], .tuple [.int 4, .list (List.map PyData.int [3, 0, 0])], .tuple [.int 5, .list (List.map PyData.int [1, 3, 0, 0])], .tuple [.int 6, .list (List.map PyData.int [1, 0, 0, 0, 9])], .tuple [.int 6, .list (List.map PyData.int [0])]] = es at b1
      show WS K _ [some sc, some (.raw (.ref p)), z2, z3, z4, z5, some (lsm .int D0), some (.dat (.list es))] (um N p (.lst zs)) _
      refine ws_seq (ws_for (wi_list (w_var rfl ?_)))
      refine ⟨es.map .dat, lsv_dat, fun i ρ' M' => ∃ (N : MH) (z3 z4 : Option Sl), ρ' = [some sc, some (.raw (.ref p)), z2, z3, z4, z5, some (lsm .int D0), some (.dat (.list es))] ∧ M' = um N p (.lst zs), ⟨N, z3, z4, rfl, rfl⟩, fun _ _ _ _ _ => lsv_dat, ?_, ?_⟩
      · rintro i ρ' M' hi ⟨N, z3, z4, rfl, rfl⟩
        have hi' : i < es.length := by rw [List.length_map] at hi; exact hi
        have gi : (es.map Sl.dat).getD i .non = .dat es[i] := by rw [List.getD_eq_getElem?_getD, List.getElem?_map, List.getElem?_eq_getElem hi']; rfl
        obtain ⟨f, D, ee, bD, lD, et⟩ := b1 _ (List.getElem_mem hi')
        dsimp only
        rw [gi, ee]
        refine wg_tup rfl rfl (wgs_cons (wg_name (wgs_cons (wg_name (wgs_nil ?_)))))
        walk_at "f"
        refine ⟨D, f, rfl, bD, by omega, fun M' e => ?_⟩
        obtain ⟨N', rfl⟩ := keep_um e
        rw [et]
        walk_at "f"
        refine ⟨.list [.bool true, .int D.length], rfl, rfl, ?_⟩
        walk_at "f"
        exact ⟨N', _, _, rfl, rfl⟩
      · rintro ρ' M' ⟨N, z3, z4, rfl, rfl⟩
        walk_at "f"
        exact q _
end
end
section
theorem all_mk {l : PySem.W.OpenLaw} {w : World} {K : PySem.W.Frag} {h : Heap} {mg : Str → Option Value} {fa cc_Reader cc_State cc_DamagedData cc_RuleError f2 u0 u1 u2 u3 u4 : Addr} (X : K.In h) (G : h.Ns mainGlobals mg) (hfa : mg "law" = some (.ref fa))
    {od2 an2 : Option Addr} {sl2 : Array (Option Value)} {oc2 kV2 dc2 pm2 cd2 ct2 : Value} {t0 t1 t2 : Tok}
    (p0 : Ab.FnG K "value_key" s_value_key)
    (p1 : Ab.FnG K "row_key" s_row_key)
    {dT2 dE2 : Addr} {oT2 oE2 : Obj}
    (a2 : PySem.W.findIn K (.ref cc_State) "__init__" = some (some (.ref f2))) (q2 : PySem.W.isFn K (.ref f2) = true) (l2 : K.lookup f2 = some ⟨oc2, od2, .func (PySem.W.fnOf "__init__" "State.__init__" (defArgs s_State___init__) (defBody s_State___init__) (defScope s_State___init__) (.ref dT2) kV2 dc2 pm2 an2 cd2 ct2), sl2⟩) (c_2 : PySem.W.codeIn K cd2 "State.__init__" = true) (k2 : PySem.W.keepIn K (.ref f2) = true)
    (lT2 : K.lookup dT2 = some oT2) (dTo2 : ∃ n, oT2.data = .seq #[.ref dE2] n) (lE2 : K.lookup dE2 = some oE2) (dEo2 : oE2.cls = .type "tuple" ∧ oE2.dict = none ∧ ∃ n, oE2.data = .seq #[] n)
    (p3 : Ab.MtG K "State" "put" "State.put" s_State_put)
    (p4 : Ab.MtG K "State" "tidy" "State.tidy" s_State_tidy)
    (p5 : Ab.MtG K "State" "has" "State.has" s_State_has)
    (p6 : Ab.FnG K "write_number" s_write_number)
    (p7 : Ab.FnG K "write_items" s_write_items)
    (p8 : Ab.FnG K "write_string" s_write_string)
    (p9 : Ab.FnG K "write_value" s_write_value)
    (p10 : Ab.FnG K "write_row" s_write_row)
    (p11 : Ab.FnG K "write_term" s_write_term)
    (p12 : Ab.FnG K "write_terms" s_write_terms)
    (p13 : Ab.FnG K "write_literal" s_write_literal)
    (p14 : Ab.FnG K "write_body" s_write_body)
    (p15 : Ab.FnG K "write_item" s_write_item)
    (p16 : Ab.FnG K "write_change" s_write_change)
    (p17 : Ab.FnG K "write_changes" s_write_changes)
    (p18 : Ab.MtG K "Reader" "__init__" "Reader.__init__" s_Reader___init__)
    (p19 : Ab.MtG K "Reader" "need" "Reader.need" s_Reader_need)
    (p20 : Ab.MtG K "Reader" "read_byte" "Reader.read_byte" s_Reader_read_byte)
    (p21 : Ab.MtG K "Reader" "read_number" "Reader.read_number" s_Reader_read_number)
    (p22 : Ab.MtG K "Reader" "read_count" "Reader.read_count" s_Reader_read_count)
    (p23 : Ab.MtG K "Reader" "read_string" "Reader.read_string" s_Reader_read_string)
    (p24 : Ab.MtG K "Reader" "read_value" "Reader.read_value" s_Reader_read_value)
    (p25 : Ab.MtG K "Reader" "read_row" "Reader.read_row" s_Reader_read_row)
    (p26 : Ab.MtG K "Reader" "read_term" "Reader.read_term" s_Reader_read_term)
    (p27 : Ab.MtG K "Reader" "read_terms" "Reader.read_terms" s_Reader_read_terms)
    (p28 : Ab.MtG K "Reader" "read_literal" "Reader.read_literal" s_Reader_read_literal)
    (p29 : Ab.MtG K "Reader" "read_body" "Reader.read_body" s_Reader_read_body)
    (p30 : Ab.MtG K "Reader" "read_item" "Reader.read_item" s_Reader_read_item)
    (p31 : Ab.MtG K "Reader" "read_change" "Reader.read_change" s_Reader_read_change)
    (p32 : Ab.MtG K "Reader" "read_changes" "Reader.read_changes" s_Reader_read_changes)
    (p33 : Ab.MtG K "Reader" "read_image" "Reader.read_image" s_Reader_read_image)
    (p34 : Ab.FnG K "_law_next" s_law_next)
    (p35 : Ab.FnG K "_law_same" s_law_same)
    (p36 : Ab.FnG K "_law_characters" s_law_characters)
    (p37 : Ab.FnG K "_law_value" s_law_value)
    (p38 : Ab.FnG K "_law_row" s_law_row)
    (p39 : Ab.FnG K "_law_name" s_law_name)
    (p40 : Ab.FnG K "_law_term" s_law_term)
    (p41 : Ab.FnG K "_law_terms" s_law_terms)
    (p42 : Ab.FnG K "_law_literal" s_law_literal)
    (p43 : Ab.FnG K "_law_body" s_law_body)
    (p44 : Ab.FnG K "_law_item" s_law_item)
    (p45 : Ab.FnG K "_law_before" s_law_before)
    (p46 : Ab.FnG K "_law_order" s_law_order)
    (p47 : Ab.FnG K "_law_key" s_law_key)
    (p48 : Ab.FnG K "_law_key_order" s_law_key_order)
    (p49 : Ab.FnG K "_law_placed" s_law_placed)
    (p50 : Ab.FnG K "_law_items" s_law_items)
    (p51 : Ab.FnG K "_law_number" s_law_number)
    (p52 : Ab.FnG K "_law_listed" s_law_listed)
    (p53 : Ab.FnG K "_law_string_code" s_law_string_code)
    (p54 : Ab.FnG K "_law_value_code" s_law_value_code)
    (p55 : Ab.FnG K "_law_row_code" s_law_row_code)
    (p56 : Ab.FnG K "_law_term_code" s_law_term_code)
    (p57 : Ab.FnG K "_law_terms_code" s_law_terms_code)
    (p58 : Ab.FnG K "_law_literal_code" s_law_literal_code)
    (p59 : Ab.FnG K "_law_body_code" s_law_body_code)
    (p60 : Ab.FnG K "_law_item_code" s_law_item_code)
    (p61 : Ab.FnG K "_law_change_code" s_law_change_code)
    (p62 : Ab.FnG K "_law_any_changes" s_law_any_changes)
    (p63 : Ab.FnG K "_law_again" s_law_again)
    (p64 : Ab.FnG K "_law_tried" s_law_tried)
    (p65 : Ab.FnG K "_law_image_at" s_law_image_at)
    (p66 : Ab.FnG K "_law_items_at" s_law_items_at)
    (p67 : Ab.FnG K "_law_drawn" s_law_drawn)
    (p68 : Ab.FnG K "_law_faults" s_law_faults)
    (p69 : Ab.FnG K "law" s_law)
    (g_Reader : PySem.W.nsIn K mainGlobals "Reader" = some (some (.ref cc_Reader))) (pg_Reader : PySem.W.plainGet K cc_Reader Str.empty = true) (hd_Reader : PySem.W.hasDictIn K cc_Reader = true) (po_Reader : PySem.W.plainOver K cc_Reader = true) (sa_Reader : PySem.W.findIn K (.ref cc_Reader) "__setattr__" = some (some (.builtin "object.__setattr__"))) (mk_Reader : PySem.W.makesIn K cc_Reader = true) (kc_Reader : PySem.W.keepIn K (.ref cc_Reader) = true)
    (na_Reader_data : PySem.W.findIn K (.ref cc_Reader) "data" = some none)
    (na_Reader_at : PySem.W.findIn K (.ref cc_Reader) "at" = some none)
    (g_State : PySem.W.nsIn K mainGlobals "State" = some (some (.ref cc_State))) (pg_State : PySem.W.plainGet K cc_State Str.empty = true) (hd_State : PySem.W.hasDictIn K cc_State = true) (po_State : PySem.W.plainOver K cc_State = true) (sa_State : PySem.W.findIn K (.ref cc_State) "__setattr__" = some (some (.builtin "object.__setattr__"))) (mk_State : PySem.W.makesIn K cc_State = true) (kc_State : PySem.W.keepIn K (.ref cc_State) = true)
    (na_State_relations : PySem.W.findIn K (.ref cc_State) "relations" = some none)
    (na_State_facts : PySem.W.findIn K (.ref cc_State) "facts" = some none)
    (na_State_rules : PySem.W.findIn K (.ref cc_State) "rules" = some none)
    (na_State_denials : PySem.W.findIn K (.ref cc_State) "denials" = some none)
    (g_DamagedData : PySem.W.nsIn K mainGlobals "DamagedData" = some (some (.ref cc_DamagedData))) (x_DamagedData : PySem.W.excIn K cc_DamagedData [.type "ValueError", .type "Exception", .type "BaseException", .type "object"] "ValueError.__new__" = true) (kp_DamagedData : PySem.W.keepIn K (.ref cc_DamagedData) = true) (bs_DamagedData : PySem.W.subIn K (.ref cc_DamagedData) (.type "BaseException") = some true) (ty_DamagedData : PySem.W.typeIn K (.ref cc_DamagedData) = some (.type "type")) (hd_DamagedData : PySem.W.hasDictIn K cc_DamagedData = true)
    (e1_DamagedData : PySem.W.findIn K (.ref cc_DamagedData) "__getattribute__" = some (some (.builtin "BaseException.__getattribute__"))) (e2_DamagedData : PySem.W.findIn K (.ref cc_DamagedData) "__getattr__" = some none) (e3_DamagedData : PySem.W.findIn K (.ref cc_DamagedData) "__class__" = some (some (.builtin "object.__class__"))) (e4_DamagedData : PySem.W.specialIn K (.builtin "object.__class__") "__get__" = some (some (.builtin "getset_descriptor.__get__"))) (e5_DamagedData : PySem.W.takesIn K (.builtin "object.__class__") = some true) (e6_DamagedData : PySem.W.mroIn K cc_DamagedData (.type "object") = some true)
    (s_DamagedData_DamagedData : PySem.W.subIn K (.ref cc_DamagedData) (.ref cc_DamagedData) = some true)
    (s_DamagedData_RuleError : PySem.W.subIn K (.ref cc_DamagedData) (.ref cc_RuleError) = some true)
    (g_RuleError : PySem.W.nsIn K mainGlobals "RuleError" = some (some (.ref cc_RuleError))) (x_RuleError : PySem.W.excIn K cc_RuleError [.type "ValueError", .type "Exception", .type "BaseException", .type "object"] "ValueError.__new__" = true) (kp_RuleError : PySem.W.keepIn K (.ref cc_RuleError) = true) (bs_RuleError : PySem.W.subIn K (.ref cc_RuleError) (.type "BaseException") = some true) (ty_RuleError : PySem.W.typeIn K (.ref cc_RuleError) = some (.type "type")) (hd_RuleError : PySem.W.hasDictIn K cc_RuleError = true)
    (s_RuleError_DamagedData : PySem.W.subIn K (.ref cc_RuleError) (.ref cc_DamagedData) = some false)
    (s_RuleError_RuleError : PySem.W.subIn K (.ref cc_RuleError) (.ref cc_RuleError) = some true)
    (z0 : PySem.W.nsIn K mainGlobals "abs" = some none)
    (z1 : PySem.W.nsIn K mainGlobals "bool" = some none)
    (z2 : PySem.W.nsIn K mainGlobals "int" = some none)
    (z3 : PySem.W.nsIn K mainGlobals "isinstance" = some none)
    (z4 : PySem.W.nsIn K mainGlobals "len" = some none)
    (z5 : PySem.W.nsIn K mainGlobals "list" = some none)
    (z6 : PySem.W.nsIn K mainGlobals "min" = some none)
    (z7 : PySem.W.nsIn K mainGlobals "ord" = some none)
    (z8 : PySem.W.nsIn K mainGlobals "range" = some none)
    (z9 : PySem.W.nsIn K mainGlobals "sorted" = some none)
    (z10 : PySem.W.nsIn K mainGlobals "str" = some none)
    (z11 : PySem.W.nsIn K mainGlobals "tuple" = some none)
    (i0 : PySem.W.nsIn K mainGlobals "CHARACTERS_BEFORE" = some (some (.str " !\"#$" t0)))
    (i1 : PySem.W.nsIn K mainGlobals "CHARACTERS_BEHIND" = some (some (.str "&'()*+,-./0123456789:;<=>?@ABCDEFGHIJKLMNOPQRSTUVWXYZ[\\]^_`abcdefghijklmnopqrstuvwxyz{|}~" t1)))
    (i2 : PySem.W.nsIn K mainGlobals "NUMBER_BYTES" = some (some (.int 60 t2)))
    {uo0 : Obj} (v0 : PySem.W.nsIn K mainGlobals "COMPARISONS" = some (some (.ref u0))) (vl0 : K.lookup u0 = some uo0) (vo0 : uo0.cls = .type "tuple" ∧ uo0.dict = none ∧ ∃ its n, uo0.data = .seq its n ∧ its.size ≤ sizeLine ∧ Vals [.str "=", .str "<>", .str "<", .str "<=", .str ">", .str ">="] its.toList)
    {uo1 : Obj} (v1 : PySem.W.nsIn K mainGlobals "LITERALS" = some (some (.ref u1))) (vl1 : K.lookup u1 = some uo1) (vo1 : uo1.cls = .type "tuple" ∧ uo1.dict = none ∧ ∃ its n, uo1.data = .seq its n ∧ its.size ≤ sizeLine ∧ Vals [.str "fact", .str "not", .str "compare", .str "is", .str "count"] its.toList)
    {uo2 : Obj} (v2 : PySem.W.nsIn K mainGlobals "OPERATORS" = some (some (.ref u2))) (vl2 : K.lookup u2 = some uo2) (vo2 : uo2.cls = .type "tuple" ∧ uo2.dict = none ∧ ∃ its n, uo2.data = .seq its n ∧ its.size ≤ sizeLine ∧ Vals [.str "+", .str "-", .str "*"] its.toList)
    {uo3 : Obj} (v3 : PySem.W.nsIn K mainGlobals "TERMS" = some (some (.ref u3))) (vl3 : K.lookup u3 = some uo3) (vo3 : uo3.cls = .type "tuple" ∧ uo3.dict = none ∧ ∃ its n, uo3.data = .seq its n ∧ its.size ≤ sizeLine ∧ Vals [.str "value", .str "variable", .str "any"] its.toList)
    {uo4 : Obj} (v4 : PySem.W.nsIn K mainGlobals "WORDS" = some (some (.ref u4))) (vl4 : K.lookup u4 = some uo4) (vo4 : uo4.cls = .type "tuple" ∧ uo4.dict = none ∧ ∃ its n, uo4.data = .seq its n ∧ its.size ≤ sizeLine ∧ Vals [.str "relation", .str "fact", .str "rule", .str "denial"] its.toList)
    : ∃ fd : FuncData, (∀ (s : Shared) (v : Value), BindsTo s fd ⟨[v], []⟩ [("_law_script", v)]) ∧ ∀ base : Heap, K.In base → base.Ns mainGlobals mg → FnOk l.prog w K mg base CX0 16 fa fd ["_law_script"] (Ab.scriptA K) := by
  obtain ⟨f0, oc0, od0, kV0, dc0, pm0, cd0, ct0, an0, sl0, a0, l0, c_0, k0⟩ := p0
  obtain ⟨f1, oc1, od1, kV1, dc1, pm1, cd1, ct1, an1, sl1, a1, l1, c_1, k1⟩ := p1
  obtain ⟨cc3, f3, oc3, od3, kV3, dc3, pm3, cd3, ct3, an3, sl3, cx3, a3, q3, l3, c_3, k3⟩ := p3
  have ce3 := cx3.symm.trans g_State
  cases ce3
  obtain ⟨cc4, f4, oc4, od4, kV4, dc4, pm4, cd4, ct4, an4, sl4, cx4, a4, q4, l4, c_4, k4⟩ := p4
  have ce4 := cx4.symm.trans g_State
  cases ce4
  obtain ⟨cc5, f5, oc5, od5, kV5, dc5, pm5, cd5, ct5, an5, sl5, cx5, a5, q5, l5, c_5, k5⟩ := p5
  have ce5 := cx5.symm.trans g_State
  cases ce5
  obtain ⟨f6, oc6, od6, kV6, dc6, pm6, cd6, ct6, an6, sl6, a6, l6, c_6, k6⟩ := p6
  obtain ⟨f7, oc7, od7, kV7, dc7, pm7, cd7, ct7, an7, sl7, a7, l7, c_7, k7⟩ := p7
  obtain ⟨f8, oc8, od8, kV8, dc8, pm8, cd8, ct8, an8, sl8, a8, l8, c_8, k8⟩ := p8
  obtain ⟨f9, oc9, od9, kV9, dc9, pm9, cd9, ct9, an9, sl9, a9, l9, c_9, k9⟩ := p9
  obtain ⟨f10, oc10, od10, kV10, dc10, pm10, cd10, ct10, an10, sl10, a10, l10, c_10, k10⟩ := p10
  obtain ⟨f11, oc11, od11, kV11, dc11, pm11, cd11, ct11, an11, sl11, a11, l11, c_11, k11⟩ := p11
  obtain ⟨f12, oc12, od12, kV12, dc12, pm12, cd12, ct12, an12, sl12, a12, l12, c_12, k12⟩ := p12
  obtain ⟨f13, oc13, od13, kV13, dc13, pm13, cd13, ct13, an13, sl13, a13, l13, c_13, k13⟩ := p13
  obtain ⟨f14, oc14, od14, kV14, dc14, pm14, cd14, ct14, an14, sl14, a14, l14, c_14, k14⟩ := p14
  obtain ⟨f15, oc15, od15, kV15, dc15, pm15, cd15, ct15, an15, sl15, a15, l15, c_15, k15⟩ := p15
  obtain ⟨f16, oc16, od16, kV16, dc16, pm16, cd16, ct16, an16, sl16, a16, l16, c_16, k16⟩ := p16
  obtain ⟨f17, oc17, od17, kV17, dc17, pm17, cd17, ct17, an17, sl17, a17, l17, c_17, k17⟩ := p17
  obtain ⟨cc18, f18, oc18, od18, kV18, dc18, pm18, cd18, ct18, an18, sl18, cx18, a18, q18, l18, c_18, k18⟩ := p18
  have ce18 := cx18.symm.trans g_Reader
  cases ce18
  obtain ⟨cc19, f19, oc19, od19, kV19, dc19, pm19, cd19, ct19, an19, sl19, cx19, a19, q19, l19, c_19, k19⟩ := p19
  have ce19 := cx19.symm.trans g_Reader
  cases ce19
  obtain ⟨cc20, f20, oc20, od20, kV20, dc20, pm20, cd20, ct20, an20, sl20, cx20, a20, q20, l20, c_20, k20⟩ := p20
  have ce20 := cx20.symm.trans g_Reader
  cases ce20
  obtain ⟨cc21, f21, oc21, od21, kV21, dc21, pm21, cd21, ct21, an21, sl21, cx21, a21, q21, l21, c_21, k21⟩ := p21
  have ce21 := cx21.symm.trans g_Reader
  cases ce21
  obtain ⟨cc22, f22, oc22, od22, kV22, dc22, pm22, cd22, ct22, an22, sl22, cx22, a22, q22, l22, c_22, k22⟩ := p22
  have ce22 := cx22.symm.trans g_Reader
  cases ce22
  obtain ⟨cc23, f23, oc23, od23, kV23, dc23, pm23, cd23, ct23, an23, sl23, cx23, a23, q23, l23, c_23, k23⟩ := p23
  have ce23 := cx23.symm.trans g_Reader
  cases ce23
  obtain ⟨cc24, f24, oc24, od24, kV24, dc24, pm24, cd24, ct24, an24, sl24, cx24, a24, q24, l24, c_24, k24⟩ := p24
  have ce24 := cx24.symm.trans g_Reader
  cases ce24
  obtain ⟨cc25, f25, oc25, od25, kV25, dc25, pm25, cd25, ct25, an25, sl25, cx25, a25, q25, l25, c_25, k25⟩ := p25
  have ce25 := cx25.symm.trans g_Reader
  cases ce25
  obtain ⟨cc26, f26, oc26, od26, kV26, dc26, pm26, cd26, ct26, an26, sl26, cx26, a26, q26, l26, c_26, k26⟩ := p26
  have ce26 := cx26.symm.trans g_Reader
  cases ce26
  obtain ⟨cc27, f27, oc27, od27, kV27, dc27, pm27, cd27, ct27, an27, sl27, cx27, a27, q27, l27, c_27, k27⟩ := p27
  have ce27 := cx27.symm.trans g_Reader
  cases ce27
  obtain ⟨cc28, f28, oc28, od28, kV28, dc28, pm28, cd28, ct28, an28, sl28, cx28, a28, q28, l28, c_28, k28⟩ := p28
  have ce28 := cx28.symm.trans g_Reader
  cases ce28
  obtain ⟨cc29, f29, oc29, od29, kV29, dc29, pm29, cd29, ct29, an29, sl29, cx29, a29, q29, l29, c_29, k29⟩ := p29
  have ce29 := cx29.symm.trans g_Reader
  cases ce29
  obtain ⟨cc30, f30, oc30, od30, kV30, dc30, pm30, cd30, ct30, an30, sl30, cx30, a30, q30, l30, c_30, k30⟩ := p30
  have ce30 := cx30.symm.trans g_Reader
  cases ce30
  obtain ⟨cc31, f31, oc31, od31, kV31, dc31, pm31, cd31, ct31, an31, sl31, cx31, a31, q31, l31, c_31, k31⟩ := p31
  have ce31 := cx31.symm.trans g_Reader
  cases ce31
  obtain ⟨cc32, f32, oc32, od32, kV32, dc32, pm32, cd32, ct32, an32, sl32, cx32, a32, q32, l32, c_32, k32⟩ := p32
  have ce32 := cx32.symm.trans g_Reader
  cases ce32
  obtain ⟨cc33, f33, oc33, od33, kV33, dc33, pm33, cd33, ct33, an33, sl33, cx33, a33, q33, l33, c_33, k33⟩ := p33
  have ce33 := cx33.symm.trans g_Reader
  cases ce33
  obtain ⟨f34, oc34, od34, kV34, dc34, pm34, cd34, ct34, an34, sl34, a34, l34, c_34, k34⟩ := p34
  obtain ⟨f35, oc35, od35, kV35, dc35, pm35, cd35, ct35, an35, sl35, a35, l35, c_35, k35⟩ := p35
  obtain ⟨f36, oc36, od36, kV36, dc36, pm36, cd36, ct36, an36, sl36, a36, l36, c_36, k36⟩ := p36
  obtain ⟨f37, oc37, od37, kV37, dc37, pm37, cd37, ct37, an37, sl37, a37, l37, c_37, k37⟩ := p37
  obtain ⟨f38, oc38, od38, kV38, dc38, pm38, cd38, ct38, an38, sl38, a38, l38, c_38, k38⟩ := p38
  obtain ⟨f39, oc39, od39, kV39, dc39, pm39, cd39, ct39, an39, sl39, a39, l39, c_39, k39⟩ := p39
  obtain ⟨f40, oc40, od40, kV40, dc40, pm40, cd40, ct40, an40, sl40, a40, l40, c_40, k40⟩ := p40
  obtain ⟨f41, oc41, od41, kV41, dc41, pm41, cd41, ct41, an41, sl41, a41, l41, c_41, k41⟩ := p41
  obtain ⟨f42, oc42, od42, kV42, dc42, pm42, cd42, ct42, an42, sl42, a42, l42, c_42, k42⟩ := p42
  obtain ⟨f43, oc43, od43, kV43, dc43, pm43, cd43, ct43, an43, sl43, a43, l43, c_43, k43⟩ := p43
  obtain ⟨f44, oc44, od44, kV44, dc44, pm44, cd44, ct44, an44, sl44, a44, l44, c_44, k44⟩ := p44
  obtain ⟨f45, oc45, od45, kV45, dc45, pm45, cd45, ct45, an45, sl45, a45, l45, c_45, k45⟩ := p45
  obtain ⟨f46, oc46, od46, kV46, dc46, pm46, cd46, ct46, an46, sl46, a46, l46, c_46, k46⟩ := p46
  obtain ⟨f47, oc47, od47, kV47, dc47, pm47, cd47, ct47, an47, sl47, a47, l47, c_47, k47⟩ := p47
  obtain ⟨f48, oc48, od48, kV48, dc48, pm48, cd48, ct48, an48, sl48, a48, l48, c_48, k48⟩ := p48
  obtain ⟨f49, oc49, od49, kV49, dc49, pm49, cd49, ct49, an49, sl49, a49, l49, c_49, k49⟩ := p49
  obtain ⟨f50, oc50, od50, kV50, dc50, pm50, cd50, ct50, an50, sl50, a50, l50, c_50, k50⟩ := p50
  obtain ⟨f51, oc51, od51, kV51, dc51, pm51, cd51, ct51, an51, sl51, a51, l51, c_51, k51⟩ := p51
  obtain ⟨f52, oc52, od52, kV52, dc52, pm52, cd52, ct52, an52, sl52, a52, l52, c_52, k52⟩ := p52
  obtain ⟨f53, oc53, od53, kV53, dc53, pm53, cd53, ct53, an53, sl53, a53, l53, c_53, k53⟩ := p53
  obtain ⟨f54, oc54, od54, kV54, dc54, pm54, cd54, ct54, an54, sl54, a54, l54, c_54, k54⟩ := p54
  obtain ⟨f55, oc55, od55, kV55, dc55, pm55, cd55, ct55, an55, sl55, a55, l55, c_55, k55⟩ := p55
  obtain ⟨f56, oc56, od56, kV56, dc56, pm56, cd56, ct56, an56, sl56, a56, l56, c_56, k56⟩ := p56
  obtain ⟨f57, oc57, od57, kV57, dc57, pm57, cd57, ct57, an57, sl57, a57, l57, c_57, k57⟩ := p57
  obtain ⟨f58, oc58, od58, kV58, dc58, pm58, cd58, ct58, an58, sl58, a58, l58, c_58, k58⟩ := p58
  obtain ⟨f59, oc59, od59, kV59, dc59, pm59, cd59, ct59, an59, sl59, a59, l59, c_59, k59⟩ := p59
  obtain ⟨f60, oc60, od60, kV60, dc60, pm60, cd60, ct60, an60, sl60, a60, l60, c_60, k60⟩ := p60
  obtain ⟨f61, oc61, od61, kV61, dc61, pm61, cd61, ct61, an61, sl61, a61, l61, c_61, k61⟩ := p61
  obtain ⟨f62, oc62, od62, kV62, dc62, pm62, cd62, ct62, an62, sl62, a62, l62, c_62, k62⟩ := p62
  obtain ⟨f63, oc63, od63, kV63, dc63, pm63, cd63, ct63, an63, sl63, a63, l63, c_63, k63⟩ := p63
  obtain ⟨f64, oc64, od64, kV64, dc64, pm64, cd64, ct64, an64, sl64, a64, l64, c_64, k64⟩ := p64
  obtain ⟨f65, oc65, od65, kV65, dc65, pm65, cd65, ct65, an65, sl65, a65, l65, c_65, k65⟩ := p65
  obtain ⟨f66, oc66, od66, kV66, dc66, pm66, cd66, ct66, an66, sl66, a66, l66, c_66, k66⟩ := p66
  obtain ⟨f67, oc67, od67, kV67, dc67, pm67, cd67, ct67, an67, sl67, a67, l67, c_67, k67⟩ := p67
  obtain ⟨f68, oc68, od68, kV68, dc68, pm68, cd68, ct68, an68, sl68, a68, l68, c_68, k68⟩ := p68
  obtain ⟨f69, oc69, od69, kV69, dc69, pm69, cd69, ct69, an69, sl69, a69, l69, c_69, k69⟩ := p69
  have e := hfa.symm.trans (PySem.W.mg_of X G a69)
  cases e
  have F0 := fun_mk (st := s_value_key) l0 c_0 k0
  have b0 := F0.binds (ps := ["value"]) fun _ _ _ _ _ _ us hl => match us, hl with | [_], _ => rfl
  have F1 := fun_mk (st := s_row_key) l1 c_1 k1
  have b1 := F1.binds (ps := ["row"]) fun _ _ _ _ _ _ us hl => match us, hl with | [_], _ => rfl
  obtain ⟨nT2, hT2⟩ := dTo2
  have F2 := fund_mk (st := s_State___init__) l2 c_2 k2 lT2 hT2
  obtain ⟨dsb2, vb2, b2⟩ := F2.binds1 (ps := ["self", "items"]) 2 1 (by simp) rfl fun _ _ _ _ _ _ _ us its h1 h2 => match us, its, h1, h2 with | [_, _], [_], _, _ => ⟨_, rfl, rfl⟩
  rw [vals_nil vb2] at b2
  obtain ⟨dsbd2, vbd2, bd2⟩ := F2.binds1 (ps := ["self", "items"]) 1 0 (by simp) rfl fun _ _ _ _ _ _ _ us its h1 h2 => match us, its, h1, h2 with | [_], [_], _, _ => ⟨_, rfl, rfl⟩
  rw [vals_ref1 vbd2] at bd2
  have F3 := fun_mk (st := s_State_put) l3 c_3 k3
  have b3 := F3.binds (ps := ["self", "item"]) fun _ _ _ _ _ _ us hl => match us, hl with | [_, _], _ => rfl
  have F4 := fun_mk (st := s_State_tidy) l4 c_4 k4
  have b4 := F4.binds (ps := ["self"]) fun _ _ _ _ _ _ us hl => match us, hl with | [_], _ => rfl
  have F5 := fun_mk (st := s_State_has) l5 c_5 k5
  have b5 := F5.binds (ps := ["self", "relation", "row"]) fun _ _ _ _ _ _ us hl => match us, hl with | [_, _, _], _ => rfl
  have F6 := fun_mk (st := s_write_number) l6 c_6 k6
  have b6 := F6.binds (ps := ["number"]) fun _ _ _ _ _ _ us hl => match us, hl with | [_], _ => rfl
  have F7 := fun_mk (st := s_write_items) l7 c_7 k7
  have b7 := F7.binds (ps := ["written"]) fun _ _ _ _ _ _ us hl => match us, hl with | [_], _ => rfl
  have F8 := fun_mk (st := s_write_string) l8 c_8 k8
  have b8 := F8.binds (ps := ["text"]) fun _ _ _ _ _ _ us hl => match us, hl with | [_], _ => rfl
  have F9 := fun_mk (st := s_write_value) l9 c_9 k9
  have b9 := F9.binds (ps := ["value"]) fun _ _ _ _ _ _ us hl => match us, hl with | [_], _ => rfl
  have F10 := fun_mk (st := s_write_row) l10 c_10 k10
  have b10 := F10.binds (ps := ["row"]) fun _ _ _ _ _ _ us hl => match us, hl with | [_], _ => rfl
  have F11 := fun_mk (st := s_write_term) l11 c_11 k11
  have b11 := F11.binds (ps := ["term"]) fun _ _ _ _ _ _ us hl => match us, hl with | [_], _ => rfl
  have F12 := fun_mk (st := s_write_terms) l12 c_12 k12
  have b12 := F12.binds (ps := ["terms"]) fun _ _ _ _ _ _ us hl => match us, hl with | [_], _ => rfl
  have F13 := fun_mk (st := s_write_literal) l13 c_13 k13
  have b13 := F13.binds (ps := ["literal"]) fun _ _ _ _ _ _ us hl => match us, hl with | [_], _ => rfl
  have F14 := fun_mk (st := s_write_body) l14 c_14 k14
  have b14 := F14.binds (ps := ["body"]) fun _ _ _ _ _ _ us hl => match us, hl with | [_], _ => rfl
  have F15 := fun_mk (st := s_write_item) l15 c_15 k15
  have b15 := F15.binds (ps := ["item"]) fun _ _ _ _ _ _ us hl => match us, hl with | [_], _ => rfl
  have F16 := fun_mk (st := s_write_change) l16 c_16 k16
  have b16 := F16.binds (ps := ["change"]) fun _ _ _ _ _ _ us hl => match us, hl with | [_], _ => rfl
  have F17 := fun_mk (st := s_write_changes) l17 c_17 k17
  have b17 := F17.binds (ps := ["changes"]) fun _ _ _ _ _ _ us hl => match us, hl with | [_], _ => rfl
  have F18 := fun_mk (st := s_Reader___init__) l18 c_18 k18
  have b18 := F18.binds (ps := ["self", "data"]) fun _ _ _ _ _ _ us hl => match us, hl with | [_, _], _ => rfl
  have F19 := fun_mk (st := s_Reader_need) l19 c_19 k19
  have b19 := F19.binds (ps := ["self", "holds"]) fun _ _ _ _ _ _ us hl => match us, hl with | [_, _], _ => rfl
  have F20 := fun_mk (st := s_Reader_read_byte) l20 c_20 k20
  have b20 := F20.binds (ps := ["self", "count"]) fun _ _ _ _ _ _ us hl => match us, hl with | [_, _], _ => rfl
  have F21 := fun_mk (st := s_Reader_read_number) l21 c_21 k21
  have b21 := F21.binds (ps := ["self"]) fun _ _ _ _ _ _ us hl => match us, hl with | [_], _ => rfl
  have F22 := fun_mk (st := s_Reader_read_count) l22 c_22 k22
  have b22 := F22.binds (ps := ["self"]) fun _ _ _ _ _ _ us hl => match us, hl with | [_], _ => rfl
  have F23 := fun_mk (st := s_Reader_read_string) l23 c_23 k23
  have b23 := F23.binds (ps := ["self"]) fun _ _ _ _ _ _ us hl => match us, hl with | [_], _ => rfl
  have F24 := fun_mk (st := s_Reader_read_value) l24 c_24 k24
  have b24 := F24.binds (ps := ["self"]) fun _ _ _ _ _ _ us hl => match us, hl with | [_], _ => rfl
  have F25 := fun_mk (st := s_Reader_read_row) l25 c_25 k25
  have b25 := F25.binds (ps := ["self"]) fun _ _ _ _ _ _ us hl => match us, hl with | [_], _ => rfl
  have F26 := fun_mk (st := s_Reader_read_term) l26 c_26 k26
  have b26 := F26.binds (ps := ["self"]) fun _ _ _ _ _ _ us hl => match us, hl with | [_], _ => rfl
  have F27 := fun_mk (st := s_Reader_read_terms) l27 c_27 k27
  have b27 := F27.binds (ps := ["self"]) fun _ _ _ _ _ _ us hl => match us, hl with | [_], _ => rfl
  have F28 := fun_mk (st := s_Reader_read_literal) l28 c_28 k28
  have b28 := F28.binds (ps := ["self"]) fun _ _ _ _ _ _ us hl => match us, hl with | [_], _ => rfl
  have F29 := fun_mk (st := s_Reader_read_body) l29 c_29 k29
  have b29 := F29.binds (ps := ["self"]) fun _ _ _ _ _ _ us hl => match us, hl with | [_], _ => rfl
  have F30 := fun_mk (st := s_Reader_read_item) l30 c_30 k30
  have b30 := F30.binds (ps := ["self"]) fun _ _ _ _ _ _ us hl => match us, hl with | [_], _ => rfl
  have F31 := fun_mk (st := s_Reader_read_change) l31 c_31 k31
  have b31 := F31.binds (ps := ["self"]) fun _ _ _ _ _ _ us hl => match us, hl with | [_], _ => rfl
  have F32 := fun_mk (st := s_Reader_read_changes) l32 c_32 k32
  have b32 := F32.binds (ps := ["self"]) fun _ _ _ _ _ _ us hl => match us, hl with | [_], _ => rfl
  have F33 := fun_mk (st := s_Reader_read_image) l33 c_33 k33
  have b33 := F33.binds (ps := ["self"]) fun _ _ _ _ _ _ us hl => match us, hl with | [_], _ => rfl
  have F34 := fun_mk (st := s_law_next) l34 c_34 k34
  have b34 := F34.binds (ps := ["_law_state", "_law_limit"]) fun _ _ _ _ _ _ us hl => match us, hl with | [_, _], _ => rfl
  have F35 := fun_mk (st := s_law_same) l35 c_35 k35
  have b35 := F35.binds (ps := ["_law_actual", "_law_expected"]) fun _ _ _ _ _ _ us hl => match us, hl with | [_, _], _ => rfl
  have F36 := fun_mk (st := s_law_characters) l36 c_36 k36
  have b36 := F36.binds (ps := []) fun _ _ _ _ _ _ us hl => match us, hl with | [], _ => rfl
  have F37 := fun_mk (st := s_law_value) l37 c_37 k37
  have b37 := F37.binds (ps := ["_law_state"]) fun _ _ _ _ _ _ us hl => match us, hl with | [_], _ => rfl
  have F38 := fun_mk (st := s_law_row) l38 c_38 k38
  have b38 := F38.binds (ps := ["_law_state", "_law_width"]) fun _ _ _ _ _ _ us hl => match us, hl with | [_, _], _ => rfl
  have F39 := fun_mk (st := s_law_name) l39 c_39 k39
  have b39 := F39.binds (ps := ["_law_state"]) fun _ _ _ _ _ _ us hl => match us, hl with | [_], _ => rfl
  have F40 := fun_mk (st := s_law_term) l40 c_40 k40
  have b40 := F40.binds (ps := ["_law_state"]) fun _ _ _ _ _ _ us hl => match us, hl with | [_], _ => rfl
  have F41 := fun_mk (st := s_law_terms) l41 c_41 k41
  have b41 := F41.binds (ps := ["_law_state"]) fun _ _ _ _ _ _ us hl => match us, hl with | [_], _ => rfl
  have F42 := fun_mk (st := s_law_literal) l42 c_42 k42
  have b42 := F42.binds (ps := ["_law_state"]) fun _ _ _ _ _ _ us hl => match us, hl with | [_], _ => rfl
  have F43 := fun_mk (st := s_law_body) l43 c_43 k43
  have b43 := F43.binds (ps := ["_law_state"]) fun _ _ _ _ _ _ us hl => match us, hl with | [_], _ => rfl
  have F44 := fun_mk (st := s_law_item) l44 c_44 k44
  have b44 := F44.binds (ps := ["_law_state"]) fun _ _ _ _ _ _ us hl => match us, hl with | [_], _ => rfl
  have F45 := fun_mk (st := s_law_before) l45 c_45 k45
  have b45 := F45.binds (ps := ["_law_first", "_law_second"]) fun _ _ _ _ _ _ us hl => match us, hl with | [_, _], _ => rfl
  have F46 := fun_mk (st := s_law_order) l46 c_46 k46
  have b46 := F46.binds (ps := ["_law_first", "_law_second"]) fun _ _ _ _ _ _ us hl => match us, hl with | [_, _], _ => rfl
  have F47 := fun_mk (st := s_law_key) l47 c_47 k47
  have b47 := F47.binds (ps := ["_law_item_here"]) fun _ _ _ _ _ _ us hl => match us, hl with | [_], _ => rfl
  have F48 := fun_mk (st := s_law_key_order) l48 c_48 k48
  have b48 := F48.binds (ps := ["_law_first", "_law_second"]) fun _ _ _ _ _ _ us hl => match us, hl with | [_, _], _ => rfl
  have F49 := fun_mk (st := s_law_placed) l49 c_49 k49
  have b49 := F49.binds (ps := ["_law_items_here", "_law_item_here"]) fun _ _ _ _ _ _ us hl => match us, hl with | [_, _], _ => rfl
  have F50 := fun_mk (st := s_law_items) l50 c_50 k50
  have b50 := F50.binds (ps := ["_law_state", "_law_most"]) fun _ _ _ _ _ _ us hl => match us, hl with | [_, _], _ => rfl
  have F51 := fun_mk (st := s_law_number) l51 c_51 k51
  have b51 := F51.binds (ps := ["_law_number_here"]) fun _ _ _ _ _ _ us hl => match us, hl with | [_], _ => rfl
  have F52 := fun_mk (st := s_law_listed) l52 c_52 k52
  have b52 := F52.binds (ps := ["_law_parts"]) fun _ _ _ _ _ _ us hl => match us, hl with | [_], _ => rfl
  have F53 := fun_mk (st := s_law_string_code) l53 c_53 k53
  have b53 := F53.binds (ps := ["_law_text"]) fun _ _ _ _ _ _ us hl => match us, hl with | [_], _ => rfl
  have F54 := fun_mk (st := s_law_value_code) l54 c_54 k54
  have b54 := F54.binds (ps := ["_law_value_here"]) fun _ _ _ _ _ _ us hl => match us, hl with | [_], _ => rfl
  have F55 := fun_mk (st := s_law_row_code) l55 c_55 k55
  have b55 := F55.binds (ps := ["_law_row_here"]) fun _ _ _ _ _ _ us hl => match us, hl with | [_], _ => rfl
  have F56 := fun_mk (st := s_law_term_code) l56 c_56 k56
  have b56 := F56.binds (ps := ["_law_term_here"]) fun _ _ _ _ _ _ us hl => match us, hl with | [_], _ => rfl
  have F57 := fun_mk (st := s_law_terms_code) l57 c_57 k57
  have b57 := F57.binds (ps := ["_law_terms_here"]) fun _ _ _ _ _ _ us hl => match us, hl with | [_], _ => rfl
  have F58 := fun_mk (st := s_law_literal_code) l58 c_58 k58
  have b58 := F58.binds (ps := ["_law_literal_here"]) fun _ _ _ _ _ _ us hl => match us, hl with | [_], _ => rfl
  have F59 := fun_mk (st := s_law_body_code) l59 c_59 k59
  have b59 := F59.binds (ps := ["_law_body_here"]) fun _ _ _ _ _ _ us hl => match us, hl with | [_], _ => rfl
  have F60 := fun_mk (st := s_law_item_code) l60 c_60 k60
  have b60 := F60.binds (ps := ["_law_item_here"]) fun _ _ _ _ _ _ us hl => match us, hl with | [_], _ => rfl
  have F61 := fun_mk (st := s_law_change_code) l61 c_61 k61
  have b61 := F61.binds (ps := ["_law_change"]) fun _ _ _ _ _ _ us hl => match us, hl with | [_], _ => rfl
  have F62 := fun_mk (st := s_law_any_changes) l62 c_62 k62
  have b62 := F62.binds (ps := ["_law_state", "_law_most"]) fun _ _ _ _ _ _ us hl => match us, hl with | [_, _], _ => rfl
  have F63 := fun_mk (st := s_law_again) l63 c_63 k63
  have b63 := F63.binds (ps := ["_law_reader", "_law_form"]) fun _ _ _ _ _ _ us hl => match us, hl with | [_, _], _ => rfl
  have F64 := fun_mk (st := s_law_tried) l64 c_64 k64
  have b64 := F64.binds (ps := ["_law_data", "_law_form"]) fun _ _ _ _ _ _ us hl => match us, hl with | [_, _], _ => rfl
  have F65 := fun_mk (st := s_law_image_at) l65 c_65 k65
  have b65 := F65.binds (ps := ["_law_data"]) fun _ _ _ _ _ _ us hl => match us, hl with | [_], _ => rfl
  have F66 := fun_mk (st := s_law_items_at) l66 c_66 k66
  have b66 := F66.binds (ps := ["_law_data"]) fun _ _ _ _ _ _ us hl => match us, hl with | [_], _ => rfl
  have F67 := fun_mk (st := s_law_drawn) l67 c_67 k67
  have b67 := F67.binds (ps := ["_law_state"]) fun _ _ _ _ _ _ us hl => match us, hl with | [_], _ => rfl
  have F68 := fun_mk (st := s_law_faults) l68 c_68 k68
  have b68 := F68.binds (ps := ["_law_state"]) fun _ _ _ _ _ _ us hl => match us, hl with | [_], _ => rfl
  have F69 := fun_mk (st := s_law) l69 c_69 k69
  have b69 := F69.binds (ps := ["_law_script"]) fun _ _ _ _ _ _ us hl => match us, hl with | [_], _ => rfl
  have T : Txt K mg ⟨f0, f1, f2, f3, f4, f5, f6, f7, f8, f9, f10, f11, f12, f13, f14, f15, f16, f17, f18, f19, f20, f21, f22, f23, f24, f25, f26, f27, f28, f29, f30, f31, f32, f33, f34, f35, f36, f37, f38, f39, f40, f41, f42, f43, f44, f45, f46, f47, f48, f49, f50, f51, f52, f53, f54, f55, f56, f57, f58, f59, f60, f61, f62, f63, f64, f65, f66, f67, f68, fa, dE2, cc_Reader, cc_State, cc_DamagedData, cc_RuleError, t0, t1, t2, u0, u1, u2, u3, u4⟩ ⟨_, _, _, _, _, _, _, _, _, _, _, _, _, _, _, _, _, _, _, _, _, _, _, _, _, _, _, _, _, _, _, _, _, _, _, _, _, _, _, _, _, _, _, _, _, _, _, _, _, _, _, _, _, _, _, _, _, _, _, _, _, _, _, _, _, _, _, _, _, _⟩ := ⟨F0, PySem.W.mg_of X G a0, b0, F1, PySem.W.mg_of X G a1, b1, F2, bd2, ⟨oE2, dEo2.2.2.choose, lE2, dEo2.1, dEo2.2.1, dEo2.2.2.choose_spec⟩, ⟨a2, q2, k2⟩, b2, F3, ⟨a3, q3, k3⟩, b3, F4, ⟨a4, q4, k4⟩, b4, F5, ⟨a5, q5, k5⟩, b5, F6, PySem.W.mg_of X G a6, b6, F7, PySem.W.mg_of X G a7, b7, F8, PySem.W.mg_of X G a8, b8, F9, PySem.W.mg_of X G a9, b9, F10, PySem.W.mg_of X G a10, b10, F11, PySem.W.mg_of X G a11, b11, F12, PySem.W.mg_of X G a12, b12, F13, PySem.W.mg_of X G a13, b13, F14, PySem.W.mg_of X G a14, b14, F15, PySem.W.mg_of X G a15, b15, F16, PySem.W.mg_of X G a16, b16, F17, PySem.W.mg_of X G a17, b17, F18, ⟨a18, q18, k18⟩, b18, F19, ⟨a19, q19, k19⟩, b19, F20, ⟨a20, q20, k20⟩, b20, F21, ⟨a21, q21, k21⟩, b21, F22, ⟨a22, q22, k22⟩, b22, F23, ⟨a23, q23, k23⟩, b23, F24, ⟨a24, q24, k24⟩, b24, F25, ⟨a25, q25, k25⟩, b25, F26, ⟨a26, q26, k26⟩, b26, F27, ⟨a27, q27, k27⟩, b27, F28, ⟨a28, q28, k28⟩, b28, F29, ⟨a29, q29, k29⟩, b29, F30, ⟨a30, q30, k30⟩, b30, F31, ⟨a31, q31, k31⟩, b31, F32, ⟨a32, q32, k32⟩, b32, F33, ⟨a33, q33, k33⟩, b33, F34, PySem.W.mg_of X G a34, b34, F35, PySem.W.mg_of X G a35, b35, F36, PySem.W.mg_of X G a36, b36, F37, PySem.W.mg_of X G a37, b37, F38, PySem.W.mg_of X G a38, b38, F39, PySem.W.mg_of X G a39, b39, F40, PySem.W.mg_of X G a40, b40, F41, PySem.W.mg_of X G a41, b41, F42, PySem.W.mg_of X G a42, b42, F43, PySem.W.mg_of X G a43, b43, F44, PySem.W.mg_of X G a44, b44, F45, PySem.W.mg_of X G a45, b45, F46, PySem.W.mg_of X G a46, b46, F47, PySem.W.mg_of X G a47, b47, F48, PySem.W.mg_of X G a48, b48, F49, PySem.W.mg_of X G a49, b49, F50, PySem.W.mg_of X G a50, b50, F51, PySem.W.mg_of X G a51, b51, F52, PySem.W.mg_of X G a52, b52, F53, PySem.W.mg_of X G a53, b53, F54, PySem.W.mg_of X G a54, b54, F55, PySem.W.mg_of X G a55, b55, F56, PySem.W.mg_of X G a56, b56, F57, PySem.W.mg_of X G a57, b57, F58, PySem.W.mg_of X G a58, b58, F59, PySem.W.mg_of X G a59, b59, F60, PySem.W.mg_of X G a60, b60, F61, PySem.W.mg_of X G a61, b61, F62, PySem.W.mg_of X G a62, b62, F63, PySem.W.mg_of X G a63, b63, F64, PySem.W.mg_of X G a64, b64, F65, PySem.W.mg_of X G a65, b65, F66, PySem.W.mg_of X G a66, b66, F67, PySem.W.mg_of X G a67, b67, F68, PySem.W.mg_of X G a68, b68, F69, PySem.W.mg_of X G a69, b69, PySem.W.mg_of X G g_Reader, ⟨pg_Reader, hd_Reader, po_Reader, sa_Reader⟩, ⟨mk_Reader, a18, q18, kc_Reader⟩, na_Reader_data, na_Reader_at, PySem.W.mg_of X G g_State, ⟨pg_State, hd_State, po_State, sa_State⟩, ⟨mk_State, a2, q2, kc_State⟩, na_State_relations, na_State_facts, na_State_rules, na_State_denials, PySem.W.mg_of X G g_DamagedData, x_DamagedData, kp_DamagedData, bs_DamagedData, ty_DamagedData, hd_DamagedData, s_DamagedData_DamagedData, s_DamagedData_RuleError, PySem.W.mg_of X G g_RuleError, x_RuleError, kp_RuleError, bs_RuleError, ty_RuleError, hd_RuleError, s_RuleError_DamagedData, s_RuleError_RuleError, ⟨e1_DamagedData, e2_DamagedData, bs_DamagedData, hd_DamagedData, e3_DamagedData, e4_DamagedData, e5_DamagedData, e6_DamagedData⟩, kit_self, PySem.W.mg_none_of X G z0, PySem.W.mg_none_of X G z1, PySem.W.mg_none_of X G z2, PySem.W.mg_none_of X G z3, PySem.W.mg_none_of X G z4, PySem.W.mg_none_of X G z5, PySem.W.mg_none_of X G z6, PySem.W.mg_none_of X G z7, PySem.W.mg_none_of X G z8, PySem.W.mg_none_of X G z9, PySem.W.mg_none_of X G z10, PySem.W.mg_none_of X G z11, PySem.W.mg_of X G i0, PySem.W.mg_of X G i1, PySem.W.mg_of X G i2, PySem.W.mg_of X G v0, let ⟨x1, x2, its, n, x3, x4, x5⟩ := vo0; ⟨⟨uo0, vl0, x1, x2⟩, fun _ => .inr ⟨uo0, its, n, vl0, x1, x3, x4, x5⟩⟩, PySem.W.mg_of X G v1, let ⟨x1, x2, its, n, x3, x4, x5⟩ := vo1; ⟨⟨uo1, vl1, x1, x2⟩, fun _ => .inr ⟨uo1, its, n, vl1, x1, x3, x4, x5⟩⟩, PySem.W.mg_of X G v2, let ⟨x1, x2, its, n, x3, x4, x5⟩ := vo2; ⟨⟨uo2, vl2, x1, x2⟩, fun _ => .inr ⟨uo2, its, n, vl2, x1, x3, x4, x5⟩⟩, PySem.W.mg_of X G v3, let ⟨x1, x2, its, n, x3, x4, x5⟩ := vo3; ⟨⟨uo3, vl3, x1, x2⟩, fun _ => .inr ⟨uo3, its, n, vl3, x1, x3, x4, x5⟩⟩, PySem.W.mg_of X G v4, let ⟨x1, x2, its, n, x3, x4, x5⟩ := vo4; ⟨⟨uo4, vl4, x1, x2⟩, fun _ => .inr ⟨uo4, its, n, vl4, x1, x3, x4, x5⟩⟩⟩
  exact ⟨_, fun s v => .of_eq rfl, fun base _ _ => ok_law T⟩
end
end K05
open PySem PySem.W PyProof.Rows
set_option maxRecDepth 100000 in
set_option maxHeartbeats 0 in
theorem PySem.Challenge.cw_rulestead_k05_only_written_bytes_are_rea_holds : PySem.Challenge.rw_rulestead_k05_only_written_bytes_are_rea.Holds := by
  w_on; o_law; k_head; (case hw => w_witness2)
  k_fill
  refine L2.walk_ofB (l := PySem.Challenge.rw_rulestead_k05_only_written_bytes_are_rea) (n := 63) (k := 16) (x := "_law_script") (CX := fun _ => L2.CX0) (sp := fun w => Ab.scriptA _) rfl (by decide) rfl ⟨rfl, by decide, by decide⟩ (fun w h Y => PySem.W.kIn_of Y) ?F (fun _ H a ns hl hb hO hS => Ab.script_in hl hb hS) (fun _ _ _ _ _ h => h)
  case F =>
    intro w mg fa h KX G hmg
    have p0 : Ab.fnIn KX "value_key" K05.s_value_key := by
      refine' Ab.fnG_mk KX ?h1 ?h2 ?h3 ?h4
      (case h1 => k_is)
      (case h2 => k_is)
      (case h3 => k_is)
      (case h4 => k_is)
    have p1 : Ab.fnIn KX "row_key" K05.s_row_key := by
      refine' Ab.fnG_mk KX ?h1 ?h2 ?h3 ?h4
      (case h1 => k_is)
      (case h2 => k_is)
      (case h3 => k_is)
      (case h4 => k_is)
    have p3 : Ab.mtIn KX "State" "put" "State.put" K05.s_State_put := by
      refine' Ab.mtG_mk KX ?h1 ?h2 ?h3 ?h4 ?h5 ?h6
      (case h1 => k_is)
      (case h2 => k_is)
      (case h3 => k_is)
      (case h4 => k_is)
      (case h5 => k_is)
      (case h6 => k_is)
    have p4 : Ab.mtIn KX "State" "tidy" "State.tidy" K05.s_State_tidy := by
      refine' Ab.mtG_mk KX ?h1 ?h2 ?h3 ?h4 ?h5 ?h6
      (case h1 => k_is)
      (case h2 => k_is)
      (case h3 => k_is)
      (case h4 => k_is)
      (case h5 => k_is)
      (case h6 => k_is)
    have p5 : Ab.mtIn KX "State" "has" "State.has" K05.s_State_has := by
      refine' Ab.mtG_mk KX ?h1 ?h2 ?h3 ?h4 ?h5 ?h6
      (case h1 => k_is)
      (case h2 => k_is)
      (case h3 => k_is)
      (case h4 => k_is)
      (case h5 => k_is)
      (case h6 => k_is)
    have p6 : Ab.fnIn KX "write_number" K05.s_write_number := by
      refine' Ab.fnG_mk KX ?h1 ?h2 ?h3 ?h4
      (case h1 => k_is)
      (case h2 => k_is)
      (case h3 => k_is)
      (case h4 => k_is)
    have p7 : Ab.fnIn KX "write_items" K05.s_write_items := by
      refine' Ab.fnG_mk KX ?h1 ?h2 ?h3 ?h4
      (case h1 => k_is)
      (case h2 => k_is)
      (case h3 => k_is)
      (case h4 => k_is)
    have p8 : Ab.fnIn KX "write_string" K05.s_write_string := by
      refine' Ab.fnG_mk KX ?h1 ?h2 ?h3 ?h4
      (case h1 => k_is)
      (case h2 => k_is)
      (case h3 => k_is)
      (case h4 => k_is)
    have p9 : Ab.fnIn KX "write_value" K05.s_write_value := by
      refine' Ab.fnG_mk KX ?h1 ?h2 ?h3 ?h4
      (case h1 => k_is)
      (case h2 => k_is)
      (case h3 => k_is)
      (case h4 => k_is)
    have p10 : Ab.fnIn KX "write_row" K05.s_write_row := by
      refine' Ab.fnG_mk KX ?h1 ?h2 ?h3 ?h4
      (case h1 => k_is)
      (case h2 => k_is)
      (case h3 => k_is)
      (case h4 => k_is)
    have p11 : Ab.fnIn KX "write_term" K05.s_write_term := by
      refine' Ab.fnG_mk KX ?h1 ?h2 ?h3 ?h4
      (case h1 => k_is)
      (case h2 => k_is)
      (case h3 => k_is)
      (case h4 => k_is)
    have p12 : Ab.fnIn KX "write_terms" K05.s_write_terms := by
      refine' Ab.fnG_mk KX ?h1 ?h2 ?h3 ?h4
      (case h1 => k_is)
      (case h2 => k_is)
      (case h3 => k_is)
      (case h4 => k_is)
    have p13 : Ab.fnIn KX "write_literal" K05.s_write_literal := by
      refine' Ab.fnG_mk KX ?h1 ?h2 ?h3 ?h4
      (case h1 => k_is)
      (case h2 => k_is)
      (case h3 => k_is)
      (case h4 => k_is)
    have p14 : Ab.fnIn KX "write_body" K05.s_write_body := by
      refine' Ab.fnG_mk KX ?h1 ?h2 ?h3 ?h4
      (case h1 => k_is)
      (case h2 => k_is)
      (case h3 => k_is)
      (case h4 => k_is)
    have p15 : Ab.fnIn KX "write_item" K05.s_write_item := by
      refine' Ab.fnG_mk KX ?h1 ?h2 ?h3 ?h4
      (case h1 => k_is)
      (case h2 => k_is)
      (case h3 => k_is)
      (case h4 => k_is)
    have p16 : Ab.fnIn KX "write_change" K05.s_write_change := by
      refine' Ab.fnG_mk KX ?h1 ?h2 ?h3 ?h4
      (case h1 => k_is)
      (case h2 => k_is)
      (case h3 => k_is)
      (case h4 => k_is)
    have p17 : Ab.fnIn KX "write_changes" K05.s_write_changes := by
      refine' Ab.fnG_mk KX ?h1 ?h2 ?h3 ?h4
      (case h1 => k_is)
      (case h2 => k_is)
      (case h3 => k_is)
      (case h4 => k_is)
    have p18 : Ab.mtIn KX "Reader" "__init__" "Reader.__init__" K05.s_Reader___init__ := by
      refine' Ab.mtG_mk KX ?h1 ?h2 ?h3 ?h4 ?h5 ?h6
      (case h1 => k_is)
      (case h2 => k_is)
      (case h3 => k_is)
      (case h4 => k_is)
      (case h5 => k_is)
      (case h6 => k_is)
    have p19 : Ab.mtIn KX "Reader" "need" "Reader.need" K05.s_Reader_need := by
      refine' Ab.mtG_mk KX ?h1 ?h2 ?h3 ?h4 ?h5 ?h6
      (case h1 => k_is)
      (case h2 => k_is)
      (case h3 => k_is)
      (case h4 => k_is)
      (case h5 => k_is)
      (case h6 => k_is)
    have p20 : Ab.mtIn KX "Reader" "read_byte" "Reader.read_byte" K05.s_Reader_read_byte := by
      refine' Ab.mtG_mk KX ?h1 ?h2 ?h3 ?h4 ?h5 ?h6
      (case h1 => k_is)
      (case h2 => k_is)
      (case h3 => k_is)
      (case h4 => k_is)
      (case h5 => k_is)
      (case h6 => k_is)
    have p21 : Ab.mtIn KX "Reader" "read_number" "Reader.read_number" K05.s_Reader_read_number := by
      refine' Ab.mtG_mk KX ?h1 ?h2 ?h3 ?h4 ?h5 ?h6
      (case h1 => k_is)
      (case h2 => k_is)
      (case h3 => k_is)
      (case h4 => k_is)
      (case h5 => k_is)
      (case h6 => k_is)
    have p22 : Ab.mtIn KX "Reader" "read_count" "Reader.read_count" K05.s_Reader_read_count := by
      refine' Ab.mtG_mk KX ?h1 ?h2 ?h3 ?h4 ?h5 ?h6
      (case h1 => k_is)
      (case h2 => k_is)
      (case h3 => k_is)
      (case h4 => k_is)
      (case h5 => k_is)
      (case h6 => k_is)
    have p23 : Ab.mtIn KX "Reader" "read_string" "Reader.read_string" K05.s_Reader_read_string := by
      refine' Ab.mtG_mk KX ?h1 ?h2 ?h3 ?h4 ?h5 ?h6
      (case h1 => k_is)
      (case h2 => k_is)
      (case h3 => k_is)
      (case h4 => k_is)
      (case h5 => k_is)
      (case h6 => k_is)
    have p24 : Ab.mtIn KX "Reader" "read_value" "Reader.read_value" K05.s_Reader_read_value := by
      refine' Ab.mtG_mk KX ?h1 ?h2 ?h3 ?h4 ?h5 ?h6
      (case h1 => k_is)
      (case h2 => k_is)
      (case h3 => k_is)
      (case h4 => k_is)
      (case h5 => k_is)
      (case h6 => k_is)
    have p25 : Ab.mtIn KX "Reader" "read_row" "Reader.read_row" K05.s_Reader_read_row := by
      refine' Ab.mtG_mk KX ?h1 ?h2 ?h3 ?h4 ?h5 ?h6
      (case h1 => k_is)
      (case h2 => k_is)
      (case h3 => k_is)
      (case h4 => k_is)
      (case h5 => k_is)
      (case h6 => k_is)
    have p26 : Ab.mtIn KX "Reader" "read_term" "Reader.read_term" K05.s_Reader_read_term := by
      refine' Ab.mtG_mk KX ?h1 ?h2 ?h3 ?h4 ?h5 ?h6
      (case h1 => k_is)
      (case h2 => k_is)
      (case h3 => k_is)
      (case h4 => k_is)
      (case h5 => k_is)
      (case h6 => k_is)
    have p27 : Ab.mtIn KX "Reader" "read_terms" "Reader.read_terms" K05.s_Reader_read_terms := by
      refine' Ab.mtG_mk KX ?h1 ?h2 ?h3 ?h4 ?h5 ?h6
      (case h1 => k_is)
      (case h2 => k_is)
      (case h3 => k_is)
      (case h4 => k_is)
      (case h5 => k_is)
      (case h6 => k_is)
    have p28 : Ab.mtIn KX "Reader" "read_literal" "Reader.read_literal" K05.s_Reader_read_literal := by
      refine' Ab.mtG_mk KX ?h1 ?h2 ?h3 ?h4 ?h5 ?h6
      (case h1 => k_is)
      (case h2 => k_is)
      (case h3 => k_is)
      (case h4 => k_is)
      (case h5 => k_is)
      (case h6 => k_is)
    have p29 : Ab.mtIn KX "Reader" "read_body" "Reader.read_body" K05.s_Reader_read_body := by
      refine' Ab.mtG_mk KX ?h1 ?h2 ?h3 ?h4 ?h5 ?h6
      (case h1 => k_is)
      (case h2 => k_is)
      (case h3 => k_is)
      (case h4 => k_is)
      (case h5 => k_is)
      (case h6 => k_is)
    have p30 : Ab.mtIn KX "Reader" "read_item" "Reader.read_item" K05.s_Reader_read_item := by
      refine' Ab.mtG_mk KX ?h1 ?h2 ?h3 ?h4 ?h5 ?h6
      (case h1 => k_is)
      (case h2 => k_is)
      (case h3 => k_is)
      (case h4 => k_is)
      (case h5 => k_is)
      (case h6 => k_is)
    have p31 : Ab.mtIn KX "Reader" "read_change" "Reader.read_change" K05.s_Reader_read_change := by
      refine' Ab.mtG_mk KX ?h1 ?h2 ?h3 ?h4 ?h5 ?h6
      (case h1 => k_is)
      (case h2 => k_is)
      (case h3 => k_is)
      (case h4 => k_is)
      (case h5 => k_is)
      (case h6 => k_is)
    have p32 : Ab.mtIn KX "Reader" "read_changes" "Reader.read_changes" K05.s_Reader_read_changes := by
      refine' Ab.mtG_mk KX ?h1 ?h2 ?h3 ?h4 ?h5 ?h6
      (case h1 => k_is)
      (case h2 => k_is)
      (case h3 => k_is)
      (case h4 => k_is)
      (case h5 => k_is)
      (case h6 => k_is)
    have p33 : Ab.mtIn KX "Reader" "read_image" "Reader.read_image" K05.s_Reader_read_image := by
      refine' Ab.mtG_mk KX ?h1 ?h2 ?h3 ?h4 ?h5 ?h6
      (case h1 => k_is)
      (case h2 => k_is)
      (case h3 => k_is)
      (case h4 => k_is)
      (case h5 => k_is)
      (case h6 => k_is)
    have p34 : Ab.fnIn KX "_law_next" K05.s_law_next := by
      refine' Ab.fnG_mk KX ?h1 ?h2 ?h3 ?h4
      (case h1 => k_is)
      (case h2 => k_is)
      (case h3 => k_is)
      (case h4 => k_is)
    have p35 : Ab.fnIn KX "_law_same" K05.s_law_same := by
      refine' Ab.fnG_mk KX ?h1 ?h2 ?h3 ?h4
      (case h1 => k_is)
      (case h2 => k_is)
      (case h3 => k_is)
      (case h4 => k_is)
    have p36 : Ab.fnIn KX "_law_characters" K05.s_law_characters := by
      refine' Ab.fnG_mk KX ?h1 ?h2 ?h3 ?h4
      (case h1 => k_is)
      (case h2 => k_is)
      (case h3 => k_is)
      (case h4 => k_is)
    have p37 : Ab.fnIn KX "_law_value" K05.s_law_value := by
      refine' Ab.fnG_mk KX ?h1 ?h2 ?h3 ?h4
      (case h1 => k_is)
      (case h2 => k_is)
      (case h3 => k_is)
      (case h4 => k_is)
    have p38 : Ab.fnIn KX "_law_row" K05.s_law_row := by
      refine' Ab.fnG_mk KX ?h1 ?h2 ?h3 ?h4
      (case h1 => k_is)
      (case h2 => k_is)
      (case h3 => k_is)
      (case h4 => k_is)
    have p39 : Ab.fnIn KX "_law_name" K05.s_law_name := by
      refine' Ab.fnG_mk KX ?h1 ?h2 ?h3 ?h4
      (case h1 => k_is)
      (case h2 => k_is)
      (case h3 => k_is)
      (case h4 => k_is)
    have p40 : Ab.fnIn KX "_law_term" K05.s_law_term := by
      refine' Ab.fnG_mk KX ?h1 ?h2 ?h3 ?h4
      (case h1 => k_is)
      (case h2 => k_is)
      (case h3 => k_is)
      (case h4 => k_is)
    have p41 : Ab.fnIn KX "_law_terms" K05.s_law_terms := by
      refine' Ab.fnG_mk KX ?h1 ?h2 ?h3 ?h4
      (case h1 => k_is)
      (case h2 => k_is)
      (case h3 => k_is)
      (case h4 => k_is)
    have p42 : Ab.fnIn KX "_law_literal" K05.s_law_literal := by
      refine' Ab.fnG_mk KX ?h1 ?h2 ?h3 ?h4
      (case h1 => k_is)
      (case h2 => k_is)
      (case h3 => k_is)
      (case h4 => k_is)
    have p43 : Ab.fnIn KX "_law_body" K05.s_law_body := by
      refine' Ab.fnG_mk KX ?h1 ?h2 ?h3 ?h4
      (case h1 => k_is)
      (case h2 => k_is)
      (case h3 => k_is)
      (case h4 => k_is)
    have p44 : Ab.fnIn KX "_law_item" K05.s_law_item := by
      refine' Ab.fnG_mk KX ?h1 ?h2 ?h3 ?h4
      (case h1 => k_is)
      (case h2 => k_is)
      (case h3 => k_is)
      (case h4 => k_is)
    have p45 : Ab.fnIn KX "_law_before" K05.s_law_before := by
      refine' Ab.fnG_mk KX ?h1 ?h2 ?h3 ?h4
      (case h1 => k_is)
      (case h2 => k_is)
      (case h3 => k_is)
      (case h4 => k_is)
    have p46 : Ab.fnIn KX "_law_order" K05.s_law_order := by
      refine' Ab.fnG_mk KX ?h1 ?h2 ?h3 ?h4
      (case h1 => k_is)
      (case h2 => k_is)
      (case h3 => k_is)
      (case h4 => k_is)
    have p47 : Ab.fnIn KX "_law_key" K05.s_law_key := by
      refine' Ab.fnG_mk KX ?h1 ?h2 ?h3 ?h4
      (case h1 => k_is)
      (case h2 => k_is)
      (case h3 => k_is)
      (case h4 => k_is)
    have p48 : Ab.fnIn KX "_law_key_order" K05.s_law_key_order := by
      refine' Ab.fnG_mk KX ?h1 ?h2 ?h3 ?h4
      (case h1 => k_is)
      (case h2 => k_is)
      (case h3 => k_is)
      (case h4 => k_is)
    have p49 : Ab.fnIn KX "_law_placed" K05.s_law_placed := by
      refine' Ab.fnG_mk KX ?h1 ?h2 ?h3 ?h4
      (case h1 => k_is)
      (case h2 => k_is)
      (case h3 => k_is)
      (case h4 => k_is)
    have p50 : Ab.fnIn KX "_law_items" K05.s_law_items := by
      refine' Ab.fnG_mk KX ?h1 ?h2 ?h3 ?h4
      (case h1 => k_is)
      (case h2 => k_is)
      (case h3 => k_is)
      (case h4 => k_is)
    have p51 : Ab.fnIn KX "_law_number" K05.s_law_number := by
      refine' Ab.fnG_mk KX ?h1 ?h2 ?h3 ?h4
      (case h1 => k_is)
      (case h2 => k_is)
      (case h3 => k_is)
      (case h4 => k_is)
    have p52 : Ab.fnIn KX "_law_listed" K05.s_law_listed := by
      refine' Ab.fnG_mk KX ?h1 ?h2 ?h3 ?h4
      (case h1 => k_is)
      (case h2 => k_is)
      (case h3 => k_is)
      (case h4 => k_is)
    have p53 : Ab.fnIn KX "_law_string_code" K05.s_law_string_code := by
      refine' Ab.fnG_mk KX ?h1 ?h2 ?h3 ?h4
      (case h1 => k_is)
      (case h2 => k_is)
      (case h3 => k_is)
      (case h4 => k_is)
    have p54 : Ab.fnIn KX "_law_value_code" K05.s_law_value_code := by
      refine' Ab.fnG_mk KX ?h1 ?h2 ?h3 ?h4
      (case h1 => k_is)
      (case h2 => k_is)
      (case h3 => k_is)
      (case h4 => k_is)
    have p55 : Ab.fnIn KX "_law_row_code" K05.s_law_row_code := by
      refine' Ab.fnG_mk KX ?h1 ?h2 ?h3 ?h4
      (case h1 => k_is)
      (case h2 => k_is)
      (case h3 => k_is)
      (case h4 => k_is)
    have p56 : Ab.fnIn KX "_law_term_code" K05.s_law_term_code := by
      refine' Ab.fnG_mk KX ?h1 ?h2 ?h3 ?h4
      (case h1 => k_is)
      (case h2 => k_is)
      (case h3 => k_is)
      (case h4 => k_is)
    have p57 : Ab.fnIn KX "_law_terms_code" K05.s_law_terms_code := by
      refine' Ab.fnG_mk KX ?h1 ?h2 ?h3 ?h4
      (case h1 => k_is)
      (case h2 => k_is)
      (case h3 => k_is)
      (case h4 => k_is)
    have p58 : Ab.fnIn KX "_law_literal_code" K05.s_law_literal_code := by
      refine' Ab.fnG_mk KX ?h1 ?h2 ?h3 ?h4
      (case h1 => k_is)
      (case h2 => k_is)
      (case h3 => k_is)
      (case h4 => k_is)
    have p59 : Ab.fnIn KX "_law_body_code" K05.s_law_body_code := by
      refine' Ab.fnG_mk KX ?h1 ?h2 ?h3 ?h4
      (case h1 => k_is)
      (case h2 => k_is)
      (case h3 => k_is)
      (case h4 => k_is)
    have p60 : Ab.fnIn KX "_law_item_code" K05.s_law_item_code := by
      refine' Ab.fnG_mk KX ?h1 ?h2 ?h3 ?h4
      (case h1 => k_is)
      (case h2 => k_is)
      (case h3 => k_is)
      (case h4 => k_is)
    have p61 : Ab.fnIn KX "_law_change_code" K05.s_law_change_code := by
      refine' Ab.fnG_mk KX ?h1 ?h2 ?h3 ?h4
      (case h1 => k_is)
      (case h2 => k_is)
      (case h3 => k_is)
      (case h4 => k_is)
    have p62 : Ab.fnIn KX "_law_any_changes" K05.s_law_any_changes := by
      refine' Ab.fnG_mk KX ?h1 ?h2 ?h3 ?h4
      (case h1 => k_is)
      (case h2 => k_is)
      (case h3 => k_is)
      (case h4 => k_is)
    have p63 : Ab.fnIn KX "_law_again" K05.s_law_again := by
      refine' Ab.fnG_mk KX ?h1 ?h2 ?h3 ?h4
      (case h1 => k_is)
      (case h2 => k_is)
      (case h3 => k_is)
      (case h4 => k_is)
    have p64 : Ab.fnIn KX "_law_tried" K05.s_law_tried := by
      refine' Ab.fnG_mk KX ?h1 ?h2 ?h3 ?h4
      (case h1 => k_is)
      (case h2 => k_is)
      (case h3 => k_is)
      (case h4 => k_is)
    have p65 : Ab.fnIn KX "_law_image_at" K05.s_law_image_at := by
      refine' Ab.fnG_mk KX ?h1 ?h2 ?h3 ?h4
      (case h1 => k_is)
      (case h2 => k_is)
      (case h3 => k_is)
      (case h4 => k_is)
    have p66 : Ab.fnIn KX "_law_items_at" K05.s_law_items_at := by
      refine' Ab.fnG_mk KX ?h1 ?h2 ?h3 ?h4
      (case h1 => k_is)
      (case h2 => k_is)
      (case h3 => k_is)
      (case h4 => k_is)
    have p67 : Ab.fnIn KX "_law_drawn" K05.s_law_drawn := by
      refine' Ab.fnG_mk KX ?h1 ?h2 ?h3 ?h4
      (case h1 => k_is)
      (case h2 => k_is)
      (case h3 => k_is)
      (case h4 => k_is)
    have p68 : Ab.fnIn KX "_law_faults" K05.s_law_faults := by
      refine' Ab.fnG_mk KX ?h1 ?h2 ?h3 ?h4
      (case h1 => k_is)
      (case h2 => k_is)
      (case h3 => k_is)
      (case h4 => k_is)
    have p69 : Ab.fnIn KX "law" K05.s_law := by
      refine' Ab.fnG_mk KX ?h1 ?h2 ?h3 ?h4
      (case h1 => k_is)
      (case h2 => k_is)
      (case h3 => k_is)
      (case h4 => k_is)
    refine' K05.all_mk KX G hmg p0 p1 ?a2 ?q2 ?l2 ?c_2 ?k2 ?lT2 ?dTo2 ?lE2 ?dEo2 p3 p4 p5 p6 p7 p8 p9 p10 p11 p12 p13 p14 p15 p16 p17 p18 p19 p20 p21 p22 p23 p24 p25 p26 p27 p28 p29 p30 p31 p32 p33 p34 p35 p36 p37 p38 p39 p40 p41 p42 p43 p44 p45 p46 p47 p48 p49 p50 p51 p52 p53 p54 p55 p56 p57 p58 p59 p60 p61 p62 p63 p64 p65 p66 p67 p68 p69 ?g_Reader ?pg_Reader ?hd_Reader ?po_Reader ?sa_Reader ?mk_Reader ?kc_Reader ?na_Reader_data ?na_Reader_at ?g_State ?pg_State ?hd_State ?po_State ?sa_State ?mk_State ?kc_State ?na_State_relations ?na_State_facts ?na_State_rules ?na_State_denials ?g_DamagedData ?x_DamagedData ?kp_DamagedData ?bs_DamagedData ?ty_DamagedData ?hd_DamagedData ?e1_DamagedData ?e2_DamagedData ?e3_DamagedData ?e4_DamagedData ?e5_DamagedData ?e6_DamagedData ?s_DamagedData_DamagedData ?s_DamagedData_RuleError ?g_RuleError ?x_RuleError ?kp_RuleError ?bs_RuleError ?ty_RuleError ?hd_RuleError ?s_RuleError_DamagedData ?s_RuleError_RuleError ?z0 ?z1 ?z2 ?z3 ?z4 ?z5 ?z6 ?z7 ?z8 ?z9 ?z10 ?z11 ?i0 ?i1 ?i2 ?v0 ?vl0 ?vo0 ?v1 ?vl1 ?vo1 ?v2 ?vl2 ?vo2 ?v3 ?vl3 ?vo3 ?v4 ?vl4 ?vo4
    (case g_Reader => k_is)
    (case g_State => k_is)
    (case g_DamagedData => k_is)
    (case g_RuleError => k_is)
    (case a2 => k_is)
    (case q2 => k_is)
    (case l2 => k_is)
    (case c_2 => k_is)
    (case k2 => k_is)
    (case lT2 => k_is)
    (case dTo2 => exact ⟨_, rfl⟩)
    (case lE2 => k_is)
    (case dEo2 => exact ⟨rfl, rfl, _, rfl⟩)
    (case pg_Reader => k_is)
    (case hd_Reader => k_is)
    (case po_Reader => k_is)
    (case sa_Reader => k_is)
    (case mk_Reader => k_is)
    (case kc_Reader => k_is)
    (case na_Reader_data => k_is)
    (case na_Reader_at => k_is)
    (case pg_State => k_is)
    (case hd_State => k_is)
    (case po_State => k_is)
    (case sa_State => k_is)
    (case mk_State => k_is)
    (case kc_State => k_is)
    (case na_State_relations => k_is)
    (case na_State_facts => k_is)
    (case na_State_rules => k_is)
    (case na_State_denials => k_is)
    (case x_DamagedData => k_exc)
    (case kp_DamagedData => k_is)
    (case bs_DamagedData => k_is)
    (case ty_DamagedData => k_is)
    (case hd_DamagedData => k_is)
    (case e1_DamagedData => k_is)
    (case e2_DamagedData => k_is)
    (case e3_DamagedData => k_is)
    (case e4_DamagedData => k_is)
    (case e5_DamagedData => k_is)
    (case e6_DamagedData => k_is)
    (case s_DamagedData_DamagedData => k_is)
    (case s_DamagedData_RuleError => k_is)
    (case x_RuleError => k_exc)
    (case kp_RuleError => k_is)
    (case bs_RuleError => k_is)
    (case ty_RuleError => k_is)
    (case hd_RuleError => k_is)
    (case s_RuleError_DamagedData => k_is)
    (case s_RuleError_RuleError => k_is)
    (case z0 => k_is)
    (case z1 => k_is)
    (case z2 => k_is)
    (case z3 => k_is)
    (case z4 => k_is)
    (case z5 => k_is)
    (case z6 => k_is)
    (case z7 => k_is)
    (case z8 => k_is)
    (case z9 => k_is)
    (case z10 => k_is)
    (case z11 => k_is)
    (case i0 => k_is)
    (case i1 => k_is)
    (case i2 => k_is)
    (case v0 => k_is)
    (case vl0 => k_is)
    (case vo0 => exact ⟨rfl, rfl, _, _, rfl, by decide, .cons ⟨_, rfl⟩ (.cons ⟨_, rfl⟩ (.cons ⟨_, rfl⟩ (.cons ⟨_, rfl⟩ (.cons ⟨_, rfl⟩ (.cons ⟨_, rfl⟩ (.nil))))))⟩)
    (case v1 => k_is)
    (case vl1 => k_is)
    (case vo1 => exact ⟨rfl, rfl, _, _, rfl, by decide, .cons ⟨_, rfl⟩ (.cons ⟨_, rfl⟩ (.cons ⟨_, rfl⟩ (.cons ⟨_, rfl⟩ (.cons ⟨_, rfl⟩ (.nil)))))⟩)
    (case v2 => k_is)
    (case vl2 => k_is)
    (case vo2 => exact ⟨rfl, rfl, _, _, rfl, by decide, .cons ⟨_, rfl⟩ (.cons ⟨_, rfl⟩ (.cons ⟨_, rfl⟩ (.nil)))⟩)
    (case v3 => k_is)
    (case vl3 => k_is)
    (case vo3 => exact ⟨rfl, rfl, _, _, rfl, by decide, .cons ⟨_, rfl⟩ (.cons ⟨_, rfl⟩ (.cons ⟨_, rfl⟩ (.nil)))⟩)
    (case v4 => k_is)
    (case vl4 => k_is)
    (case vo4 => exact ⟨rfl, rfl, _, _, rfl, by decide, .cons ⟨_, rfl⟩ (.cons ⟨_, rfl⟩ (.cons ⟨_, rfl⟩ (.cons ⟨_, rfl⟩ (.nil))))⟩)
