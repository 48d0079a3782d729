import PyProof.Rows.All
import Wide.All
import OpenK.AllK
import Wide.FinOn
import HandS.ForMost
import HandS.Wide
import HandS.IsInst
import HandS.Style
import HandS.Deep
import HandS.ForExc
import HandS.ExcOwn
import HandS.TryOnly
import HandS.SetKeys
import HandS.EndBits
import KE.DataCmp
import HandS.TupLe
import HandS.Text
import HandS.Strs
import HandS.TupAny
import HandS.CallSlots
import HandS.WordsDict
import PyProof.DictUpdate
import HandS.ExcIs
import PySem.Challenge.RW_rulestead_k06_disk_keeps_what_was_synced
set_option Elab.async false
set_option linter.all false
set_option maxRecDepth 100000
set_option  maxHeartbeats 4000000
/-! Ab: a calculus over HandS's readings in which data (lists, tuples of data that nobody changes any more) are plain values and only what may change stands in a small map. -/
namespace Ab
open PySem L2

/-! ### heaps -/
theorem same_new {H : Hp} {p : Addr} {o : HO} (h : H p = none) : Same H (upd H p o) := fun b u e => by
  rw [upd_ne (ne_of_none e h)]
  exact e
theorem same_rd {H H' : Hp} {a : Addr} {u : HO} (e : Same H H') (h : Rd H a u) : Rd H' a u := by
  rcases h with h | ⟨o, h⟩
  · exact .inl (e _ _ h)
  · exact .inr ⟨o, e _ _ h⟩
theorem same_l {K : PySem.W.Frag} {H H' : Hp} {a : Addr} {xs : List V} (e : Same H H') (h : SqL K H a xs) : SqL K H' a xs := by
  rcases h with h | h
  · exact .inl (same_rd e h)
  · exact .inr h
theorem same_t {K : PySem.W.Frag} {H H' : Hp} {a : Addr} {xs : List V} (e : Same H H') (h : SqT K H a xs) : SqT K H' a xs := by
  rcases h with h | h
  · exact .inl (same_rd e h)
  · exact .inr h
/-! data that stands in the heap: lists tracked (none of the module's own), tuples of any kind -/
mutual
inductive Dq (K : PySem.W.Frag) (H : Hp) : V → PyData → Prop
  | non : Dq K H .non .none
  | bl (b : Bool) : Dq K H (.bl b) (.bool b)
  | int (i : Int) : Dq K H (.int i) (.int i)
  | str (x : Str) : Dq K H (.str x) (.str x)
  | lst {a : Addr} {xs : List V} {ds : List PyData} : Rd H a (.lst xs) → DqAll K H xs ds → Dq K H (.ref a) (.list ds)
  | tup {a : Addr} {xs : List V} {ds : List PyData} : SqT K H a xs → DqAll K H xs ds → Dq K H (.ref a) (.tuple ds)
inductive DqAll (K : PySem.W.Frag) (H : Hp) : List V → List PyData → Prop
  | nil : DqAll K H [] []
  | cons {v : V} {vs : List V} {d : PyData} {ds : List PyData} : Dq K H v d → DqAll K H vs ds → DqAll K H (v :: vs) (d :: ds)
end
section
variable {K : PySem.W.Frag} {B B' : Hp}
mutual
theorem dq_dp : ∀ (d : PyData) (v : V), Dq K B v d → Dp K B v d
  | .none, _, h => by cases h; exact .non
  | .bool b, _, h => by cases h; exact .bl b
  | .int i, _, h => by cases h; exact .int i
  | .str x, _, h => by cases h; exact .str x
  | .list ds, _, h => by
    cases h with
    | lst hs ha => exact .lst (.inl hs) (dqa_dp ds _ ha)
  | .tuple ds, _, h => by
    cases h with
    | tup hs ha => exact .tup hs (dqa_dp ds _ ha)
  | .dict _, _, h => by cases h
theorem dqa_dp : ∀ (ds : List PyData) (vs : List V), DqAll K B vs ds → DpAll K B vs ds
  | [], _, h => by cases h; exact .nil
  | d :: ds, _, h => by
    cases h with
    | cons h1 h2 => exact .cons (dq_dp d _ h1) (dqa_dp ds _ h2)
end
mutual
theorem dp_same (e : Same B B') : ∀ (d : PyData) (v : V), Dq K B v d → Dq K B' v d
  | .none, _, h => by cases h; exact .non
  | .bool b, _, h => by cases h; exact .bl b
  | .int i, _, h => by cases h; exact .int i
  | .str x, _, h => by cases h; exact .str x
  | .list ds, _, h => by
    cases h with
    | lst hs ha => exact .lst (same_rd e hs) (dpa_same e ds _ ha)
  | .tuple ds, _, h => by
    cases h with
    | tup hs ha => exact .tup (same_t e hs) (dpa_same e ds _ ha)
  | .dict _, _, h => by cases h
theorem dpa_same (e : Same B B') : ∀ (ds : List PyData) (vs : List V), DqAll K B vs ds → DqAll K B' vs ds
  | [], _, h => by cases h; exact .nil
  | d :: ds, _, h => by
    cases h with
    | cons h1 h2 => exact .cons (dp_same e d _ h1) (dpa_same e ds _ h2)
end
end

/-! ### what a slot holds -/
inductive Sl where
  /-- data that nobody changes -/
  | dat (d : PyData)
  /-- just this value -/
  | raw (v : V)
  /-- what else is known of it, as long as things are only added -/
  | abs (P : Hp → V → Prop) (m : ∀ B B' v, Same B B' → P B v → P B' v)
abbrev Sl.int (i : Int) : Sl := .dat (.int i)
abbrev Sl.bl (b : Bool) : Sl := .dat (.bool b)
abbrev Sl.str (x : Str) : Sl := .dat (.str x)
abbrev Sl.non : Sl := .dat .none
abbrev Sl.ls (ds : List PyData) : Sl := .dat (.list ds)
abbrev Sl.tp (ds : List PyData) : Sl := .dat (.tuple ds)
abbrev Sl.ref (a : Addr) : Sl := .raw (.ref a)

def SlOk (K : PySem.W.Frag) (B : Hp) (v : V) : Sl → Prop
  | .dat d => Dq K B v d
  | .raw u => v = u
  | .abs P _ => P B v
section
variable {K : PySem.W.Frag} {B B' : Hp} {v : V} {s : Sl}
theorem SlOk.mono (e : Same B B') (h : SlOk K B v s) : SlOk K B' v s := by
  cases s with
  | dat d => exact dp_same e d v h
  | raw u => exact h
  | abs P m => exact m _ _ _ e h
theorem slok_int {i : Int} : SlOk K B (.int i) (.int i) := Dq.int i
theorem slok_bl {b : Bool} : SlOk K B (.bl b) (.bl b) := Dq.bl b
theorem slok_str {x : Str} : SlOk K B (.str x) (.str x) := Dq.str x
theorem slok_non : SlOk K B .non .non := Dq.non
theorem slok_ref {a : Addr} : SlOk K B (.ref a) (.ref a) := rfl
theorem of_int {i : Int} (h : SlOk K B v (.int i)) : v = .int i := by cases h; rfl
theorem of_bl {b : Bool} (h : SlOk K B v (.bl b)) : v = .bl b := by cases h; rfl
theorem of_str {x : Str} (h : SlOk K B v (.str x)) : v = .str x := by cases h; rfl
theorem of_non (h : SlOk K B v .non) : v = .non := by cases h; rfl
abbrev SlAll (K : PySem.W.Frag) (B : Hp) : List V → List Sl → Prop := Paired fun v s => SlOk K B v s
theorem SlAll.mono (e : Same B B') {vs : List V} {ss : List Sl} (h : SlAll K B vs ss) : SlAll K B' vs ss := Paired.mapP h fun _ _ q => q.mono e
theorem sla_dat : ∀ {vs : List V} {ds : List PyData}, DqAll K B vs ds → SlAll K B vs (ds.map .dat)
  | _, _, .nil => .nil
  | _, _, .cons h t => .cons h (sla_dat t)
theorem dpa_of : ∀ {vs : List V} {ds : List PyData}, SlAll K B vs (ds.map .dat) → DqAll K B vs ds
  | _, [], .nil => .nil
  | _, _ :: _, .cons h t => .cons h (dpa_of t)
theorem DqAll.length : ∀ {vs : List V} {ds : List PyData}, DqAll K B vs ds → vs.length = ds.length
  | _, _, .nil => rfl
  | _, _, .cons _ t => congrArg (· + 1) (DqAll.length t)
theorem DqAll.app : ∀ {vs ws : List V} {ds es : List PyData}, DqAll K B vs ds → DqAll K B ws es → DqAll K B (vs ++ ws) (ds ++ es)
  | _, _, _, _, .nil, h => h
  | _, _, _, _, .cons h t, h' => .cons h (DqAll.app t h')
theorem DqAll.take : ∀ (n : Nat) {vs : List V} {ds : List PyData}, DqAll K B vs ds → DqAll K B (vs.take n) (ds.take n)
  | 0, _, _, _ => .nil
  | _ + 1, _, _, .nil => .nil
  | n + 1, _, _, .cons h t => .cons h (DqAll.take n t)
theorem DqAll.drop : ∀ (n : Nat) {vs : List V} {ds : List PyData}, DqAll K B vs ds → DqAll K B (vs.drop n) (ds.drop n)
  | 0, _, _, h => h
  | _ + 1, _, _, .nil => .nil
  | n + 1, _, _, .cons _ t => DqAll.drop n t
theorem DqAll.get : ∀ {i : Nat} {vs : List V} {ds : List PyData} {d : PyData}, DqAll K B vs ds → ds[i]? = some d → ∃ v, vs[i]? = some v ∧ Dq K B v d
  | _, _, _, _, .nil, e => by simp at e
  | 0, _, _, _, .cons h _, e => by simp at e; subst e; exact ⟨_, rfl, h⟩
  | i + 1, _, _, _, .cons _ t, e => by
    obtain ⟨v, h1, h2⟩ := DqAll.get (i := i) t (by simpa using e)
    exact ⟨v, by simpa using h1, h2⟩
theorem SlAll.get : ∀ {i : Nat} {vs : List V} {ss : List Sl} {s : Sl}, SlAll K B vs ss → ss[i]? = some s → ∃ v, vs[i]? = some v ∧ SlOk K B v s
  | _, _, _, _, .nil, e => by simp at e
  | 0, _, _, _, .cons h _, e => by simp at e; subst e; exact ⟨_, rfl, h⟩
  | i + 1, _, _, _, .cons _ t, e => by
    obtain ⟨v, h1, h2⟩ := SlAll.get (i := i) t (by simpa using e)
    exact ⟨v, by simpa using h1, h2⟩
theorem SlAll.setI {v : V} {s : Sl} (r : SlOk K B v s) : ∀ (i : Nat) {vs : List V} {ss : List Sl}, SlAll K B vs ss → SlAll K B (vs.set i v) (ss.set i s)
  | _, _, _, .nil => .nil
  | 0, _, _, .cons _ t => .cons r t
  | i + 1, _, _, .cons q t => .cons q (SlAll.setI r i t)
theorem SlAll.app : ∀ {vs ws : List V} {ds es : List Sl}, SlAll K B vs ds → SlAll K B ws es → SlAll K B (vs ++ ws) (ds ++ es)
  | _, _, _, _, .nil, h => h
  | _, _, _, _, .cons h t, h' => .cons h (SlAll.app t h')
end

/-! ### the frame -/
abbrev Rho := List (Option Sl)
def Rl0 (K : PySem.W.Frag) (B : Hp) : L2.St → Rho → Prop
  | [], [] => True
  | x :: σ, y :: ρ => (∀ s, y = some s → ∃ v, x = some v ∧ SlOk K B v s) ∧ Rl0 K B σ ρ
  | _, _ => False
section
variable {K : PySem.W.Frag} {B B' : Hp}
theorem Rl0.mono (e : Same B B') : ∀ {σ : L2.St} {ρ : Rho}, Rl0 K B σ ρ → Rl0 K B' σ ρ
  | [], [], _ => trivial
  | _ :: _, _ :: _, ⟨h, t⟩ => ⟨fun s q => let ⟨v, e1, e2⟩ := h s q; ⟨v, e1, e2.mono e⟩, Rl0.mono e t⟩
theorem Rl0.get : ∀ {i : Nat} {σ : L2.St} {ρ : Rho} {s : Sl}, Rl0 K B σ ρ → ρ[i]? = some (some s) → ∃ v, σ[i]? = some (some v) ∧ SlOk K B v s
  | _, [], [], _, _, e => by simp at e
  | 0, _ :: _, _ :: _, s, ⟨h, _⟩, e => by
    obtain ⟨v, e1, e2⟩ := h s (by simpa using e)
    exact ⟨v, by rw [e1]; rfl, e2⟩
  | i + 1, _ :: _, _ :: _, s, ⟨_, t⟩, e => by
    obtain ⟨v, h1, h2⟩ := Rl0.get (i := i) t (by simpa using e)
    exact ⟨v, by simpa using h1, h2⟩
theorem Rl0.put {v : V} {s : Sl} (r : SlOk K B v s) : ∀ (i : Nat) {σ : L2.St} {ρ : Rho}, Rl0 K B σ ρ → Rl0 K B (σ.set i (some v)) (ρ.set i (some s))
  | _, [], [], _ => trivial
  | 0, _ :: _, _ :: _, ⟨_, t⟩ => ⟨fun s' q => (by cases q; exact ⟨v, rfl, r⟩), t⟩
  | i + 1, _ :: _, _ :: _, ⟨h, t⟩ => ⟨h, Rl0.put r i t⟩
theorem Rl0.non : ∀ (i : Nat) {σ : L2.St} {ρ : Rho}, Rl0 K B σ ρ → Rl0 K B (σ.set i none) (ρ.set i none)
  | _, [], [], _ => trivial
  | 0, _ :: _, _ :: _, ⟨_, t⟩ => ⟨fun s' q => (by cases q), t⟩
  | i + 1, _ :: _, _ :: _, ⟨h, t⟩ => ⟨h, Rl0.non i t⟩
/-- less may be known -/
theorem Rl0.less : ∀ (i : Nat) {σ : L2.St} {ρ : Rho}, Rl0 K B σ ρ → Rl0 K B σ (ρ.set i none)
  | _, [], [], _ => trivial
  | 0, _ :: _, _ :: _, ⟨_, t⟩ => ⟨fun s' q => (by simp at q), t⟩
  | i + 1, _ :: _, _ :: _, ⟨h, t⟩ => ⟨h, Rl0.less i t⟩
def wipeR (ρ : Rho) : List Nat → Rho
  | [] => ρ
  | v :: vs => (wipeR ρ vs).set v none
theorem Rl0.wiped {σ : L2.St} {ρ : Rho} (h : Rl0 K B σ ρ) : ∀ vs : List Nat, Rl0 K B (wipe σ vs) (wipeR ρ vs)
  | [] => h
  | v :: vs => Rl0.non v (Rl0.wiped h vs)
theorem rl_start : ∀ {vs : List V} {ss : List Sl} (n : Nat), SlAll K B vs ss → Rl0 K B (vs.map some ++ List.replicate n none) (ss.map some ++ List.replicate n none)
  | _, _, n, .nil => by
    show Rl0 K B (List.replicate n none) (List.replicate n none)
    induction n with
    | zero => trivial
    | succ n ih => exact ⟨fun s q => (by cases q), ih⟩
  | _, _, n, .cons h t => ⟨fun s q => (by cases q; exact ⟨_, rfl, h⟩), rl_start n t⟩
/-- what is known of a frame stands in another list of what is known, slot by slot -/
theorem wipe_set (σ : L2.St) (x : Option V) : ∀ (vs : List Nat) (j : Nat), j ∈ vs → wipe (σ.set j x) vs = wipe σ vs
  | [], _, h => by cases h
  | v :: vs, j, h => by
    show (wipe (σ.set j x) vs).set v none = (wipe σ vs).set v none
    by_cases hj : j ∈ vs
    · rw [wipe_set σ x vs j hj]
    · have e : j = v := by
        rcases List.mem_cons.mp h with h | h
        · exact h
        · exact absurd h hj
      subst e
      have out : ∀ (vs : List Nat) (σ : L2.St), j ∉ vs → wipe (σ.set j x) vs = (wipe σ vs).set j x := by
        intro vs
        induction vs with
        | nil => intro σ _; rfl
        | cons w ws ih =>
          intro σ hn
          have h1 : j ≠ w := fun e => hn (by rw [e]; exact List.mem_cons_self)
          have h2 : j ∉ ws := fun e => hn (List.mem_cons_of_mem _ e)
          show (wipe (σ.set j x) ws).set w none = ((wipe σ ws).set w none).set j x
          rw [ih σ h2, List.set_comm _ _ h1]
      rw [out vs σ hj, List.set_set]
theorem wipe_wipe (σ : L2.St) : ∀ (vs : List Nat), wipe (wipe σ vs) vs = wipe σ vs
  | [] => rfl
  | v :: vs => by
    show (wipe ((wipe σ vs).set v none) vs).set v none = (wipe σ vs).set v none
    by_cases hv : v ∈ vs
    · rw [wipe_set _ _ vs v hv, wipe_wipe σ vs]
    · have out : ∀ (vs : List Nat) (σ : L2.St), v ∉ vs → wipe (σ.set v none) vs = (wipe σ vs).set v none := by
        intro vs
        induction vs with
        | nil => intro σ _; rfl
        | cons w ws ih =>
          intro σ hn
          have h1 : v ≠ w := fun e => hn (by rw [e]; exact List.mem_cons_self)
          have h2 : v ∉ ws := fun e => hn (List.mem_cons_of_mem _ e)
          show (wipe (σ.set v none) ws).set w none = ((wipe σ ws).set w none).set v none
          rw [ih σ h2, List.set_comm _ _ h1]
      rw [out vs _ hv, wipe_wipe σ vs, List.set_set]
end

/-! ### what may change -/
inductive MO where
  | lst (xs : List Sl)
  | dK (kvs : List (Key × Sl))
  | ins (C dx : Addr) (fs : List (Str × Sl))
  | xd (fs : List (Str × Sl))
  | ho (o : HO)
  /-- known to somebody else for a while: read, not changed -/
  | frz (ob : Obj) (o : MO)
abbrev MH := Addr → Option MO
def um (M : MH) (a : Addr) (o : MO) : MH := fun b => if b = a then some o else M b
def del (M : MH) (a : Addr) : MH := fun b => if b = a then none else M b
theorem um_same {M : MH} {a : Addr} {o : MO} : um M a o a = some o := by unfold um; rw [if_pos rfl]
theorem um_ne {M : MH} {a b : Addr} {o : MO} (h : b ≠ a) : um M a o b = M b := by unfold um; rw [if_neg h]
theorem um_um {M : MH} {a : Addr} {o u : MO} : um (um M a o) a u = um M a u := by
  funext b; unfold um; split <;> rfl
theorem um_id {M : MH} {a : Addr} {o : MO} (h : M a = some o) : um M a o = M := by
  funext b
  by_cases e : b = a
  · subst e; rw [um_same, h]
  · rw [um_ne e]
theorem um_comm {M : MH} {a b : Addr} {o u : MO} (h : a ≠ b) : um (um M a o) b u = um (um M b u) a o := by
  funext c
  by_cases e1 : c = a
  · subst e1
    rw [um_ne h, um_same, um_same]
  · by_cases e2 : c = b
    · subst e2
      rw [um_same, um_ne e1, um_same]
    · rw [um_ne e2, um_ne e1, um_ne e1, um_ne e2]
theorem del_same {M : MH} {a : Addr} : del M a a = none := by unfold del; rw [if_pos rfl]
theorem del_ne {M : MH} {a b : Addr} (h : b ≠ a) : del M a b = M b := by unfold del; rw [if_neg h]
theorem del_um {M : MH} {a : Addr} {o : MO} (h : M a = none) : del (um M a o) a = M := by
  funext b
  by_cases e : b = a
  · subst e; rw [del_same, h]
  · rw [del_ne e, um_ne e]
theorem mne {M : MH} {a b : Addr} {o : MO} (h : M a = some o) (h' : M b = none) : a ≠ b := by
  intro e; subst e; rw [h] at h'; cases h'
abbrev SlKs {κ : Type} (K : PySem.W.Frag) (B : Hp) : List (κ × V) → List (κ × Sl) → Prop := Paired fun p q => p.1 = q.1 ∧ SlOk K B p.2 q.2
def MOk (K : PySem.W.Frag) (B : Hp) (u : HO) : MO → Prop
  | .lst xs => ∃ vs, u = .lst vs ∧ SlAll K B vs xs
  | .dK kvs => ∃ vs, u = .dK vs ∧ SlKs K B vs kvs
  | .ins C dx fs => ∃ vs, u = .ins C dx vs ∧ SlKs K B vs fs
  | .xd fs => ∃ vs, u = .xd vs ∧ SlKs K B vs fs
  | .ho o => u = o
  | .frz ob o => ∃ v, u = .frz ob v ∧ MOk K B v o
theorem MOk.mono {K : PySem.W.Frag} {B B' : Hp} (e : Same B B') {u : HO} {o : MO} (h : MOk K B u o) : MOk K B' u o := by
  induction o generalizing u with
  | lst xs => obtain ⟨vs, h1, h2⟩ := h; exact ⟨vs, h1, h2.mono e⟩
  | dK xs => obtain ⟨vs, h1, h2⟩ := h; exact ⟨vs, h1, Paired.mapP h2 fun _ _ q => ⟨q.1, q.2.mono e⟩⟩
  | ins C dx xs => obtain ⟨vs, h1, h2⟩ := h; exact ⟨vs, h1, Paired.mapP h2 fun _ _ q => ⟨q.1, q.2.mono e⟩⟩
  | xd xs => obtain ⟨vs, h1, h2⟩ := h; exact ⟨vs, h1, Paired.mapP h2 fun _ _ q => ⟨q.1, q.2.mono e⟩⟩
  | ho o => exact h
  | frz ob o ih => obtain ⟨v, h1, h2⟩ := h; exact ⟨v, h1, ih h2⟩
structure Sep (K : PySem.W.Frag) (B : Hp) (M : MH) (H : Hp) : Prop where
  sub : Same B H
  has : ∀ a o, M a = some o → B a = none ∧ ∃ u, H a = some u ∧ MOk K B u o
section
variable {K : PySem.W.Frag} {B H : Hp} {M : MH}
theorem Sep.freeB (S : Sep K B M H) {p : Addr} (h : H p = none) : B p = none := S.sub.free h
theorem Sep.freeM (S : Sep K B M H) {p : Addr} (h : H p = none) : M p = none := by
  cases e : M p with
  | none => rfl
  | some o =>
    obtain ⟨_, u, hu, _⟩ := S.has p o e
    rw [h] at hu; cases hu
/-- a new object that nobody will change -/
theorem Sep.alloc (S : Sep K B M H) {p : Addr} {o : HO} (h : H p = none) : Sep K (upd B p o) M (upd H p o) := by
  have hB := S.freeB h
  refine ⟨fun b u e => ?_, fun a u e => ?_⟩
  · by_cases hb : b = p
    · subst hb; rw [upd_same] at e ⊢; exact e
    · rw [upd_ne hb] at e ⊢; exact S.sub b u e
  · obtain ⟨h1, w, h2, h3⟩ := S.has a u e
    have hne : a ≠ p := ne_of_none h2 h
    exact ⟨by rw [upd_ne hne]; exact h1, w, by rw [upd_ne hne]; exact h2, h3.mono (same_new hB)⟩
/-- a new object that may be changed -/
theorem Sep.new (S : Sep K B M H) {p : Addr} {u : HO} {o : MO} (h : H p = none) (ok : MOk K B u o) : Sep K B (um M p o) (upd H p u) := by
  have hB := S.freeB h
  refine ⟨fun b w e => ?_, fun a w e => ?_⟩
  · rw [upd_ne (ne_of_none e hB)]; exact S.sub b w e
  · by_cases ha : a = p
    · subst ha
      rw [um_same] at e; cases e
      exact ⟨hB, u, upd_same, ok⟩
    · rw [um_ne ha] at e
      obtain ⟨h1, w', h2, h3⟩ := S.has a w e
      exact ⟨h1, w', by rw [upd_ne ha]; exact h2, h3⟩
/-- it is changed -/
theorem Sep.put (S : Sep K B M H) {p : Addr} {u : HO} {o o' : MO} (h : M p = some o) (ok : MOk K B u o') : Sep K B (um M p o') (upd H p u) := by
  obtain ⟨hB, _, _, _⟩ := S.has p o h
  refine ⟨fun b w e => ?_, fun a w e => ?_⟩
  · rw [upd_ne (ne_of_none e hB)]; exact S.sub b w e
  · by_cases ha : a = p
    · subst ha
      rw [um_same] at e; cases e
      exact ⟨hB, u, upd_same, ok⟩
    · rw [um_ne ha] at e
      obtain ⟨h1, w', h2, h3⟩ := S.has a w e
      exact ⟨h1, w', by rw [upd_ne ha]; exact h2, h3⟩
/-- it will not be changed any more -/
theorem Sep.freeze (S : Sep K B M H) {p : Addr} {u : HO} {o : MO} (h : M p = some o) (hu : H p = some u) : Sep K (upd B p u) (del M p) H := by
  obtain ⟨hB, _, _, _⟩ := S.has p o h
  refine ⟨fun b w e => ?_, fun a w e => ?_⟩
  · by_cases hb : b = p
    · subst hb; rw [upd_same] at e; cases e; exact hu
    · rw [upd_ne hb] at e; exact S.sub b w e
  · by_cases ha : a = p
    · subst ha; rw [del_same] at e; cases e
    · rw [del_ne ha] at e
      obtain ⟨h1, w', h2, h3⟩ := S.has a w e
      exact ⟨by rw [upd_ne ha]; exact h1, w', h2, h3.mono (same_new hB)⟩
/-- less may be said -/
theorem Sep.drop (S : Sep K B M H) {p : Addr} : Sep K B (del M p) H := ⟨S.sub, fun a o e => by
  by_cases ha : a = p
  · subst ha; rw [del_same] at e; cases e
  · rw [del_ne ha] at e; exact S.has a o e⟩
theorem Sep.sub' (S : Sep K B M H) {M' : MH} (h : ∀ a o, M' a = some o → M a = some o) : Sep K B M' H := ⟨S.sub, fun a o e => S.has a o (h a o e)⟩
end

/-! ### lists and tuples that are read -/
/-- a list that is read: data, or one that may change -/
def LsV (K : PySem.W.Frag) (s : Sl) (M : MH) (xs : List Sl) : Prop := (∃ ds, s = .dat (.list ds) ∧ xs = ds.map .dat) ∨ (∃ a, s = .raw (.ref a) ∧ M a = some (.lst xs)) ∨ ∃ a vs, s = .raw (.ref a) ∧ (∀ H, SqL K H a vs) ∧ ∀ B, SlAll K B vs xs
def TpV (s : Sl) (xs : List Sl) : Prop := ∃ ds, s = .dat (.tuple ds) ∧ xs = ds.map .dat
theorem lsv_dat {K : PySem.W.Frag} {ds : List PyData} {M : MH} : LsV K (.dat (.list ds)) M (ds.map .dat) := .inl ⟨ds, rfl, rfl⟩
theorem lsv_ref {K : PySem.W.Frag} {a : Addr} {M : MH} {xs : List Sl} (h : M a = some (.lst xs)) : LsV K (.raw (.ref a)) M xs := .inr (.inl ⟨a, rfl, h⟩)
theorem tpv_dat {ds : List PyData} : TpV (.dat (.tuple ds)) (ds.map .dat) := ⟨ds, rfl, rfl⟩
section
variable {K : PySem.W.Frag} {B H : Hp} {M : MH} {v : V} {s : Sl} {xs : List Sl}
theorem LsV.get (h : LsV K s M xs) (S : Sep K B M H) (o : SlOk K B v s) : ∃ a vs, v = .ref a ∧ SqL K H a vs ∧ SlAll K B vs xs := by
  rcases h with ⟨ds, rfl, rfl⟩ | ⟨a, rfl, e⟩ | ⟨a, vs, rfl, h1, h2⟩
  · cases o with
    | lst hs ha => exact ⟨_, _, rfl, .inl (same_rd S.sub hs), sla_dat ha⟩
  · obtain ⟨_, u, hu, vs, rfl, ha⟩ := S.has a _ e
    exact ⟨a, vs, o, SqL.of hu, ha⟩
  · exact ⟨a, vs, o, h1 H, h2 B⟩
/-- a list that is no constant of the module -/
def LsR (s : Sl) (M : MH) (xs : List Sl) : Prop := (∃ ds, s = .dat (.list ds) ∧ xs = ds.map .dat) ∨ ∃ a, s = .raw (.ref a) ∧ M a = some (.lst xs)
theorem lsr_dat {ds : List PyData} {M : MH} : LsR (.dat (.list ds)) M (ds.map .dat) := .inl ⟨ds, rfl, rfl⟩
theorem lsr_ref {a : Addr} {M : MH} {xs : List Sl} (h : M a = some (.lst xs)) : LsR (.raw (.ref a)) M xs := .inr ⟨a, rfl, h⟩
theorem LsR.get (h : LsR s M xs) (S : Sep K B M H) (o : SlOk K B v s) : ∃ a vs, v = .ref a ∧ Rd H a (.lst vs) ∧ SlAll K B vs xs := by
  rcases h with ⟨ds, rfl, rfl⟩ | ⟨a, rfl, e⟩
  · cases o with
    | lst hs ha => exact ⟨_, _, rfl, same_rd S.sub hs, sla_dat ha⟩
  · obtain ⟨_, u, hu, vs, rfl, ha⟩ := S.has a _ e
    exact ⟨a, vs, o, Rd.of hu, ha⟩
theorem TpV.get (h : TpV s xs) (S : Sep K B M H) (o : SlOk K B v s) : ∃ a vs, v = .ref a ∧ SqT K H a vs ∧ SlAll K B vs xs := by
  obtain ⟨ds, rfl, rfl⟩ := h
  cases o with
  | tup hs ha => exact ⟨_, _, rfl, same_t S.sub hs, sla_dat ha⟩
theorem SlAll.len {vs : List V} (h : SlAll K B vs xs) : vs.length = xs.length := Paired.length h
end

/-! ### the calculus -/
/-- where a def stands: the module's part, what is wanted of an exception (W), and what is told of it (X) -/
structure KX where
  K : PySem.W.Frag
  W : WX
  X : Value → Option Addr → Rho → MH → Prop
/-- nothing is raised -/
abbrev KX.pure (K : PySem.W.Frag) : KX := ⟨K, fun _ _ _ _ => False, fun _ _ _ _ => False⟩
instance : Coe KX PySem.W.Frag := ⟨KX.K⟩
instance : Coe PySem.W.Frag KX := ⟨KX.pure⟩
def XOk (k : KX) (B : Hp) : Prop := ∀ C d ρ' M' σ' B' H', k.X C d ρ' M' → Same B B' → Rl0 k.K B' σ' ρ' → Sep k.K B' M' H' → k.W C d σ' H'
structure Rl (k : KX) (B : Hp) (σ : L2.St) (ρ : Rho) : Prop where
  r : Rl0 k.K B σ ρ
  x : XOk k B
section
variable {k : KX} {B B' : Hp} {σ : L2.St} {ρ : Rho}
theorem Rl.mono (e : Same B B') (h : Rl k B σ ρ) : Rl k B' σ ρ := ⟨h.r.mono e, fun C d ρ' M' σ' B2 H' q e2 => h.x C d ρ' M' σ' B2 H' q (e.trans e2)⟩
theorem Rl.get {i : Nat} {s : Sl} (h : Rl k B σ ρ) (e : ρ[i]? = some (some s)) : ∃ v, σ[i]? = some (some v) ∧ SlOk k.K B v s := h.r.get e
theorem Rl.put {v : V} {s : Sl} (r : SlOk k.K B v s) (i : Nat) (h : Rl k B σ ρ) : Rl k B (σ.set i (some v)) (ρ.set i (some s)) := ⟨h.r.put r i, h.x⟩
theorem Rl.non (i : Nat) (h : Rl k B σ ρ) : Rl k B (σ.set i none) (ρ.set i none) := ⟨h.r.non i, h.x⟩
theorem Rl.less (i : Nat) (h : Rl k B σ ρ) : Rl k B σ (ρ.set i none) := ⟨h.r.less i, h.x⟩
theorem Rl.wiped (h : Rl k B σ ρ) (vs : List Nat) : Rl k B (wipe σ vs) (wipeR ρ vs) := ⟨h.r.wiped vs, h.x⟩
end
def W (K : KX) (te : TE) (ρ : Rho) (M : MH) (Q : Sl → MH → Prop) : Prop :=
  ∀ σ B H, Rl K B σ ρ → Sep K B M H → ∀ Q0 : VK, (∀ s v M' B' H', Q s M' → Same B B' → Sep K B' M' H' → SlOk K B' v s → Q0 v H') → te σ H Q0
def WT (K : KX) (te : TT) (ρ : Rho) (M : MH) (Q : Bool → MH → Prop) : Prop :=
  ∀ σ B H, Rl K B σ ρ → Sep K B M H → ∀ Q0 : Bool → Hp → Prop, (∀ b M' B' H', Q b M' → Same B B' → Sep K B' M' H' → Q0 b H') → te σ H Q0
def WA (K : KX) (te : TA) (ρ : Rho) (M : MH) (Q : List Sl → MH → Prop) : Prop :=
  ∀ σ B H, Rl K B σ ρ → Sep K B M H → ∀ Q0 : List V → Hp → Prop, (∀ ss vs M' B' H', Q ss M' → Same B B' → Sep K B' M' H' → SlAll K B' vs ss → Q0 vs H') → te σ H Q0
def WO (K : KX) (te : TO) (ρ : Rho) (M : MH) (Q : Option Int → MH → Prop) : Prop :=
  ∀ σ B H, Rl K B σ ρ → Sep K B M H → ∀ Q0 : Option Int → Hp → Prop, (∀ b M' B' H', Q b M' → Same B B' → Sep K B' M' H' → Q0 b H') → te σ H Q0
/-- operations on values -/
def W2 (K : PySem.W.Frag) (r : R2) (x y : Sl) (M : MH) (Q : Sl → MH → Prop) : Prop :=
  ∀ B H v w, Sep K B M H → SlOk K B v x → SlOk K B w y → ∀ Q0 : VK, (∀ s z M' B' H', Q s M' → Same B B' → Sep K B' M' H' → SlOk K B' z s → Q0 z H') → r v w H Q0
def W1 (K : PySem.W.Frag) (r : V → Hp → VK → Prop) (x : Sl) (M : MH) (Q : Sl → MH → Prop) : Prop :=
  ∀ B H v, Sep K B M H → SlOk K B v x → ∀ Q0 : VK, (∀ s z M' B' H', Q s M' → Same B B' → Sep K B' M' H' → SlOk K B' z s → Q0 z H') → r v H Q0
def WL (K : PySem.W.Frag) (r : List V → Hp → VK → Prop) (xs : List Sl) (M : MH) (Q : Sl → MH → Prop) : Prop :=
  ∀ B H vs, Sep K B M H → SlAll K B vs xs → ∀ Q0 : VK, (∀ s z M' B' H', Q s M' → Same B B' → Sep K B' M' H' → SlOk K B' z s → Q0 z H') → r vs H Q0
def WM (K : PySem.W.Frag) (r : V → List V → Hp → VK → Prop) (x : Sl) (xs : List Sl) (M : MH) (Q : Sl → MH → Prop) : Prop :=
  ∀ B H v vs, Sep K B M H → SlOk K B v x → SlAll K B vs xs → ∀ Q0 : VK, (∀ s z M' B' H', Q s M' → Same B B' → Sep K B' M' H' → SlOk K B' z s → Q0 z H') → r v vs H Q0
def WSl (K : PySem.W.Frag) (r : V → Option Int → Option Int → Hp → VK → Prop) (x : Sl) (lo hi : Option Int) (M : MH) (Q : Sl → MH → Prop) : Prop :=
  ∀ B H v, Sep K B M H → SlOk K B v x → ∀ Q0 : VK, (∀ s z M' B' H', Q s M' → Same B B' → Sep K B' M' H' → SlOk K B' z s → Q0 z H') → r v lo hi H Q0
/-- targets -/
def WG (K : KX) (g : TG) (x : Sl) (ρ : Rho) (M : MH) (Q : Rho → MH → Prop) : Prop :=
  ∀ σ B H v, Rl K B σ ρ → Sep K B M H → SlOk K B v x → ∀ Q0 : L2.St → Hp → Prop, (∀ ρ' M' σ' B' H', Q ρ' M' → Same B B' → Rl K B' σ' ρ' → Sep K B' M' H' → Q0 σ' H') → g v σ H Q0
/-- statements -/
structure AE where
  nx : Rho → MH → Prop
  rt : Sl → MH → Prop
  bk : Rho → MH → Prop
  ct : Rho → MH → Prop
def NoR : Rho → MH → Prop := fun _ _ => False
def WS (K : KX) (t : TS) (ρ : Rho) (M : MH) (P : AE) : Prop :=
  ∀ σ B H D, Rl K B σ ρ → Sep K B M H →
    (∀ ρ' M' σ' B' H', P.nx ρ' M' → Same B B' → Rl K B' σ' ρ' → Sep K B' M' H' → D.nx σ' H') →
    (∀ s v M' B' H', P.rt s M' → Same B B' → Sep K B' M' H' → SlOk K B' v s → D.rt v H') →
    (∀ ρ' M' σ' B' H', P.bk ρ' M' → Same B B' → Rl K B' σ' ρ' → Sep K B' M' H' → D.bk σ' H') →
    (∀ ρ' M' σ' B' H', P.ct ρ' M' → Same B B' → Rl K B' σ' ρ' → Sep K B' M' H' → D.ct σ' H') → t D σ H

section
variable {K : KX} {ρ : Rho} {M : MH} {Q Q' : Sl → MH → Prop} {ta tb te tc : TE} {r r' : R2} {P : AE}
theorem W.imp (h : W K te ρ M Q) (k : ∀ s M', Q s M' → Q' s M') : W K te ρ M Q' := fun σ B H hR hS Q0 q => h σ B H hR hS Q0 fun s v M' B' H' z => q s v M' B' H' (k _ _ z)
theorem WS.imp {t : TS} {P' : AE} (h : WS K t ρ M P) (h1 : ∀ ρ' M', P.nx ρ' M' → P'.nx ρ' M') (h2 : ∀ s M', P.rt s M' → P'.rt s M') (h3 : ∀ ρ' M', P.bk ρ' M' → P'.bk ρ' M') (h4 : ∀ ρ' M', P.ct ρ' M' → P'.ct ρ' M') : WS K t ρ M P' :=
  fun σ B H D hR hS a b c d => h σ B H D hR hS (fun ρ' M' σ' B' H' z => a ρ' M' σ' B' H' (h1 _ _ z)) (fun s v M' B' H' z => b s v M' B' H' (h2 _ _ z)) (fun ρ' M' σ' B' H' z => c ρ' M' σ' B' H' (h3 _ _ z)) (fun ρ' M' σ' B' H' z => d ρ' M' σ' B' H' (h4 _ _ z))
theorem w_var {i : Nat} {s : Sl} (h : ρ[i]? = some (some s)) (q : Q s M) : W K (tVar i) ρ M Q := fun σ B H hR hS Q0 k => by
  obtain ⟨v, e, o⟩ := hR.get h
  exact ⟨v, e, k s v M B H q (Same.refl B) hS o⟩
theorem w_int {i : Int} (q : Q (.int i) M) : W K (tC (.int i)) ρ M Q := fun σ B H hR hS Q0 k => k _ _ M B H q (Same.refl B) hS slok_int
theorem w_str {x : Str} (q : Q (.str x) M) : W K (tC (.str x)) ρ M Q := fun σ B H hR hS Q0 k => k _ _ M B H q (Same.refl B) hS slok_str
theorem w_bl {b : Bool} (q : Q (.bl b) M) : W K (tC (.bl b)) ρ M Q := fun σ B H hR hS Q0 k => k _ _ M B H q (Same.refl B) hS slok_bl
theorem w_non (q : Q .non M) : W K (tC .non) ρ M Q := fun σ B H hR hS Q0 k => k _ _ M B H q (Same.refl B) hS slok_non
theorem w_raw {v : V} (q : Q (.raw v) M) : W K (tC v) ρ M Q := fun σ B H hR hS Q0 k => k (.raw v) v M B H q (Same.refl B) hS rfl
/-- a constant of the module that is data -/
theorem w_cdat {v : V} {d : PyData} (h : ∀ B, Dq K B v d) (q : Q (.dat d) M) : W K (tC v) ρ M Q := fun σ B H hR hS Q0 k => k (.dat d) v M B H q (Same.refl B) hS (h B)
theorem w_op (h : W K ta ρ M fun x M1 => W K tb ρ M1 fun y M2 => W2 K r x y M2 Q) : W K (tOp r ta tb) ρ M Q := fun σ B H hR hS Q0 k =>
  h σ B H hR hS _ fun x v M1 B1 H1 hb e1 S1 o1 => hb σ B1 H1 (hR.mono e1) S1 _ fun y w M2 B2 H2 hr e2 S2 o2 =>
    hr B2 H2 v w S2 (o1.mono e2) o2 Q0 fun s z M3 B3 H3 q e3 S3 o3 => k s z M3 B3 H3 q ((e1.trans e2).trans e3) S3 o3
theorem w_un {r : V → Hp → VK → Prop} (h : W K ta ρ M fun x M1 => W1 K r x M1 Q) : W K (tUn r ta) ρ M Q := fun σ B H hR hS Q0 k =>
  h σ B H hR hS _ fun x v M1 B1 H1 hr e1 S1 o1 => hr B1 H1 v S1 o1 Q0 fun s z M3 B3 H3 q e3 S3 o3 => k s z M3 B3 H3 q (e1.trans e3) S3 o3
theorem wa_nil {Q : List Sl → MH → Prop} (q : Q [] M) : WA K tNil ρ M Q := fun σ B H hR hS Q0 k => k [] [] M B H q (Same.refl B) hS .nil
theorem wa_cons {tr : TA} {Q : List Sl → MH → Prop} (h : W K ta ρ M fun x M1 => WA K tr ρ M1 fun xs M2 => Q (x :: xs) M2) : WA K (tCons ta tr) ρ M Q := fun σ B H hR hS Q0 k =>
  h σ B H hR hS _ fun x v M1 B1 H1 hb e1 S1 o1 => hb σ B1 H1 (hR.mono e1) S1 _ fun xs vs M2 B2 H2 q e2 S2 o2 =>
    k (x :: xs) (v :: vs) M2 B2 H2 q (e1.trans e2) S2 (.cons (o1.mono e2) o2)
/-- a built-in called -/
theorem w_cb {t : TA} {r : List V → Hp → VK → Prop} (h : WA K t ρ M fun xs M1 => WL K r xs M1 Q) : W K (tCB r t) ρ M Q := fun σ B H hR hS Q0 k =>
  h σ B H hR hS _ fun xs vs M1 B1 H1 hr e1 S1 o1 => hr B1 H1 vs S1 o1 Q0 fun s z M3 B3 H3 q e3 S3 o3 => k s z M3 B3 H3 q (e1.trans e3) S3 o3
/-- a tuple, a list of data -/
theorem w_tup {t : TA} (h : WA K t ρ M fun xs M1 => ∃ ds, xs = ds.map .dat ∧ ds.length ≤ 100000 ∧ Q (.dat (.tuple ds)) M1) : W K (tTup t) ρ M Q := fun σ B H hR hS Q0 k =>
  h σ B H hR hS _ fun xs vs M1 B1 H1 ⟨ds, e, hl, q⟩ e1 S1 o1 => by
    subst e
    have hd := dpa_of o1
    have hlen := DqAll.length hd
    exact ⟨Nat.le_trans (by omega) (show 100000 ≤ sizeLine by decide), fun p hp => k _ _ M1 (upd B1 p (.tup vs)) _ q (e1.trans (same_new (S1.freeB hp))) (S1.alloc hp) (Dq.tup (SqT.of upd_same) (dpa_same (same_new (S1.freeB hp)) _ _ hd))⟩
theorem w_lst {t : TA} (h : WA K t ρ M fun xs M1 => ∃ ds, xs = ds.map .dat ∧ ds.length ≤ 100000 ∧ Q (.dat (.list ds)) M1) : W K (tLst t) ρ M Q := fun σ B H hR hS Q0 k =>
  h σ B H hR hS _ fun xs vs M1 B1 H1 ⟨ds, e, hl, q⟩ e1 S1 o1 => by
    subst e
    have hd := dpa_of o1
    have hlen := DqAll.length hd
    exact ⟨Nat.le_trans (by omega) (show 100000 ≤ sizeLine by decide), fun p hp => k _ _ M1 (upd B1 p (.lst vs)) _ q (e1.trans (same_new (S1.freeB hp))) (S1.alloc hp) (Dq.lst (Rd.of upd_same) (dpa_same (same_new (S1.freeB hp)) _ _ hd))⟩
/-- a list that will be changed -/
theorem w_lstM {t : TA} (h : WA K t ρ M fun xs M1 => xs.length ≤ 100000 ∧ ∀ p, M1 p = none → Q (.raw (.ref p)) (um M1 p (.lst xs))) : W K (tLst t) ρ M Q := fun σ B H hR hS Q0 k =>
  h σ B H hR hS _ fun xs vs M1 B1 H1 ⟨hl, q⟩ e1 S1 o1 => by
    have hlen := SlAll.len o1
    exact ⟨Nat.le_trans (by omega) (show 100000 ≤ sizeLine by decide), fun p hp => k _ _ _ B1 _ (q p (S1.freeM hp)) e1 (S1.new hp ⟨vs, rfl, o1⟩) rfl⟩
/-- tests -/
theorem wt_test {Q : Bool → MH → Prop} (h : W K te ρ M fun s M1 => ∃ b, s = .bl b ∧ Q b M1) : WT K (tTest te) ρ M Q := fun σ B H hR hS Q0 k =>
  h σ B H hR hS _ fun s v M1 B1 H1 ⟨b, e, q⟩ e1 S1 o1 => by
    subst e
    exact ⟨b, of_bl o1, k b M1 B1 H1 q e1 S1⟩
theorem wt_B {Q : Bool → MH → Prop} (h : W K te ρ M fun s M1 => ∃ b, s = .bl b ∧ Q b M1) : WT K (tB te) ρ M Q := fun σ B H hR hS Q0 k =>
  h σ B H hR hS _ fun s v M1 B1 H1 ⟨b, e, q⟩ e1 S1 o1 => by
    subst e
    exact ⟨b, of_bl o1, k b M1 B1 H1 q e1 S1⟩
theorem wt_and {t u : TT} {Q : Bool → MH → Prop} (h : WT K t ρ M fun b M1 => if b = true then WT K u ρ M1 Q else Q false M1) : WT K (tAnd t u) ρ M Q := fun σ B H hR hS Q0 k =>
  h σ B H hR hS _ fun b M1 B1 H1 q e1 S1 => by
    cases b with
    | true => exact q σ B1 H1 (hR.mono e1) S1 Q0 fun b2 M2 B2 H2 q2 e2 S2 => k b2 M2 B2 H2 q2 (e1.trans e2) S2
    | false => exact k false M1 B1 H1 q e1 S1
theorem wt_or {t u : TT} {Q : Bool → MH → Prop} (h : WT K t ρ M fun b M1 => if b = true then Q true M1 else WT K u ρ M1 Q) : WT K (tOr t u) ρ M Q := fun σ B H hR hS Q0 k =>
  h σ B H hR hS _ fun b M1 B1 H1 q e1 S1 => by
    cases b with
    | false => exact q σ B1 H1 (hR.mono e1) S1 Q0 fun b2 M2 B2 H2 q2 e2 S2 => k b2 M2 B2 H2 q2 (e1.trans e2) S2
    | true => exact k true M1 B1 H1 q e1 S1
theorem wt_not {t : TT} {Q : Bool → MH → Prop} (h : WT K t ρ M fun b M1 => Q (!b) M1) : WT K (tNot t) ρ M Q := fun σ B H hR hS Q0 k =>
  h σ B H hR hS _ fun b M1 B1 H1 q e1 S1 => k _ M1 B1 H1 q e1 S1
theorem w_if {t : TT} (h : WT K t ρ M fun b M1 => if b = true then W K ta ρ M1 Q else W K tb ρ M1 Q) : W K (tIf t ta tb) ρ M Q := fun σ B H hR hS Q0 k =>
  h σ B H hR hS _ fun b M1 B1 H1 q e1 S1 => by
    cases b with
    | true => exact q σ B1 H1 (hR.mono e1) S1 Q0 fun s v M2 B2 H2 q2 e2 S2 o2 => k s v M2 B2 H2 q2 (e1.trans e2) S2 o2
    | false => exact q σ B1 H1 (hR.mono e1) S1 Q0 fun s v M2 B2 H2 q2 e2 S2 o2 => k s v M2 B2 H2 q2 (e1.trans e2) S2 o2
theorem w_andV (h : W K ta ρ M fun s M1 => ∃ b, s = .bl b ∧ if b = true then W K tb ρ M1 Q else Q (.bl false) M1) : W K (tAndV ta tb) ρ M Q := fun σ B H hR hS Q0 k =>
  h σ B H hR hS _ fun s v M1 B1 H1 ⟨b, e, q⟩ e1 S1 o1 => by
    subst e
    refine ⟨b, of_bl o1, ?_⟩
    cases b with
    | true => exact q σ B1 H1 (hR.mono e1) S1 Q0 fun s v M2 B2 H2 q2 e2 S2 o2 => k s v M2 B2 H2 q2 (e1.trans e2) S2 o2
    | false => exact k _ _ M1 B1 H1 q e1 S1 slok_bl
theorem w_orV (h : W K ta ρ M fun s M1 => ∃ b, s = .bl b ∧ if b = true then Q (.bl true) M1 else W K tb ρ M1 Q) : W K (tOrV ta tb) ρ M Q := fun σ B H hR hS Q0 k =>
  h σ B H hR hS _ fun s v M1 B1 H1 ⟨b, e, q⟩ e1 S1 o1 => by
    subst e
    refine ⟨b, of_bl o1, ?_⟩
    cases b with
    | false => exact q σ B1 H1 (hR.mono e1) S1 Q0 fun s v M2 B2 H2 q2 e2 S2 o2 => k s v M2 B2 H2 q2 (e1.trans e2) S2 o2
    | true => exact k _ _ M1 B1 H1 q e1 S1 slok_bl
theorem w_notV (h : W K ta ρ M fun s M1 => ∃ b, s = .bl b ∧ Q (.bl (!b)) M1) : W K (tNotV ta) ρ M Q := fun σ B H hR hS Q0 k =>
  h σ B H hR hS _ fun s v M1 B1 H1 ⟨b, e, q⟩ e1 S1 o1 => by
    subst e
    exact ⟨b, of_bl o1, k _ _ M1 B1 H1 q e1 S1 slok_bl⟩
theorem w_chain (h : W K ta ρ M fun x M1 => W K tb ρ M1 fun y M2 => W2 K r x y M2 fun z M3 => ∃ b, z = .bl b ∧ if b = true then W K tc ρ M3 fun w M4 => W2 K r' y w M4 Q else Q (.bl false) M3) :
    W K (tChain r r' ta tb tc) ρ M Q := fun σ B H hR hS Q0 k =>
  h σ B H hR hS _ fun x v M1 B1 H1 hb e1 S1 o1 => hb σ B1 H1 (hR.mono e1) S1 _ fun y w M2 B2 H2 hr e2 S2 o2 =>
    hr B2 H2 v w S2 (o1.mono e2) o2 _ fun s z M3 B3 H3 ⟨b, eb, q⟩ e3 S3 o3 => by
      subst eb
      refine ⟨b, of_bl o3, ?_⟩
      cases b with
      | true =>
        show tc σ H3 _
        exact q σ B3 H3 (hR.mono ((e1.trans e2).trans e3)) S3 _ fun y' w' M4 B4 H4 q4 e4 S4 o4 => q4 B4 H4 w w' S4 (o2.mono (e3.trans e4)) o4 Q0 fun s5 z5 M5 B5 H5 q5 e5 S5 o5 => k s5 z5 M5 B5 H5 q5 ((((e1.trans e2).trans e3).trans e4).trans e5) S5 o5
      | false =>
        show Q0 (.bl false) H3
        exact k _ _ M3 B3 H3 q ((e1.trans e2).trans e3) S3 slok_bl
/-- slices -/
theorem wo_none {Q : Option Int → MH → Prop} (q : Q none M) : WO K tNoPart ρ M Q := fun σ B H hR hS Q0 k => k none M B H q (Same.refl B) hS
theorem wo_some {Q : Option Int → MH → Prop} (h : W K te ρ M fun s M1 => ∃ i, s = .int i ∧ Q (some i) M1) : WO K (tPart te) ρ M Q := fun σ B H hR hS Q0 k =>
  h σ B H hR hS _ fun s v M1 B1 H1 ⟨i, e, q⟩ e1 S1 o1 => by
    subst e
    exact ⟨i, of_int o1, k _ M1 B1 H1 q e1 S1⟩
theorem w_sl {r : V → Option Int → Option Int → Hp → VK → Prop} {tl th : TO} (h : W K te ρ M fun x M1 => WO K tl ρ M1 fun lo M2 => WO K th ρ M2 fun hi M3 => WSl K r x lo hi M3 Q) : W K (tSl r te tl th) ρ M Q := fun σ B H hR hS Q0 k =>
  h σ B H hR hS _ fun x v M1 B1 H1 h1 e1 S1 o1 => h1 σ B1 H1 (hR.mono e1) S1 _ fun lo M2 B2 H2 h2 e2 S2 => h2 σ B2 H2 (hR.mono (e1.trans e2)) S2 _ fun hi M3 B3 H3 h3 e3 S3 =>
    h3 B3 H3 v S3 (o1.mono (e2.trans e3)) Q0 fun s z M4 B4 H4 q e4 S4 o4 => k s z M4 B4 H4 q (((e1.trans e2).trans e3).trans e4) S4 o4
/-- methods of built-in types -/
theorem w_bm {T : String} {r : V → List V → Hp → VK → Prop} {t : TA} (h : W K ta ρ M fun x M1 => (∀ B H v, Sep K B M1 H → SlOk K B v x → tyV K T v H) ∧ WA K t ρ M1 fun xs M2 => WM K r x xs M2 Q) : W K (tBM K T r ta t) ρ M Q := fun σ B H hR hS Q0 k =>
  h σ B H hR hS _ fun x v M1 B1 H1 ⟨ht, h1⟩ e1 S1 o1 => ⟨ht B1 H1 v S1 o1, h1 σ B1 H1 (hR.mono e1) S1 _ fun xs vs M2 B2 H2 h2 e2 S2 o2 =>
    h2 B2 H2 v vs S2 (o1.mono e2) o2 Q0 fun s z M4 B4 H4 q e4 S4 o4 => k s z M4 B4 H4 q ((e1.trans e2).trans e4) S4 o4⟩
theorem w_bm0 {T : String} {r : V → List V → Hp → VK → Prop} (h : W K ta ρ M fun x M1 => (∀ B H v, Sep K B M1 H → SlOk K B v x → tyV K T v H) ∧ WM K r x [] M1 Q) : W K (tBM0 K T r ta) ρ M Q := fun σ B H hR hS Q0 k =>
  h σ B H hR hS _ fun x v M1 B1 H1 ⟨ht, h1⟩ e1 S1 o1 => ⟨ht B1 H1 v S1 o1, h1 B1 H1 v [] S1 o1 .nil Q0 fun s z M4 B4 H4 q e4 S4 o4 => k s z M4 B4 H4 q (e1.trans e4) S4 o4⟩
theorem ty_lst {K : PySem.W.Frag} {s : Sl} {xs : List Sl} (h : LsV K s M xs) : ∀ B H v, Sep K B M H → SlOk K B v s → tyV K "list" v H := fun B H v S o => by
  obtain ⟨a, vs, e, hq, _⟩ := h.get S o
  subst e
  exact .inl ⟨rfl, _, hq⟩
end
end Ab

set_option Elab.async false
set_option linter.all false
set_option maxRecDepth 100000
set_option  maxHeartbeats 4000000
namespace Ab
open PySem L2
section
variable {K : KX} {ρ : Rho} {M : MH} {Q Q' : Sl → MH → Prop} {ta tb te tc : TE} {r r' : R2} {nx bk ct : Rho → MH → Prop} {rt : Sl → MH → Prop}

/-! ### statements -/
theorem ws_next (q : nx ρ M) : WS K tNext ρ M ⟨nx, rt, bk, ct⟩ := fun σ B H D hR hS a b c d => a ρ M σ B H q (Same.refl B) hR hS
theorem ws_break (q : bk ρ M) : WS K tBreak ρ M ⟨nx, rt, bk, ct⟩ := fun σ B H D hR hS a b c d => c ρ M σ B H q (Same.refl B) hR hS
theorem ws_cont (q : ct ρ M) : WS K tCont ρ M ⟨nx, rt, bk, ct⟩ := fun σ B H D hR hS a b c d => d ρ M σ B H q (Same.refl B) hR hS
theorem ws_seq {t u : TS} (h : WS K t ρ M ⟨fun ρ' M' => WS K u ρ' M' ⟨nx, rt, bk, ct⟩, rt, bk, ct⟩) : WS K (tSeq t u) ρ M ⟨nx, rt, bk, ct⟩ := fun σ B H D hR hS a b c d =>
  h σ B H { D with nx := u D } hR hS (fun ρ1 M1 σ1 B1 H1 q e1 R1 S1 => q σ1 B1 H1 D R1 S1 (fun ρ2 M2 σ2 B2 H2 q2 e2 => a ρ2 M2 σ2 B2 H2 q2 (e1.trans e2)) (fun s v M2 B2 H2 q2 e2 => b s v M2 B2 H2 q2 (e1.trans e2))
    (fun ρ2 M2 σ2 B2 H2 q2 e2 => c ρ2 M2 σ2 B2 H2 q2 (e1.trans e2)) (fun ρ2 M2 σ2 B2 H2 q2 e2 => d ρ2 M2 σ2 B2 H2 q2 (e1.trans e2))) b c d
theorem ws_drop (h : W K te ρ M fun _ M' => nx ρ M') : WS K (tDrop te) ρ M ⟨nx, rt, bk, ct⟩ := fun σ B H D hR hS a b c d =>
  h σ B H hR hS _ fun s v M' B' H' q e S o => a ρ M' σ B' H' q e (hR.mono e) S
theorem ws_ret (h : W K te ρ M rt) : WS K (tRet te) ρ M ⟨nx, rt, bk, ct⟩ := fun σ B H D hR hS a b c d => h σ B H hR hS _ fun s v M' B' H' q e S o => b s v M' B' H' q e S o
theorem ws_retN (h : rt .non M) : WS K tRetN ρ M ⟨nx, rt, bk, ct⟩ := fun σ B H D hR hS a b c d => b .non .non M B H h (Same.refl B) hS slok_non
theorem ws_if {t : TT} {tu tw : TS} (h : WT K t ρ M fun b M' => if b = true then WS K tu ρ M' ⟨nx, rt, bk, ct⟩ else WS K tw ρ M' ⟨nx, rt, bk, ct⟩) : WS K (tIfS t tu tw) ρ M ⟨nx, rt, bk, ct⟩ := fun σ B H D hR hS a b c d =>
  h σ B H hR hS _ fun k M1 B1 H1 q e1 S1 => by
    cases k with
    | true =>
      exact q σ B1 H1 D (hR.mono e1) S1 (fun ρ2 M2 σ2 B2 H2 q2 e2 => a ρ2 M2 σ2 B2 H2 q2 (e1.trans e2)) (fun s v M2 B2 H2 q2 e2 => b s v M2 B2 H2 q2 (e1.trans e2)) (fun ρ2 M2 σ2 B2 H2 q2 e2 => c ρ2 M2 σ2 B2 H2 q2 (e1.trans e2)) (fun ρ2 M2 σ2 B2 H2 q2 e2 => d ρ2 M2 σ2 B2 H2 q2 (e1.trans e2))
    | false =>
      exact q σ B1 H1 D (hR.mono e1) S1 (fun ρ2 M2 σ2 B2 H2 q2 e2 => a ρ2 M2 σ2 B2 H2 q2 (e1.trans e2)) (fun s v M2 B2 H2 q2 e2 => b s v M2 B2 H2 q2 (e1.trans e2)) (fun ρ2 M2 σ2 B2 H2 q2 e2 => c ρ2 M2 σ2 B2 H2 q2 (e1.trans e2)) (fun ρ2 M2 σ2 B2 H2 q2 e2 => d ρ2 M2 σ2 B2 H2 q2 (e1.trans e2))
theorem ws_asg {g : TG} (h : W K te ρ M fun s M1 => WG K g s ρ M1 nx) : WS K (tAsg te g) ρ M ⟨nx, rt, bk, ct⟩ := fun σ B H D hR hS a b c d =>
  h σ B H hR hS _ fun s v M1 B1 H1 q e1 S1 o1 => q σ B1 H1 v (hR.mono e1) S1 o1 D.nx fun ρ2 M2 σ2 B2 H2 q2 e2 R2 S2 => a ρ2 M2 σ2 B2 H2 q2 (e1.trans e2) R2 S2
theorem wg_name {i : Nat} {x : Sl} {Q : Rho → MH → Prop} (q : Q (ρ.set i (some x)) M) : WG K (gName i) x ρ M Q := fun σ B H v hR hS o Q0 k => k _ M _ B H q (Same.refl B) (Rl.put o i hR) hS
theorem ws_set {i : Nat} (h : W K te ρ M fun s M1 => nx (ρ.set i (some s)) M1) : WS K (tAsg te (gName i)) ρ M ⟨nx, rt, bk, ct⟩ := ws_asg (h.imp fun s M1 q => wg_name q)
/-- targets a, b -/
def WGs (K : KX) (g : TGs) (xs : List Sl) (ρ : Rho) (M : MH) (Q : Rho → MH → Prop) : Prop :=
  ∀ σ B H vs, Rl K B σ ρ → Sep K B M H → SlAll K B vs xs → ∀ Q0 : L2.St → Hp → Prop, (∀ ρ' M' σ' B' H', Q ρ' M' → Same B B' → Rl K B' σ' ρ' → Sep K B' M' H' → Q0 σ' H') → g vs σ H Q0
theorem wgs_nil {Q : Rho → MH → Prop} (q : Q ρ M) : WGs K gNil [] ρ M Q := fun σ B H vs hR hS o Q0 k => by
  cases o
  exact ⟨rfl, k ρ M σ B H q (Same.refl B) hR hS⟩
theorem wgs_cons {g : TG} {gs : TGs} {x : Sl} {xs : List Sl} {Q : Rho → MH → Prop} (h : WG K g x ρ M fun ρ1 M1 => WGs K gs xs ρ1 M1 Q) : WGs K (gCons g gs) (x :: xs) ρ M Q := fun σ B H vs hR hS o Q0 k => by
  cases o with
  | cons o1 o2 =>
    exact ⟨_, _, rfl, h σ B H _ hR hS o1 _ fun ρ1 M1 σ1 B1 H1 q e1 R1 S1 => q σ1 B1 H1 _ R1 S1 (SlAll.mono e1 o2) Q0 fun ρ2 M2 σ2 B2 H2 q2 e2 R2 S2 => k ρ2 M2 σ2 B2 H2 q2 (e1.trans e2) R2 S2⟩
theorem wg_tup {n : Nat} {g : TGs} {x : Sl} {ds : List PyData} {Q : Rho → MH → Prop} (hx : x = .dat (.tuple ds)) (hn : ds.length = n) (h : WGs K g (ds.map .dat) ρ M Q) : WG K (gTup K n g) x ρ M Q := fun σ B H v hR hS o Q0 k => by
  subst hx
  obtain ⟨a, vs, e, hq, ha⟩ := (tpv_dat (ds := ds)).get hS o
  exact ⟨a, vs, e, hq, by rw [SlAll.len ha, List.length_map, hn], h σ B H vs hR hS ha Q0 k⟩
theorem ws_aug {i : Nat} {f : Int → Int → Int} {a : Int} (hx : ρ[i]? = some (some (.int a))) (h : W K te ρ M fun s M1 => ∃ b, s = .int b ∧ nx (ρ.set i (some (.int (f a b)))) M1) : WS K (tAug i te (ipI f)) ρ M ⟨nx, rt, bk, ct⟩ := fun σ B H D hR hS p1 p2 p3 p4 => by
  obtain ⟨v, e, o⟩ := hR.get hx
  exact ⟨v, e, h σ B H hR hS _ fun s w M1 B1 H1 ⟨b, es, q⟩ e1 S1 o1 => by
    subst es
    exact ⟨a, b, of_int o, of_int o1, p1 _ M1 _ B1 H1 q e1 (Rl.put slok_int i (hR.mono e1)) S1⟩⟩
/-- o[i] = e, a list that may change -/
theorem ws_setL {to ti : TE} (h : W K te ρ M fun s M1 => W K to ρ M1 fun o M2 => W K ti ρ M2 fun ix M3 => ∃ a xs k j, o = .raw (.ref a) ∧ ix = .int k ∧ M3 a = some (.lst xs) ∧ ixN xs.length k = some j ∧ nx ρ (um M3 a (.lst (xs.set j s)))) : WS K (tAsg te (gSub to ti rSetL)) ρ M ⟨nx, rt, bk, ct⟩ := fun σ B H D hR hS p1 p2 p3 p4 =>
  h σ B H hR hS _ fun s v M1 B1 H1 h1 e1 S1 o1 => h1 σ B1 H1 (hR.mono e1) S1 _ fun o w M2 B2 H2 h2 e2 S2 o2 => h2 σ B2 H2 (hR.mono (e1.trans e2)) S2 _ fun ix u M3 B3 H3 ⟨a, xs, k, j, eo, ei, hM, hj, q⟩ e3 S3 o3 => by
    subst eo ei
    obtain ⟨_, u1, hu, vs, rfl, ha⟩ := S3.has a _ hM
    have hl := SlAll.len ha
    refine ⟨a, vs, k, j, o2, of_int o3, hu, by rw [hl]; exact hj, ?_⟩
    exact p1 ρ _ σ B3 _ q ((e1.trans e2).trans e3) (hR.mono ((e1.trans e2).trans e3)) (S3.put hM ⟨_, rfl, SlAll.setI (o1.mono (e2.trans e3)) j ha⟩)
/-- o[i] += e, a list of ints -/
def rGetL (K : PySem.W.Frag) : V → V → Hp → VK → Prop := fun o i H Q => ∃ p xs k j v, o = .ref p ∧ i = .int k ∧ SqL K H p xs ∧ 0 ≤ k ∧ k.toNat = j ∧ xs[j]? = some v ∧ Q v H
theorem pget_list {X : Cx} : PGet X (rGetL X.K) := by
  intro pins s σ H o i ov iv Q I ro ri h
  obtain ⟨p, xs, k, j, v, rfl, rfl, hq, h0, hj, hv, q⟩ := h
  cases ro
  obtain ⟨t, rfl⟩ := ri
  obtain ⟨its, r, pl, fits⟩ := I.list hq
  obtain ⟨w, ew, rw'⟩ := r.get hv
  have hl := r.length
  have hn := line63
  have hjl := (List.getElem?_eq_some_iff.mp ew).1
  subst hj
  exact wpAny_getItem_list pl.isList h0 (by omega) (by simpa using ew) ⟨v, H, I, rw', q⟩
theorem ws_augL {to ti : TE} {f : Int → Int → Int} (h : W K to ρ M fun o M1 => W K ti ρ M1 fun ix M2 => ∃ a xs k x, o = .raw (.ref a) ∧ ix = .int (k : Nat) ∧ M2 a = some (.lst xs) ∧ xs[k]? = some (.int x) ∧ W K te ρ M2 fun s M3 => ∃ b, s = .int b ∧ M3 a = some (.lst xs) ∧ nx ρ (um M3 a (.lst (xs.set k (.int (f x b)))))) :
    WS K (tAugS to ti te (rGetL K) (ipI f) rSetL) ρ M ⟨nx, rt, bk, ct⟩ := fun σ B H D hR hS p1 p2 p3 p4 =>
  h σ B H hR hS _ fun o v M1 B1 H1 h1 e1 S1 o1 => h1 σ B1 H1 (hR.mono e1) S1 _ fun ix w M2 B2 H2 ⟨a, xs, k, x, eo, ei, hM, hx, h2⟩ e2 S2 o2 => by
    subst eo ei
    obtain ⟨_, u1, hu, vs, rfl, ha⟩ := S2.has a _ hM
    obtain ⟨y, hy, oy⟩ := SlAll.get ha hx
    refine ⟨a, vs, k, k, y, o1, of_int o2, SqL.of hu, by omega, by omega, hy, ?_⟩
    refine h2 σ B2 H2 (hR.mono (e1.trans e2)) S2 _ fun s z M3 B3 H3 ⟨b, es, hM3, q⟩ e3 S3 o3 => ?_
    subst es
    obtain ⟨_, u3, hu3, vs3, rfl, ha3⟩ := S3.has a _ hM3
    have hk : k < xs.length := (List.getElem?_eq_some_iff.mp hx).1
    have hl := SlAll.len ha3
    refine ⟨x, b, of_int oy, of_int o3, a, vs3, k, k, o1, of_int o2, hu3, ?_, ?_⟩
    · unfold ixN
      iterate 2 rw [if_pos (by omega)]
      simp
    · exact p1 ρ _ σ B3 _ q ((e1.trans e2).trans e3) (hR.mono ((e1.trans e2).trans e3)) (S3.put hM3 ⟨_, rfl, SlAll.setI slok_int k ha3⟩)
/-- less is known -/
theorem ws_weak {t : TS} (i : Nat) (h : WS K t (ρ.set i none) M ⟨nx, rt, bk, ct⟩) : WS K t ρ M ⟨nx, rt, bk, ct⟩ := fun σ B H D hR hS => h σ B H D (hR.less i) hS
theorem ws_del {t : TS} (a : Addr) (h : WS K t ρ (del M a) ⟨nx, rt, bk, ct⟩) : WS K t ρ M ⟨nx, rt, bk, ct⟩ := fun σ B H D hR hS => h σ B H D hR hS.drop
/-- a list of ours will not be changed any more -/
theorem ws_freeze {t : TS} {i : Nat} {a : Addr} {ds : List PyData} (hi : ρ[i]? = some (some (.raw (.ref a)))) (hM : M a = some (.lst (ds.map .dat))) (h : WS K t (ρ.set i (some (.dat (.list ds)))) (del M a) ⟨nx, rt, bk, ct⟩) : WS K t ρ M ⟨nx, rt, bk, ct⟩ := fun σ B H D hR hS p1 p2 p3 p4 => by
  obtain ⟨hB, u, hu, vs, rfl, ha⟩ := hS.has a _ hM
  have e : Same B (upd B a (.lst vs)) := same_new hB
  have S' := hS.freeze hM hu
  have o : SlOk K (upd B a (.lst vs)) (.ref a) (.dat (.list ds)) := Dq.lst (Rd.of upd_same) (dpa_same e _ _ (dpa_of ha))
  obtain ⟨v, hv, ov⟩ := hR.get hi
  have ev : v = .ref a := ov
  subst ev
  have hR' := Rl.put o i (hR.mono e)
  have hσ : σ.set i (some (.ref a)) = σ := by
    obtain ⟨h1, h2⟩ := List.getElem?_eq_some_iff.mp hv
    rw [← h2]
    exact List.set_getElem_self h1
  rw [hσ] at hR'
  exact h σ _ H D hR' S' (fun ρ2 M2 σ2 B2 H2 q2 e2 => p1 ρ2 M2 σ2 B2 H2 q2 (e.trans e2)) (fun s v M2 B2 H2 q2 e2 => p2 s v M2 B2 H2 q2 (e.trans e2)) (fun ρ2 M2 σ2 B2 H2 q2 e2 => p3 ρ2 M2 σ2 B2 H2 q2 (e.trans e2)) (fun ρ2 M2 σ2 B2 H2 q2 e2 => p4 ρ2 M2 σ2 B2 H2 q2 (e.trans e2))

/-! ### operations -/
theorem w2_i0 {K : PySem.W.Frag} {f : Int → Int → Int} {i j : Int} (q : Q (.int (f i j)) M) : W2 K (rI0 fun i j => .int (f i j)) (.int i) (.int j) M Q := fun B H v w hS h1 h2 Q0 k => ⟨i, j, of_int h1, of_int h2, k _ _ M B H q (Same.refl B) hS slok_int⟩
theorem w2_b0 {K : PySem.W.Frag} {f : Int → Int → Bool} {i j : Int} (q : Q (.bl (f i j)) M) : W2 K (rI0 fun i j => .bl (f i j)) (.int i) (.int j) M Q := fun B H v w hS h1 h2 Q0 k => ⟨i, j, of_int h1, of_int h2, k _ _ M B H q (Same.refl B) hS slok_bl⟩
theorem w2_i {K : PySem.W.Frag} {C : Int → Int → Prop} {f : Int → Int → Int} {i j : Int} (hc : C i j) (q : Q (.int (f i j)) M) : W2 K (rI C fun i j => .int (f i j)) (.int i) (.int j) M Q := fun B H v w hS h1 h2 Q0 k => ⟨i, j, of_int h1, of_int h2, hc, k _ _ M B H q (Same.refl B) hS slok_int⟩
theorem w1_neg {K : PySem.W.Frag} {i : Int} (q : Q (.int (-i)) M) : W1 K (rU fun i => .int (-i)) (.int i) M Q := fun B H v hS h1 Q0 k => ⟨i, of_int h1, k _ _ M B H q (Same.refl B) hS slok_int⟩
theorem w2_eq {K : PySem.W.Frag} {d e : PyData} (h1 : SeqAt.shaped d = true) (h2 : SeqAt.shaped e = true) (q : Q (.bl (PyData.eqv d e)) M) : W2 K (rEqD K) (.dat d) (.dat e) M Q := fun B H v w hS o1 o2 Q0 k =>
  ⟨d, e, dq_dp _ _ (dp_same hS.sub _ _ o1), dq_dp _ _ (dp_same hS.sub _ _ o2), h1, h2, k _ _ M B H q (Same.refl B) hS slok_bl⟩
theorem w2_ne {K : PySem.W.Frag} {d e : PyData} (h1 : SeqAt.shaped d = true) (h2 : SeqAt.shaped e = true) (q : Q (.bl (!PyData.eqv d e)) M) : W2 K (rNeD K) (.dat d) (.dat e) M Q := fun B H v w hS o1 o2 Q0 k =>
  ⟨d, e, dq_dp _ _ (dp_same hS.sub _ _ o1), dq_dp _ _ (dp_same hS.sub _ _ o2), h1, h2, k _ _ M B H q (Same.refl B) hS slok_bl⟩
theorem w2_in {K : PySem.W.Frag} {d : PyData} {ds : List PyData} (h1 : SeqAt.shaped d = true) (h2 : SeqAt.shaped (.list ds) = true) (q : Q (.bl (ds.any fun z => PyData.eqv z d)) M) : W2 K (rInD K) (.dat d) (.dat (.list ds)) M Q := fun B H v w hS o1 o2 Q0 k =>
  ⟨d, ds, dq_dp _ _ (dp_same hS.sub _ _ o1), dq_dp _ _ (dp_same hS.sub _ _ o2), h1, h2, k _ _ M B H q (Same.refl B) hS slok_bl⟩
theorem w2_notIn {K : PySem.W.Frag} {d : PyData} {ds : List PyData} (h1 : SeqAt.shaped d = true) (h2 : SeqAt.shaped (.list ds) = true) (q : Q (.bl (!ds.any fun z => PyData.eqv z d)) M) : W2 K (rNotInD K) (.dat d) (.dat (.list ds)) M Q := fun B H v w hS o1 o2 Q0 k =>
  ⟨d, ds, dq_dp _ _ (dp_same hS.sub _ _ o1), dq_dp _ _ (dp_same hS.sub _ _ o2), h1, h2, k _ _ M B H q (Same.refl B) hS slok_bl⟩
/-- is None, is not None -/
def rIsN : R2 := fun u z H Q => z = .non ∧ Q (.bl (decide (u = .non))) H
def rNotN : R2 := fun u z H Q => z = .non ∧ Q (.bl (!decide (u = .non))) H
def isNon : PyData → Bool
  | .none => true
  | _ => false
theorem dp_non {K : PySem.W.Frag} {B : Hp} {v : V} {d : PyData} (h : Dq K B v d) : decide (v = .non) = isNon d := by
  cases h <;> first | rfl | exact decide_eq_false (fun e => nomatch e)
theorem w2_isN {K : PySem.W.Frag} {d : PyData} (q : Q (.bl (isNon d)) M) : W2 K rIsN (.dat d) .non M Q := fun B H v w hS o1 o2 Q0 k => ⟨of_non o2, by
  rw [dp_non o1]
  exact k _ _ M B H q (Same.refl B) hS slok_bl⟩
theorem w2_notN {K : PySem.W.Frag} {d : PyData} (q : Q (.bl (!isNon d)) M) : W2 K rNotN (.dat d) .non M Q := fun B H v w hS o1 o2 Q0 k => ⟨of_non o2, by
  rw [dp_non o1]
  exact k _ _ M B H q (Same.refl B) hS slok_bl⟩
/-- xs[i], t[i], s[i] -/
theorem atI_map {α β : Type} (f : α → β) (xs : List α) (i : Int) : atI (xs.map f) i = (atI xs i).map f := by
  unfold atI
  rw [List.length_map]
  cases ixN xs.length i with
  | none => rfl
  | some j => simp
theorem slall_atI {K : PySem.W.Frag} {B : Hp} {vs : List V} {ss : List Sl} {s : Sl} {i : Int} (h : SlAll K B vs ss) (e : atI ss i = some s) : ∃ v, atI vs i = some v ∧ SlOk K B v s := by
  unfold atI at e ⊢
  rw [SlAll.len h]
  cases hj : ixN ss.length i with
  | none => rw [hj] at e; cases e
  | some j =>
    rw [hj] at e
    exact SlAll.get h e
theorem w2_ixL {K : PySem.W.Frag} {s x : Sl} {xs : List Sl} {i : Int} (hs : LsV K s M xs) (hx : atI xs i = some x) (q : Q x M) : W2 K (rIxL K) s (.int i) M Q := fun B H v w hS o1 o2 Q0 k => by
  obtain ⟨a, vs, rfl, hq, ha⟩ := hs.get hS o1
  obtain ⟨z, hz, oz⟩ := slall_atI ha hx
  exact ⟨a, vs, i, z, rfl, of_int o2, hq, hz, k x z M B H q (Same.refl B) hS oz⟩
theorem w2_ixT {K : PySem.W.Frag} {d : PyData} {ds : List PyData} {i : Int} (hx : atI ds i = some d) (q : Q (.dat d) M) : W2 K (rIxT K) (.dat (.tuple ds)) (.int i) M Q := fun B H v w hS o1 o2 Q0 k => by
  obtain ⟨a, vs, rfl, hq, ha⟩ := (tpv_dat (ds := ds)).get hS o1
  obtain ⟨z, hz, oz⟩ := slall_atI (s := .dat d) ha (by rw [atI_map, hx]; rfl)
  exact ⟨a, vs, i, z, rfl, of_int o2, hq, hz, k _ z M B H q (Same.refl B) hS oz⟩
theorem w2_ixS {K : PySem.W.Frag} {z : Str} {i : Int} {c : Nat} (hz : z.length ≤ 100000) (hx : atI z.cps.toList i = some c) (q : Q (.str ⟨#[c]⟩) M) : W2 K rIxS (.str z) (.int i) M Q := fun B H v w hS o1 o2 Q0 k =>
  ⟨z, i, c, of_str o1, of_int o2, Nat.le_trans hz (by decide), hx, k _ _ M B H q (Same.refl B) hS slok_str⟩
/-- xs + ys, lists that are read -/
def rCatL (K : PySem.W.Frag) : R2 := fun x y H Q => ∃ l b xs zs, x = .ref l ∧ y = .ref b ∧ SqL K H l xs ∧ SqL K H b zs ∧ xs.length + zs.length ≤ sizeLine ∧ ∀ p, H p = none → Q (.ref p) (upd H p (.lst (xs ++ zs)))
theorem op_catL {X : Cx} : OpR X (binaryOp .Add) (rCatL X.K) := fun pins s σ H x y v u Q I rx ry ⟨l, m, us, ws, e1, e2, hU, hW, hz, q⟩ => by
  subst e1 e2
  cases rx
  cases ry
  have sizes : us.length + ws.length ≤ sizeLine := hz
  obtain ⟨is, r, ⟨⟨_, _, _, sl⟩, n, ho, hc, hdn, hd⟩, _⟩ := I.list hU
  obtain ⟨js, r2, ⟨⟨_, _, _, sl2⟩, n2, ho2, hc2, hdn2, hd2⟩, _⟩ := I.list hW
  simp only at hc hd hdn hc2 hd2 hdn2
  subst hc hd hdn hc2 hd2 hdn2
  have k1 := r.length
  have k2 := r2.length
  refine concat_meets ⟨_, ho, rfl⟩ ⟨_, ho2, rfl⟩ PySem.noFill_list_add PySem.seq_list_add PySem.F.slot_list_add PySem.F.entry_list_add (PySem.F.args_list_add_2 _ _) (PyProof.Rows.list_addW l m is.toArray js.toArray n n2 none none sl sl2 (by simp; omega)) ⟨ho, ho2, ?_⟩
  rw [show is.toArray ++ js.toArray = (is ++ js).toArray by simp]
  exact ⟨.ref _, _, I.lnew (t' := s.toks) (r.append r2) (by simp; omega), rfl, q _ I.fresh⟩
theorem lst_ok {K : PySem.W.Frag} {B : Hp} {p : Addr} {vs : List V} {ds : List PyData} (h : DqAll K B vs ds) (hp : B p = none) : SlOk K (upd B p (.lst vs)) (.ref p) (.dat (.list ds)) := Dq.lst (Rd.of upd_same) (dpa_same (same_new hp) _ _ h)
theorem tup_ok {K : PySem.W.Frag} {B : Hp} {p : Addr} {vs : List V} {ds : List PyData} (h : DqAll K B vs ds) (hp : B p = none) : SlOk K (upd B p (.tup vs)) (.ref p) (.dat (.tuple ds)) := Dq.tup (SqT.of upd_same) (dpa_same (same_new hp) _ _ h)
theorem w2_cat {K : PySem.W.Frag} {s t : Sl} {ds es : List PyData} (h1 : LsV K s M (ds.map .dat)) (h2 : LsV K t M (es.map .dat)) (hl : ds.length + es.length ≤ 100000) (q : Q (.dat (.list (ds ++ es))) M) : W2 K (rCatL K) s t M Q := fun B H v w hS o1 o2 Q0 k => by
  obtain ⟨a, vs, rfl, hq, ha⟩ := h1.get hS o1
  obtain ⟨b, ws, rfl, hq2, ha2⟩ := h2.get hS o2
  have l1 := SlAll.len ha
  have l2 := SlAll.len ha2
  rw [List.length_map] at l1 l2
  refine ⟨a, b, vs, ws, rfl, rfl, hq, hq2, Nat.le_trans (by omega) (show 100000 ≤ sizeLine by decide), fun p hp => ?_⟩
  exact k _ _ M (upd B p (.lst (vs ++ ws))) _ q (same_new (hS.freeB hp)) (hS.alloc hp) (lst_ok (DqAll.app (dpa_of ha) (dpa_of ha2)) (hS.freeB hp))
/-- [x] * n -/
def repD (ds : List PyData) (n : Nat) : List PyData := (List.replicate n ds).flatten
theorem dpa_rep {K : PySem.W.Frag} {B : Hp} {vs : List V} {ds : List PyData} (h : DqAll K B vs ds) : ∀ n : Nat, DqAll K B (List.replicate n vs).flatten (repD ds n)
  | 0 => .nil
  | n + 1 => by
    unfold repD
    simp only [List.replicate_succ, List.flatten_cons]
    exact DqAll.app h (dpa_rep h n)
/-- a list that is read, times an int -/
def rRepL : R2 := fun x y H Q => ∃ l k xs, x = .ref l ∧ y = .int k ∧ Rd H l (.lst xs) ∧ -(2 ^ 63) ≤ k ∧ k < 2 ^ 63 ∧ xs.length * k.toNat ≤ sizeLine ∧ ∀ p, H p = none → Q (.ref p) (upd H p (.lst (List.replicate k.toNat xs).flatten))
theorem rep_arr (r : List Value) (m : Nat) : (List.replicate (if r.toArray.isEmpty = true then 0 else m) r.toArray).foldl (· ++ ·) #[] = (List.replicate m r).flatten.toArray := by
  have all : (List.replicate m r.toArray).foldl (· ++ ·) #[] = (List.replicate m r).flatten.toArray := by simpa using foldl_rep r m []
  match r, all with
  | [], _ => simp
  | _ :: _, e => rw [if_neg (by simp)]; exact e
theorem op_repL {X : Cx} : OpR X (binaryOp .Mult) rRepL := fun pins s σ H x y v u Q I rx ry ⟨l, n, vs, e1, e2, hR, n1, n2, hn, q⟩ => by
  subst e1 e2
  cases rx
  obtain ⟨t, rfl⟩ := ry
  obtain ⟨_, rs, m, r, o⟩ := hR.ok I.hok
  have sz : rs.toArray.size * n.toNat ≤ sizeLine := by simpa [← r.length] using hn
  have big : (sizeLine : Nat) ≤ (2 ^ 63 - 1) / 8 := by decide
  have call := AutoListH.list___mul___list_int_3 l rs.toArray m n t (by rw [fitsIndex_both n1 n2]; simp) (by omega) (by rw [notLongL sz]; simp)
  refine wpAny_binaryOp_repeat_ref (T := "list") (U := "int") (by decide) ⟨_, o, rfl⟩ (fun z => typeIs_int z n t) PySem.noFill_list_mul F.fills_int_mul F.slot_int_rmul PySem.repeat_list F.slot_int_index.lookup ?_
  refine call_meets F.slot_int_rmul (typeIs_int s n t) F.entry_int_rmul (F.args_int_rmul_2 _ _) (int___rmul___int_list n t l rs.toArray m) ⟨o, rfl, ⟨_, o, rfl⟩, ?_⟩
  refine call_meets F.slot_list_mul ⟨_, o, rfl⟩ F.entry_list_mul (F.args_list_mul_2 _ _) call ⟨o, ?_⟩
  rw [show List.foldl (fun x1 x2 => x1 ++ x2) #[] (List.replicate (if rs.toArray.isEmpty = true then 0 else n.toNat) rs.toArray) = _ from rep_arr rs n.toNat]
  have fit : (List.replicate n.toNat vs).flatten.length ≤ sizeLine := by simpa [Nat.mul_comm] using hn
  exact ⟨.ref _, _, I.lnew (t' := s.toks) (r.rep n.toNat) fit, rfl, q _ I.fresh⟩
theorem w2_rep {K : PySem.W.Frag} {s : Sl} {ds : List PyData} {i : Int} (h : LsR s M (ds.map .dat)) (i1 : -(2 ^ 63) ≤ i) (i2 : i < 2 ^ 63) (hl : ds.length * i.toNat ≤ 100000) (q : Q (.dat (.list (repD ds i.toNat))) M) : W2 K rRepL s (.int i) M Q := fun B H v w hS o1 o2 Q0 k => by
  obtain ⟨a, vs, rfl, hq, ha⟩ := h.get hS o1
  have l1 := SlAll.len ha
  rw [List.length_map] at l1
  refine ⟨a, i, vs, rfl, of_int o2, hq, i1, i2, Nat.le_trans (by rw [l1]; exact hl) (show 100000 ≤ sizeLine by decide), fun p hp => ?_⟩
  exact k _ _ _ (upd B p (.lst (List.replicate i.toNat vs).flatten)) _ q (same_new (hS.freeB hp)) (hS.alloc hp) (lst_ok (dpa_rep (dpa_of ha) _) (hS.freeB hp))
/-- xs[lo:hi] -/
def cutG {α : Type} (xs : List α) (lo hi : Option Int) : List α := (xs.drop (HT.sIx xs.length 0 lo)).take (HT.sIx xs.length xs.length hi - HT.sIx xs.length 0 lo)
theorem cutG_map {α β : Type} (f : α → β) (xs : List α) (lo hi : Option Int) : cutG (xs.map f) lo hi = (cutG xs lo hi).map f := by
  unfold cutG
  rw [List.length_map, List.map_take, List.map_drop]
theorem dpa_cut {K : PySem.W.Frag} {B : Hp} {vs : List V} {ds : List PyData} (h : DqAll K B vs ds) (lo hi : Option Int) : DqAll K B (cutV vs lo hi) (cutG ds lo hi) := by
  unfold cutV cutG
  rw [DqAll.length h]
  exact DqAll.take _ (DqAll.drop _ h)
theorem wsl_lst {K : PySem.W.Frag} {s : Sl} {ds : List PyData} {lo hi : Option Int} (h : LsV K s M (ds.map .dat)) (q : Q (.dat (.list (cutG ds lo hi))) M) : WSl K (rSlL K) s lo hi M Q := fun B H v hS o Q0 k => by
  obtain ⟨a, vs, rfl, hq, ha⟩ := h.get hS o
  exact ⟨a, vs, rfl, hq, fun p hp => k _ _ M (upd B p (.lst (cutV vs lo hi))) _ q (same_new (hS.freeB hp)) (hS.alloc hp) (lst_ok (dpa_cut (dpa_of ha) lo hi) (hS.freeB hp))⟩
theorem dpa_rev {K : PySem.W.Frag} {B : Hp} : ∀ {vs : List V} {ds : List PyData}, DqAll K B vs ds → DqAll K B vs.reverse ds.reverse
  | _, _, .nil => .nil
  | _, _, .cons h t => by
    simp only [List.reverse_cons]
    exact DqAll.app (dpa_rev t) (.cons h .nil)
/-- xs[::-1] -/
theorem w_rev (h : W K ta ρ M fun s M1 => ∃ ds : List PyData, LsV K s M1 (ds.map .dat) ∧ Q (.dat (.list ds.reverse)) M1) : W K (tRevL K ta) ρ M Q := fun σ B H hR hS Q0 k =>
  h σ B H hR hS _ fun s v M1 B1 H1 ⟨ds, hl, q⟩ e1 S1 o1 => by
    obtain ⟨a, vs, rfl, hq, ha⟩ := hl.get S1 o1
    exact ⟨a, vs, rfl, hq, fun p hp => k _ _ M1 (upd B1 p (.lst vs.reverse)) _ q (e1.trans (same_new (S1.freeB hp))) (S1.alloc hp) (lst_ok (dpa_rev (dpa_of ha)) (S1.freeB hp))⟩
/-- built-ins -/
def rLenS (K : PySem.W.Frag) : List V → Hp → VK → Prop := fun us H Q => ∃ p zs, us = [.ref p] ∧ (SqL K H p zs ∨ SqT K H p zs) ∧ Q (.int zs.length) H
def rListS (K : PySem.W.Frag) : List V → Hp → VK → Prop := fun us H Q => ∃ p zs, us = [.ref p] ∧ (SqL K H p zs ∨ SqT K H p zs) ∧ ∀ l, H l = none → Q (.ref l) (upd H l (.lst zs))
def rTupS (K : PySem.W.Frag) : List V → Hp → VK → Prop := fun xs H Q => ∃ p ys, xs = [.ref p] ∧ ((SqL K H p ys ∧ ∀ l, H l = none → Q (.ref l) (upd H l (.tup ys))) ∨ (SqT K H p ys ∧ Q (.ref p) H))
def rInt1 : List V → Hp → VK → Prop := fun xs H Q => (∃ i, xs = [.int i] ∧ Q (.int i) H) ∨ ∃ k, xs = [.bl k] ∧ Q (.int (if k then 1 else 0)) H
theorem wl_len {K : PySem.W.Frag} {s : Sl} {xs : List Sl} (h : LsV K s M xs) (q : Q (.int (xs.length : Int)) M) : WL K (rLenS K) [s] M Q := fun B H vs hS o Q0 k => by
  cases o with
  | cons o1 o2 =>
    cases o2
    obtain ⟨a, ws, rfl, hq, ha⟩ := h.get hS o1
    refine ⟨a, ws, rfl, .inl hq, ?_⟩
    rw [SlAll.len ha]
    exact k _ _ M B H q (Same.refl B) hS slok_int
theorem wl_lenT {K : PySem.W.Frag} {s : Sl} {xs : List Sl} (h : TpV s xs) (q : Q (.int (xs.length : Int)) M) : WL K (rLenS K) [s] M Q := fun B H vs hS o Q0 k => by
  cases o with
  | cons o1 o2 =>
    cases o2
    obtain ⟨a, ws, rfl, hq, ha⟩ := h.get hS o1
    refine ⟨a, ws, rfl, .inr hq, ?_⟩
    rw [SlAll.len ha]
    exact k _ _ M B H q (Same.refl B) hS slok_int
theorem wl_list {K : PySem.W.Frag} {s : Sl} {ds : List PyData} (h : LsV K s M (ds.map .dat) ∨ TpV s (ds.map .dat)) (q : Q (.dat (.list ds)) M) : WL K (rListS K) [s] M Q := fun B H vs hS o Q0 k => by
  cases o with
  | cons o1 o2 =>
    cases o2
    rcases h with h | h
    · obtain ⟨a, ws, rfl, hq, ha⟩ := h.get hS o1
      exact ⟨a, ws, rfl, .inl hq, fun p hp => k _ _ M (upd B p (.lst ws)) _ q (same_new (hS.freeB hp)) (hS.alloc hp) (lst_ok (dpa_of ha) (hS.freeB hp))⟩
    · obtain ⟨a, ws, rfl, hq, ha⟩ := h.get hS o1
      exact ⟨a, ws, rfl, .inr hq, fun p hp => k _ _ M (upd B p (.lst ws)) _ q (same_new (hS.freeB hp)) (hS.alloc hp) (lst_ok (dpa_of ha) (hS.freeB hp))⟩
theorem wl_listM {K : PySem.W.Frag} {s : Sl} {xs : List Sl} (h : LsV K s M xs ∨ TpV s xs) (q : ∀ p, M p = none → Q (.raw (.ref p)) (um M p (.lst xs))) : WL K (rListS K) [s] M Q := fun B H vs hS o Q0 k => by
  cases o with
  | cons o1 o2 =>
    cases o2
    rcases h with h | h
    · obtain ⟨a, ws, rfl, hq, ha⟩ := h.get hS o1
      exact ⟨a, ws, rfl, .inl hq, fun p hp => k _ _ _ B _ (q p (hS.freeM hp)) (Same.refl B) (hS.new hp ⟨ws, rfl, ha⟩) rfl⟩
    · obtain ⟨a, ws, rfl, hq, ha⟩ := h.get hS o1
      exact ⟨a, ws, rfl, .inr hq, fun p hp => k _ _ _ B _ (q p (hS.freeM hp)) (Same.refl B) (hS.new hp ⟨ws, rfl, ha⟩) rfl⟩
theorem wl_tuple {K : PySem.W.Frag} {s : Sl} {ds : List PyData} (h : LsV K s M (ds.map .dat)) (q : Q (.dat (.tuple ds)) M) : WL K (rTupS K) [s] M Q := fun B H vs hS o Q0 k => by
  cases o with
  | cons o1 o2 =>
    cases o2
    obtain ⟨a, ws, rfl, hq, ha⟩ := h.get hS o1
    exact ⟨a, ws, rfl, .inl ⟨hq, fun p hp => k _ _ M (upd B p (.tup ws)) _ q (same_new (hS.freeB hp)) (hS.alloc hp) (tup_ok (dpa_of ha) (hS.freeB hp))⟩⟩
theorem wl_int {K : PySem.W.Frag} {i : Int} (q : Q (.int i) M) : WL K rInt1 [.int i] M Q := fun B H vs hS o Q0 k => by
  cases o with
  | cons o1 o2 =>
    cases o2
    exact .inl ⟨i, by rw [of_int o1], k _ _ M B H q (Same.refl B) hS slok_int⟩
theorem wl_intb {K : PySem.W.Frag} {b : Bool} (q : Q (.int (if b then 1 else 0)) M) : WL K rInt1 [.bl b] M Q := fun B H vs hS o Q0 k => by
  cases o with
  | cons o1 o2 =>
    cases o2
    exact .inr ⟨b, by rw [of_bl o1], k _ _ M B H q (Same.refl B) hS slok_int⟩
/-- isinstance of data, a built-in class -/
def tyD : PyData → String
  | .none => "NoneType"
  | .bool _ => "bool"
  | .int _ => "int"
  | .str _ => "str"
  | .list _ => "list"
  | .tuple _ => "tuple"
  | .dict _ => "dict"
theorem dp_ty {K : PySem.W.Frag} {B H : Hp} (S : Same B H) {v : V} {d : PyData} (h : Dq K B v d) : TyX K H v (.type (tyD d)) := by
  cases h with
  | non => exact .base .non
  | bl b => exact .base (.bl b)
  | int i => exact .base (.int i)
  | str x => exact .base (.str x)
  | lst hs _ =>
    rcases hs with h | ⟨o, h⟩
    · exact .base (.lst (S _ _ h))
    · exact .base (.frz (S _ _ h))
  | tup hs _ =>
    rcases hs with (h | ⟨o, h⟩) | ⟨o, _, _, hk, hc, _⟩
    · exact .base (.tup (S _ _ h))
    · exact .fTuple (S _ _ h)
    · exact .kTuple hk hc
theorem wl_isi {K : PySem.W.Frag} {d : PyData} {n : String} {b : Bool} (hb : kitB (tyD d) n = some b) (q : Q (.bl b) M) : WL K (rIsi K) [.dat d, .raw (.ty n)] M Q := fun B H vs hS o Q0 k => by
  cases o with
  | cons o1 o2 =>
    cases o2 with
    | cons o2 o3 =>
      cases o3
      obtain rfl : _ = V.ty n := o2
      exact ⟨_, .ty n, _, _, b, rfl, .ty n, dp_ty hS.sub o1, kit_ty hb, k _ _ M B H q (Same.refl B) hS slok_bl⟩
/-- xs.append(e) -/
theorem wm_append {K : PySem.W.Frag} {a : Addr} {xs : List Sl} {s : Sl} (h : M a = some (.lst xs)) (hl : xs.length < 100000) (q : Q .non (um M a (.lst (xs ++ [s])))) : WM K rAppend (.raw (.ref a)) [s] M Q := fun B H v vs hS o1 o2 Q0 k => by
  cases o2 with
  | cons o2 o3 =>
    cases o3
    obtain ⟨_, u, hu, ws, rfl, ha⟩ := hS.has a _ h
    have hlen := SlAll.len ha
    obtain rfl : v = .ref a := o1
    exact ⟨a, ws, _, rfl, rfl, hu, Nat.lt_of_lt_of_le (by omega) (show 100000 ≤ sizeLine by decide), k _ _ _ B _ q (Same.refl B) (hS.put h ⟨_, rfl, SlAll.app ha (.cons o2 .nil)⟩) slok_non⟩
end
end Ab

set_option Elab.async false
set_option linter.all false
set_option maxRecDepth 100000
set_option  maxHeartbeats 4000000
namespace Ab
open PySem L2
section
variable {K : KX} {ρ : Rho} {M : MH} {Q Q' : Sl → MH → Prop} {ta tb te tc : TE} {r r' : R2} {nx bk ct : Rho → MH → Prop} {rt : Sl → MH → Prop}

/-! ### what is walked -/
structure ItOk (K : PySem.W.Frag) (B : Hp) (J : It) (n : Nat) (item : Nat → Sl) (stay : MH → Prop) : Prop where
  go : ∀ i B2 M2 H2, i < n → Same B B2 → Sep K B2 M2 H2 → stay M2 → J.go i H2
  yld : ∀ i B2 M2 H2 x H3, i < n → Same B B2 → Sep K B2 M2 H2 → stay M2 → J.yld i H2 x H3 → ∃ B3, Same B2 B3 ∧ Sep K B3 M2 H3 ∧ SlOk K B3 x (item i)
  stop : ∀ i B2 M2 H2, n ≤ i → Same B B2 → Sep K B2 M2 H2 → stay M2 → J.stop i H2
def WI (K : KX) (wi : TI) (ρ : Rho) (M : MH) (R : Nat → (Nat → Sl) → (MH → Prop) → MH → Prop) : Prop :=
  ∀ σ B H, Rl K B σ ρ → Sep K B M H → ∀ R0 : It → Hp → Prop, (∀ n item stay M' B' H' J, R n item stay M' → Same B B' → Sep K B' M' H' → ItOk K B' J n item stay → R0 J H') → wi σ H R0
theorem ws_for {wi : TI} {g : TG} {tb : TS} (h : WI K wi ρ M fun n item stay M1 => ∃ J : Nat → Rho → MH → Prop, J 0 ρ M1 ∧ (∀ i ρ' M', i ≤ n → J i ρ' M' → stay M') ∧
    (∀ i ρ' M', i < n → J i ρ' M' → WG K g (item i) ρ' M' fun ρ2 M2 => WS K tb ρ2 M2 ⟨J (i + 1), rt, nx, J (i + 1)⟩) ∧ ∀ ρ' M', J n ρ' M' → nx ρ' M') : WS K (tFor wi g tb) ρ M ⟨nx, rt, bk, ct⟩ := fun σ B H D hR hS a b c d =>
  h σ B H hR hS _ fun n item stay M1 B1 H1 It ⟨J, j0, js, jt, je⟩ e1 S1 ok => by
    refine ⟨fun i m σ' H' => m = n - i ∧ i ≤ n ∧ ∃ ρ' M' B', J i ρ' M' ∧ Same B1 B' ∧ Rl K B' σ' ρ' ∧ Sep K B' M' H', ⟨n, by simp, Nat.zero_le _, ρ, M1, B1, j0, Same.refl _, hR.mono e1, S1⟩, ?_⟩
    rintro i m σ' H' ⟨rfl, hi, ρ', M', B', hj, e2, R2, S2⟩
    by_cases hlt : i < n
    · refine .inr ⟨ok.go i B' M' H' hlt e2 S2 (js i ρ' M' hi hj), fun σ2 H2 => ∃ ρ2 M2 B2, J (i + 1) ρ2 M2 ∧ Same B1 B2 ∧ Rl K B2 σ2 ρ2 ∧ Sep K B2 M2 H2, fun σ2 H2 ⟨ρ2, M2, B2, q⟩ => ⟨n - (i + 1), by omega, rfl, hlt, ρ2, M2, B2, q⟩, fun x H3 y => ?_⟩
      obtain ⟨B3, e3, S3, o3⟩ := ok.yld i B' M' H' x H3 hlt e2 S2 (js i ρ' M' hi hj) y
      refine jt i ρ' M' hlt hj σ' B3 H3 x (R2.mono e3) S3 o3 _ fun ρ4 M4 σ4 B4 H4 q4 e4 R4 S4 => ?_
      have e14 : Same B1 B4 := (e2.trans e3).trans e4
      exact q4 σ4 B4 H4 _ R4 S4 (fun ρ5 M5 σ5 B5 H5 q5 e5 R5 S5 => ⟨ρ5, M5, B5, q5, e14.trans e5, R5, S5⟩) (fun s v M5 B5 H5 q5 e5 => b s v M5 B5 H5 q5 ((e1.trans e14).trans e5))
        (fun ρ5 M5 σ5 B5 H5 q5 e5 R5 S5 => a ρ5 M5 σ5 B5 H5 q5 ((e1.trans e14).trans e5) R5 S5) (fun ρ5 M5 σ5 B5 H5 q5 e5 R5 S5 => ⟨ρ5, M5, B5, q5, e14.trans e5, R5, S5⟩)
    · have ei : i = n := by omega
      subst ei
      exact .inl ⟨ok.stop i B' M' H' (Nat.le_refl _) e2 S2 (js i ρ' M' hi hj), a ρ' M' σ' B' H' (je ρ' M' hj) (e1.trans e2) R2 S2⟩
/-- a list -/
theorem wi_list {tl : TE} {R : Nat → (Nat → Sl) → (MH → Prop) → MH → Prop} (h : W K tl ρ M fun s M1 => ∃ xs, LsV K s M1 xs ∧ R xs.length (fun i => xs.getD i .non) (fun M2 => LsV K s M2 xs) M1) : WI K (iList K tl) ρ M R := fun σ B H hR hS R0 k =>
  h σ B H hR hS _ fun s v M1 B1 H1 ⟨xs, hl, q⟩ e1 S1 o1 => by
    obtain ⟨a, vs, rfl, hq, ha⟩ := hl.get S1 o1
    refine ⟨a, rfl, ⟨vs, hq⟩, k xs.length _ _ M1 B1 H1 _ q e1 S1 ⟨fun i B2 M2 H2 hi e2 S2 st => ?_, fun i B2 M2 H2 x H3 hi e2 S2 st y => ?_, fun i B2 M2 H2 hi e2 S2 st => ?_⟩⟩
    · obtain ⟨b, ws, eb, hq2, ha2⟩ := st.get S2 (o1.mono e2)
      cases eb
      obtain ⟨z, hz, _⟩ := SlAll.get ha2 (List.getElem?_eq_getElem hi)
      exact ⟨ws, z, hq2, hz⟩
    · obtain ⟨b, ws, eb, hq2, ha2⟩ := st.get S2 (o1.mono e2)
      cases eb
      obtain ⟨z, hz, oz⟩ := SlAll.get ha2 (List.getElem?_eq_getElem hi)
      obtain ⟨rfl, hy⟩ := y
      have ez : z = x := Option.some.inj (hz.symm.trans (hy ws hq2))
      subst ez
      refine ⟨B2, Same.refl _, S2, ?_⟩
      rw [List.getD_eq_getElem?_getD, List.getElem?_eq_getElem hi]
      exact oz
    · obtain ⟨b, ws, eb, hq2, ha2⟩ := st.get S2 (o1.mono e2)
      cases eb
      exact ⟨ws, hq2, by rw [SlAll.len ha2]; exact hi⟩
/-- a tuple -/
theorem wi_tup {tl : TE} {R : Nat → (Nat → Sl) → (MH → Prop) → MH → Prop} (h : W K tl ρ M fun s M1 => ∃ xs, TpV s xs ∧ R xs.length (fun i => xs.getD i .non) (fun _ => True) M1) : WI K (iTup K tl) ρ M R := fun σ B H hR hS R0 k =>
  h σ B H hR hS _ fun s v M1 B1 H1 ⟨xs, hl, q⟩ e1 S1 o1 => by
    obtain ⟨a, vs, rfl, hq, ha⟩ := hl.get S1 o1
    refine ⟨a, rfl, ⟨vs, hq⟩, k xs.length _ _ M1 B1 H1 _ q e1 S1 ⟨fun i B2 M2 H2 hi e2 S2 st => ?_, fun i B2 M2 H2 x H3 hi e2 S2 st y => ?_, fun i B2 M2 H2 hi e2 S2 st => ?_⟩⟩
    · obtain ⟨b, ws, eb, hq2, ha2⟩ := hl.get S2 (o1.mono e2)
      cases eb
      obtain ⟨z, hz, _⟩ := SlAll.get ha2 (List.getElem?_eq_getElem hi)
      exact ⟨ws, z, hq2, hz⟩
    · obtain ⟨b, ws, eb, hq2, ha2⟩ := hl.get S2 (o1.mono e2)
      cases eb
      obtain ⟨z, hz, oz⟩ := SlAll.get ha2 (List.getElem?_eq_getElem hi)
      obtain ⟨rfl, hy⟩ := y
      have ez : z = x := Option.some.inj (hz.symm.trans (hy ws hq2))
      subst ez
      refine ⟨B2, Same.refl _, S2, ?_⟩
      rw [List.getD_eq_getElem?_getD, List.getElem?_eq_getElem hi]
      exact oz
    · obtain ⟨b, ws, eb, hq2, ha2⟩ := hl.get S2 (o1.mono e2)
      cases eb
      exact ⟨ws, hq2, by rw [SlAll.len ha2]; exact hi⟩
/-- ranges -/
theorem wi_r1 {t : TA} {R : Nat → (Nat → Sl) → (MH → Prop) → MH → Prop} (h : WA K t ρ M fun xs M1 => ∃ n : Int, xs = [.int n] ∧ -(2 ^ 62) ≤ n ∧ n < 2 ^ 62 ∧ R n.toNat (fun i => .int (i : Int)) (fun _ => True) M1) : WI K (iRng1 t) ρ M R := fun σ B H hR hS R0 k =>
  h σ B H hR hS _ fun xs vs M1 B1 H1 ⟨n, e, h1, h2, q⟩ e1 S1 o1 => by
    subst e
    cases o1 with
    | cons o1 o2 =>
      cases o2
      refine ⟨n, by rw [of_int o1], h1, h2, k _ _ _ M1 B1 H1 _ q e1 S1 ⟨fun i B2 M2 H2 hi e2 S2 st => hi, fun i B2 M2 H2 x H3 hi e2 S2 st y => ?_, fun i B2 M2 H2 hi e2 S2 st => hi⟩⟩
      obtain ⟨rfl, rfl⟩ := y
      exact ⟨B2, Same.refl _, S2, by rw [Int.zero_add]; exact slok_int⟩
theorem wi_r2 {t : TA} {R : Nat → (Nat → Sl) → (MH → Prop) → MH → Prop} (h : WA K t ρ M fun xs M1 => ∃ lo n : Int, xs = [.int lo, .int n] ∧ (-(2 ^ 62) ≤ lo ∧ lo < 2 ^ 62 ∧ -(2 ^ 62) ≤ n ∧ n < 2 ^ 62) ∧ R (n - lo).toNat (fun i => .int (lo + (i : Int))) (fun _ => True) M1) : WI K (iRng2 t) ρ M R := fun σ B H hR hS R0 k =>
  h σ B H hR hS _ fun xs vs M1 B1 H1 ⟨lo, n, e, h1, q⟩ e1 S1 o1 => by
    subst e
    cases o1 with
    | cons o1 o2 =>
      cases o2 with
      | cons o2 o3 =>
        cases o3
        refine ⟨lo, n, by rw [of_int o1, of_int o2], h1, k _ _ _ M1 B1 H1 _ q e1 S1 ⟨fun i B2 M2 H2 hi e2 S2 st => hi, fun i B2 M2 H2 x H3 hi e2 S2 st y => ?_, fun i B2 M2 H2 hi e2 S2 st => hi⟩⟩
        obtain ⟨rfl, rfl⟩ := y
        exact ⟨B2, Same.refl _, S2, slok_int⟩
theorem wi_r3 {t : TA} {R : Nat → (Nat → Sl) → (MH → Prop) → MH → Prop} (h : WA K t ρ M fun xs M1 => ∃ (i j c : Int) (n : Nat), xs = [.int i, .int j, .int c] ∧ RgC i j c n ∧ R n (fun k => .int (i + (k : Int) * c)) (fun _ => True) M1) : WI K (iRng3 t) ρ M R := fun σ B H hR hS R0 k =>
  h σ B H hR hS _ fun xs vs M1 B1 H1 ⟨i, j, c, n, e, h1, q⟩ e1 S1 o1 => by
    subst e
    cases o1 with
    | cons o1 o2 =>
      cases o2 with
      | cons o2 o3 =>
        cases o3 with
        | cons o3 o4 =>
          cases o4
          refine ⟨i, j, c, n, by rw [of_int o1, of_int o2, of_int o3], h1, k _ _ _ M1 B1 H1 _ q e1 S1 ⟨fun i B2 M2 H2 hi e2 S2 st => hi, fun i B2 M2 H2 x H3 hi e2 S2 st y => ?_, fun i B2 M2 H2 hi e2 S2 st => hi⟩⟩
          obtain ⟨rfl, rfl⟩ := y
          exact ⟨B2, Same.refl _, S2, slok_int⟩
/-- for x in a list of data, by the part that was taken -/
theorem getD_map {α : Type} {enc : α → PyData} {xs : List α} {i : Nat} (h : i < xs.length) : ((xs.map enc).map Sl.dat).getD i .non = .dat (enc xs[i]) := by
  rw [List.getD_eq_getElem?_getD, List.getElem?_map, List.getElem?_map, List.getElem?_eq_getElem h]
  rfl
theorem split_at {α : Type} {xs : List α} {i : Nat} (h : i < xs.length) : xs = xs.take i ++ xs[i] :: xs.drop (i + 1) := by
  rw [List.getElem_cons_drop, List.take_append_drop]
theorem ws_forD {α : Type} {enc : α → PyData} {xs : List α} {tl : TE} {g : TG} {tb : TS} {M1 : MH} (hl : W K tl ρ M fun s M2 => s = .dat (.list (xs.map enc)) ∧ M2 = M1) (J : List α → Rho → MH → Prop) (h0 : J [] ρ M1)
    (hs : ∀ pre x post ρ' M', xs = pre ++ x :: post → J pre ρ' M' → WG K g (.dat (enc x)) ρ' M' fun ρ2 M2 => WS K tb ρ2 M2 ⟨J (pre ++ [x]), rt, nx, J (pre ++ [x])⟩) (hd : ∀ ρ' M', J xs ρ' M' → nx ρ' M') : WS K (tFor (iList K tl) g tb) ρ M ⟨nx, rt, bk, ct⟩ :=
  ws_for (wi_list (hl.imp fun s M2 ⟨e1, e2⟩ => by
    subst e1 e2
    refine ⟨_, lsv_dat, fun i => J (xs.take i), h0, fun _ _ _ _ _ => lsv_dat, fun i ρ' M' hi hj => ?_, fun ρ' M' hj => hd ρ' M' (by rwa [List.length_map, List.length_map, List.take_length] at hj)⟩
    have hi' : i < xs.length := by simpa using hi
    have q := hs (xs.take i) xs[i] (xs.drop (i + 1)) ρ' M' (split_at hi') hj
    rw [← List.take_succ_eq_append_getElem hi'] at q
    show WG K g (((xs.map enc).map Sl.dat).getD i .non) ρ' M' _
    rw [getD_map hi']
    exact q))
theorem ws_forR1 {n : Int} {t : TA} {g : TG} {tb : TS} {M1 : MH} (hl : WA K t ρ M fun xs M2 => xs = [.int n] ∧ M2 = M1) (hn : -(2 ^ 62) ≤ n ∧ n < 2 ^ 62) (J : Nat → Rho → MH → Prop) (h0 : J 0 ρ M1)
    (hs : ∀ (i : Nat) ρ' M', (i : Int) < n → J i ρ' M' → WG K g (.int (i : Int)) ρ' M' fun ρ2 M2 => WS K tb ρ2 M2 ⟨J (i + 1), rt, nx, J (i + 1)⟩) (hd : ∀ ρ' M', J n.toNat ρ' M' → nx ρ' M') : WS K (tFor (iRng1 t) g tb) ρ M ⟨nx, rt, bk, ct⟩ :=
  ws_for (wi_r1 fun σ B H hR hS Q0 k => hl σ B H hR hS Q0 fun ss vs M' B' H' ⟨e1, e2⟩ => by
    subst e1 e2
    exact k _ vs _ B' H' ⟨n, rfl, hn.1, hn.2, J, h0, fun _ _ _ _ _ => trivial, fun i ρ' M' hi hj => hs i ρ' M' (by omega) hj, hd⟩)

/-! ### comprehensions -/
/-- [te for x in ..], x the slot j; J: how many, what was made, what else stands -/
theorem w_lc {wi : TI} {tt : TT} {j : Nat} {vs : List Nat} (hj : j ∈ vs) (h : WI K wi ρ M fun n item stay M1 => ∃ J : Nat → List PyData → MH → Prop, J 0 [] M1 ∧ (∀ i acc M', i ≤ n → J i acc M' → ∀ D o, M' D = none → stay (um M' D o)) ∧
    (∀ i acc M' D, i < n → J i acc M' → M' D = none → WT K tt ((wipeR ρ vs).set j (some (item i))) (um M' D (.lst (acc.map .dat))) fun b M3 =>
      if b = true then W K te ((wipeR ρ vs).set j (some (item i))) M3 fun s M4 => ∃ d M5, s = .dat d ∧ M4 = um M5 D (.lst (acc.map .dat)) ∧ M5 D = none ∧ acc.length < 100000 ∧ J (i + 1) (acc ++ [d]) M5
      else ∃ M5, M3 = um M5 D (.lst (acc.map .dat)) ∧ M5 D = none ∧ J (i + 1) acc M5) ∧
    ∀ acc M', J n acc M' → Q (.dat (.list acc)) M') : W K (tLc wi (gName j) tt te vs) ρ M Q := fun σ B H hR hS Q0 k =>
  h σ B H hR hS _ fun n item stay M1 B1 H1 It ⟨J, j0, js, jt, je⟩ e1 S1 ok => fun D hD => by
    have hwp : ∀ x, wipe ((wipe σ vs).set j (some x)) vs = wipe σ vs := fun x => by rw [wipe_set _ _ _ _ hj, wipe_wipe]
    refine ⟨fun i m H' => m = n - i ∧ i ≤ n ∧ ∃ acc M' B', J i acc M' ∧ M' D = none ∧ Same B1 B' ∧ Sep K B' (um M' D (.lst (acc.map .dat))) H', ⟨n, by simp, Nat.zero_le _, [], M1, B1, j0, S1.freeM hD, Same.refl _, S1.new hD ⟨[], rfl, .nil⟩⟩, ?_⟩
    rintro i m H' ⟨rfl, hi, acc, M', B', hj', hMD, e2, S2⟩
    by_cases hlt : i < n
    · refine .inr ⟨ok.go i B' _ H' hlt e2 S2 (js i acc M' hi hj' D _ hMD), fun H2 => ∃ acc M2 B2, J (i + 1) acc M2 ∧ M2 D = none ∧ Same B1 B2 ∧ Sep K B2 (um M2 D (.lst (acc.map .dat))) H2, fun H2 ⟨acc, M2, B2, q⟩ => ⟨n - (i + 1), by omega, rfl, hlt, acc, M2, B2, q⟩, fun x H3 y => ?_⟩
      obtain ⟨B3, e3, S3, o3⟩ := ok.yld i B' _ H' x H3 hlt e2 S2 (js i acc M' hi hj' D _ hMD) y
      refine ⟨hwp x, ?_⟩
      have R3 : Rl K B3 ((wipe σ vs).set j (some x)) ((wipeR ρ vs).set j (some (item i))) := Rl.put o3 j ((hR.mono ((e1.trans e2).trans e3)).wiped vs)
      refine jt i acc M' D hlt hj' hMD _ B3 H3 R3 S3 _ fun b M4 B4 H4 q4 e4 S4 => ?_
      have e14 := (e2.trans e3).trans e4
      cases b with
      | true =>
        refine q4 _ B4 H4 (R3.mono e4) S4 _ fun s v M5 B5 H5 ⟨d, M6, es, em, hn6, hl6, hj6⟩ e5 S5 o5 => ?_
        subst es em
        obtain ⟨_, u, hu, ws, rfl, ha⟩ := S5.has D _ um_same
        have hlen := SlAll.len ha
        rw [List.length_map] at hlen
        refine ⟨ws, hu, Nat.lt_of_lt_of_le (by omega) (show 100000 ≤ sizeLine by decide), acc ++ [d], M6, B5, hj6, hn6, e14.trans e5, ?_⟩
        have S6 := S5.put (u := .lst (ws ++ [v])) (o' := .lst ((acc ++ [d]).map .dat)) um_same ⟨_, rfl, by rw [List.map_append]; exact SlAll.app ha (.cons o5 .nil)⟩
        rw [um_um] at S6
        exact S6
      | false =>
        obtain ⟨M5, em, hn5, hj5⟩ := q4
        subst em
        exact ⟨acc, M5, B4, hj5, hn5, e14, S4⟩
    · have ei : i = n := by omega
      subst ei
      refine .inl ⟨ok.stop i B' _ H' (Nat.le_refl _) e2 S2 (js i acc M' hi hj' D _ hMD), ?_⟩
      obtain ⟨hB, u, hu, ws, rfl, ha⟩ := S2.has D _ um_same
      have S3 := S2.freeze um_same hu
      rw [del_um hMD] at S3
      exact k _ _ M' _ H' (je acc M' hj') ((e1.trans e2).trans (same_new hB)) S3 (lst_ok (dpa_of ha) hB)
theorem wt_yes {Q : Bool → MH → Prop} (q : Q true M) : WT K tYes ρ M Q := fun σ B H hR hS Q0 k => k true M B H q (Same.refl B) hS
/-- [f(x) for x in a list of data], nothing else is touched -/
theorem w_lcD {α : Type} {enc : α → PyData} {xs : List α} {tl : TE} {j : Nat} {vs : List Nat} {M1 : MH} (hj : j ∈ vs) (hl : W K tl ρ M fun s M2 => s = .dat (.list (xs.map enc)) ∧ M2 = M1) (hz : xs.length ≤ 100000) (f : α → PyData)
    (he : ∀ x D o, x ∈ xs → M1 D = none → W K te ((wipeR ρ vs).set j (some (.dat (enc x)))) (um M1 D o) fun s M' => s = .dat (f x) ∧ M' = um M1 D o) (q : Q (.dat (.list (xs.map f))) M1) : W K (tLc (iList K tl) (gName j) tYes te vs) ρ M Q :=
  w_lc hj (wi_list (hl.imp fun s M2 ⟨e1, e2⟩ => by
    subst e1 e2
    refine ⟨_, lsv_dat, fun i acc M' => M' = M2 ∧ acc = (xs.take i).map f, ⟨rfl, by simp⟩, fun _ _ _ _ _ _ _ _ => lsv_dat, fun i acc M' D hi ⟨eM, ea⟩ hD => ?_, fun acc M' ⟨eM, ea⟩ => ?_⟩
    · subst eM ea
      have hi' : i < xs.length := by simpa using hi
      refine wt_yes ?_
      show W K te ((wipeR ρ vs).set j (some (((xs.map enc).map Sl.dat).getD i .non))) _ _
      rw [getD_map hi']
      refine (he xs[i] D _ (List.getElem_mem hi') hD).imp fun s M' ⟨e1, e2⟩ => ⟨f xs[i], _, e1, e2, hD, ?_, rfl, ?_⟩
      · rw [List.length_map, List.length_take]
        omega
      · rw [List.take_succ_eq_append_getElem hi', List.map_append]
        rfl
    · subst eM ea
      rw [List.length_map, List.length_map, List.take_length]
      exact q))
end
end Ab

set_option Elab.async false
set_option linter.all false
set_option maxRecDepth 100000
set_option  maxHeartbeats 4000000
namespace Ab
open PySem PySem.Spec PyProof.Rows L2
/-! ### defs -/
/-- what a def makes of what it is given, and of what may change -/
abbrev ASp := List Sl → MH → (Sl → MH → Prop) → Prop
def conc (K : PySem.W.Frag) (A : ASp) : Sp := fun vs H Q _ => ∃ (B : Hp) (M : MH) (ss : List Sl) (QA : Sl → MH → Prop), Sep K B M H ∧ SlAll K B vs ss ∧ A ss M QA ∧ ∀ s v M' B' H', QA s M' → Same B B' → Sep K B' M' H' → SlOk K B' v s → Q v H'
section
variable {K : KX} {ρ : Rho} {M : MH} {Q Q' : Sl → MH → Prop} {ta tb te tc : TE} {P : AE}
theorem w_call {A : ASp} {E : XK} {t : TA} (h : WA K t ρ M fun ss M1 => A ss M1 Q) : W K (tCall (conc K A) [] E t) ρ M Q := fun σ B H hR hS Q0 k =>
  h σ B H hR hS _ fun ss vs M1 B1 H1 q e1 S1 o1 => ⟨B1, M1, ss, Q, S1, by rw [List.append_nil]; exact o1, q, fun s v M2 B2 H2 q2 e2 S2 o2 => k s v M2 B2 H2 q2 (e1.trans e2) S2 o2⟩
def rho0 (n : Nat) (ss : List Sl) : Rho := ss.map some ++ List.replicate (n - ss.length) none
theorem ab_ok {K : PySem.W.Frag} {P : Program} {w : World} {mg : Str → Option Value} {base : Heap} {x qual : Str} {st : Stmt} {f : Addr} {fd : FuncData} {N ps : List Str} {k : Nat} {A : ASp} (F : Fun K x qual st f fd) (S : FnScope N ps (defScope st))
    (hlen : ∀ ss M Q, A ss M Q → ss.length = ps.length)
    (hb : ∀ (cdv : Value) (Ar : Around) (outer : List Env) (s : Shared) (H : Hp) (E : XK), Room k (Ar.deeper (envOfC qual (defScope st) s.heap.objs.size f cdv)) →
      ∃ t, PSs (cxOf CX0 P w K mg base N qual (defScope st) f cdv Ar outer s H E).nox (defBody st) t ∧ ∀ ss M Q, A ss M Q → WS (KX.pure K) t (rho0 N.length ss) M ⟨fun _ M' => Q .non M', Q, NoR, NoR⟩) :
    FnOk P w K mg base CX0 (k + 1) f fd ps (conc K A) := by
  refine F.ok S (fun vs H Q E h => ?_) (fun cdv Ar outer s H vs Q E hr h => ?_)
  · obtain ⟨B, M, ss, QA, hS, hv, ha, _⟩ := h
    rw [SlAll.len hv]
    exact hlen ss M QA ha
  · obtain ⟨B, M, ss, QA, hS, hv, ha, hq⟩ := h
    obtain ⟨t, ht, hw⟩ := hb cdv Ar outer s H E hr
    refine ⟨t, ht, ?_⟩
    have hR : Rl (KX.pure K) B (L2.start N vs) (rho0 N.length ss) := by
      unfold L2.start rho0
      rw [SlAll.len hv]
      exact ⟨rl_start _ hv, fun _ _ _ _ _ _ _ q => q.elim⟩
    exact hw ss M QA ha (L2.start N vs) B H ⟨fun _ H' => Q .non H', Q, _, _⟩ hR hS (fun ρ' M' σ' B' H' q e _ S' => hq .non .non M' B' H' q e S' slok_non) (fun s v M' B' H' q e S' o => hq s v M' B' H' q e S' o) (fun _ _ _ _ _ z => z.elim) (fun _ _ _ _ _ z => z.elim)
/-- a def that works on data alone and changes nothing -/
def pureA (R : List PyData → PyData → Prop) : ASp := fun ss M Q => ∃ ds d, ss = ds.map .dat ∧ R ds d ∧ Q (.dat d) M
end
end Ab

set_option Elab.async false
set_option linter.all false
set_option maxRecDepth 100000
set_option  maxHeartbeats 4000000
namespace Ab
open PySem PyProof.Rows L2
/-! ### for the steps that need no thought -/
def datsOf : List Sl → Option (List PyData)
  | [] => some []
  | .dat d :: r => match datsOf r with
    | some ds => some (d :: ds)
    | none => none
  | _ :: _ => none
theorem datsOf_eq : ∀ {xs : List Sl} {ds : List PyData}, datsOf xs = some ds → xs = ds.map .dat
  | [], _, h => by cases h; rfl
  | .dat d :: r, ds, h => by
    unfold datsOf at h
    cases e : datsOf r with
    | none => rw [e] at h; cases h
    | some es =>
      rw [e] at h
      cases h
      rw [datsOf_eq e]
      rfl
  | .raw _ :: _, _, h => by cases h
  | .abs _ _ :: _, _, h => by cases h
section
variable {K : KX} {ρ : Rho} {M : MH} {Q Q' : Sl → MH → Prop} {ta tb te tc : TE} {P : AE}
theorem w_tupD {t : TA} (h : WA K t ρ M fun xs M1 => ∃ ds, datsOf xs = some ds ∧ ds.length ≤ 100000 ∧ Q (.dat (.tuple ds)) M1) : W K (tTup t) ρ M Q :=
  w_tup fun σ B H hR hS Q0 k => h σ B H hR hS Q0 fun ss vs M' B' H' ⟨ds, e, l, q⟩ => k ss vs M' B' H' ⟨ds, datsOf_eq e, l, q⟩
theorem w_lstD {t : TA} (h : WA K t ρ M fun xs M1 => ∃ ds, datsOf xs = some ds ∧ ds.length ≤ 100000 ∧ Q (.dat (.list ds)) M1) : W K (tLst t) ρ M Q :=
  w_lst fun σ B H hR hS Q0 k => h σ B H hR hS Q0 fun ss vs M' B' H' ⟨ds, e, l, q⟩ => k ss vs M' B' H' ⟨ds, datsOf_eq e, l, q⟩
theorem ite_b {b : Bool} {A B : Prop} (h1 : b = true → A) (h2 : b = false → B) : if b = true then A else B := by
  cases b with
  | true => exact h1 rfl
  | false => exact h2 rfl
theorem ite_t {b : Bool} {A B : Prop} (e : b = true) (h : A) : if b = true then A else B := by
  rw [if_pos e]; exact h
theorem ite_f {b : Bool} {A B : Prop} (e : b = false) (h : B) : if b = true then A else B := by
  rw [if_neg (by rw [e]; decide)]; exact h
theorem wa_imp {Q Q' : List Sl → MH → Prop} {t : TA} (h : WA K t ρ M Q) (k : ∀ s M', Q s M' → Q' s M') : WA K t ρ M Q' := fun σ B H hR hS Q0 q => h σ B H hR hS Q0 fun s v M' B' H' z => q s v M' B' H' (k _ _ z)
theorem wt_imp {Q Q' : Bool → MH → Prop} {t : TT} (h : WT K t ρ M Q) (k : ∀ s M', Q s M' → Q' s M') : WT K t ρ M Q' := fun σ B H hR hS Q0 q => h σ B H hR hS Q0 fun s M' B' H' z => q s M' B' H' (k _ _ z)
end
/-- a word between a statement and the rest -/
theorem ws_mid {K : KX} {ρ : Rho} {M : MH} {nx bk ct : Rho → MH → Prop} {rt : Sl → MH → Prop} {t u : TS} (Mid : Rho → MH → Prop) (h : WS K t ρ M ⟨Mid, rt, bk, ct⟩) (k : ∀ ρ' M', Mid ρ' M' → WS K u ρ' M' ⟨nx, rt, bk, ct⟩) : WS K (tSeq t u) ρ M ⟨nx, rt, bk, ct⟩ :=
  ws_seq (h.imp k (fun _ _ z => z) (fun _ _ z => z) (fun _ _ z => z))
theorem atI_ok {α : Type} {xs : List α} {i : Int} {x : α} (h0 : 0 ≤ i) (h : xs[i.toNat]? = some x) : atI xs i = some x := by
  obtain ⟨n, rfl⟩ := Int.eq_ofNat_of_zero_le h0
  exact atI_nat (by simpa using h)
theorem get_two {α : Type} {f : α → PyData} {xs : List α} {i : Nat} {x : α} (h : xs[i]? = some x) : ((xs.map f).map Sl.dat)[i]? = some (.dat (f x)) := by
  rw [List.getElem?_map, List.getElem?_map, h]
  rfl
theorem atI_two {α : Type} {f : α → PyData} {xs : List α} {i : Int} (d : α) (h0 : 0 ≤ i) (h : i.toNat < xs.length) : atI ((xs.map f).map Sl.dat) i = some (.dat (f (xs.getD i.toNat d))) :=
  atI_ok h0 (by rw [get_two (List.getElem?_eq_getElem h), List.getD_eq_getElem?_getD, List.getElem?_eq_getElem h]; rfl)
theorem atI_one {α : Type} {f : α → PyData} {xs : List α} {i : Int} (d : α) (h0 : 0 ≤ i) (h : i.toNat < xs.length) : atI (xs.map f) i = some (f (xs.getD i.toNat d)) :=
  atI_ok h0 (by rw [List.getElem?_map, List.getD_eq_getElem?_getD, List.getElem?_eq_getElem h]; rfl)
/-- data of small depth whose texts are texts -/
theorem shaped_int (i : Int) : SeqAt.shaped (.int i) = true := by simp [SeqAt.shaped, PyData.canLay0, PyData.depth]
theorem shaped_bool (b : Bool) : SeqAt.shaped (.bool b) = true := by simp [SeqAt.shaped, PyData.canLay0, PyData.depth]
theorem shaped_none : SeqAt.shaped .none = true := by simp [SeqAt.shaped, PyData.canLay0, PyData.depth]
theorem eqv_int (i j : Int) : PyData.eqv (.int i) (.int j) = decide (i = j) := by
  simp only [PyData.eqv]
  by_cases e : i = j
  · subst e; simp
  · rw [decide_eq_false e]; exact beq_eq_false_iff_ne.mpr e
mutual
/-- depth below n, texts that are texts -/
def okD : Nat → PyData → Bool
  | _, .none => true
  | _, .bool _ => true
  | _, .int _ => true
  | _, .str x => PyData.strOk x
  | 0, _ => false
  | n + 1, .list xs => decide (xs.length ≤ 100000) && okAll n xs
  | n + 1, .tuple xs => decide (xs.length ≤ 100000) && okAll n xs
  | _, .dict _ => false
def okAll : Nat → List PyData → Bool
  | _, [] => true
  | n, x :: xs => okD n x && okAll n xs
end
mutual
theorem okD_lay : ∀ (n : Nat) (d : PyData), okD n d = true → d.canLay0 = true ∧ d.depth ≤ n + 1
  | n, .none, _ => by simp [PyData.canLay0, PyData.depth]
  | n, .bool _, _ => by simp [PyData.canLay0, PyData.depth]
  | n, .int _, _ => by simp [PyData.canLay0, PyData.depth]
  | n, .str x, h => by
    have h' : PyData.strOk x = true := by cases n <;> simpa [okD] using h
    simp [PyData.canLay0, PyData.depth, h']
  | 0, .list xs, h => by simp [okD] at h
  | 0, .tuple xs, h => by simp [okD] at h
  | n + 1, .list xs, h => by
    have h' : xs.length ≤ 100000 ∧ okAll n xs = true := by simpa [okD] using h
    have q := okAll_lay n xs h'.2
    simp only [PyData.canLay0, PyData.depth]
    exact ⟨q.1, by omega⟩
  | n + 1, .tuple xs, h => by
    have h' : xs.length ≤ 100000 ∧ okAll n xs = true := by simpa [okD] using h
    have q := okAll_lay n xs h'.2
    simp only [PyData.canLay0, PyData.depth]
    exact ⟨q.1, by omega⟩
  | n, .dict _, h => by cases n <;> simp [okD] at h
theorem okAll_lay : ∀ (n : Nat) (ds : List PyData), okAll n ds = true → PyData.canLayAll0 ds = true ∧ PyData.depthAll ds ≤ n + 1
  | n, [], _ => by simp [PyData.canLayAll0, PyData.depthAll]
  | n, d :: ds, h => by
    have h' : okD n d = true ∧ okAll n ds = true := by
      simp only [okAll, Bool.and_eq_true] at h
      exact h
    have q1 := okD_lay n d h'.1
    have q2 := okAll_lay n ds h'.2
    simp only [PyData.canLayAll0, PyData.depthAll, Bool.and_eq_true]
    exact ⟨⟨q1.1, q2.1⟩, by omega⟩
end
theorem okD_shaped {n : Nat} {d : PyData} (h : okD n d = true) (hn : n ≤ 60) : SeqAt.shaped d = true := by
  obtain ⟨h1, h2⟩ := okD_lay n d h
  unfold SeqAt.shaped
  rw [h1, decide_eq_true (by omega)]
  rfl
theorem okAll_of {n : Nat} : ∀ {ds : List PyData}, (∀ d ∈ ds, okD n d = true) → okAll n ds = true
  | [], _ => rfl
  | d :: ds, h => by
    show (okD n d && okAll n ds) = true
    rw [h d List.mem_cons_self, okAll_of fun e he => h e (List.mem_cons_of_mem _ he)]
    rfl
theorem okD_mem {n : Nat} : ∀ {ds : List PyData} {d : PyData}, okAll n ds = true → d ∈ ds → okD n d = true
  | [], _, _, h => by cases h
  | x :: xs, d, h, hm => by
    have h' : okD n x = true ∧ okAll n xs = true := by
      simp only [okAll, Bool.and_eq_true] at h
      exact h
    rcases List.mem_cons.mp hm with rfl | hm
    · exact h'.1
    · exact okD_mem h'.2 hm
theorem okD_up : ∀ {n : Nat} {d : PyData}, okD n d = true → okD (n + 1) d = true
  | n, .none, _ => by cases n <;> rfl
  | n, .bool _, _ => by cases n <;> rfl
  | n, .int _, _ => by cases n <;> rfl
  | n, .str x, h => by cases n <;> simpa [okD] using h
  | 0, .list _, h => by simp [okD] at h
  | 0, .tuple _, h => by simp [okD] at h
  | n + 1, .list xs, h => by
    have h' : xs.length ≤ 100000 ∧ okAll n xs = true := by simpa [okD] using h
    show (decide (xs.length ≤ 100000) && okAll (n + 1) xs) = true
    rw [decide_eq_true h'.1, okAll_of fun d hd => okD_up (okD_mem h'.2 hd)]
    rfl
  | n + 1, .tuple xs, h => by
    have h' : xs.length ≤ 100000 ∧ okAll n xs = true := by simpa [okD] using h
    show (decide (xs.length ≤ 100000) && okAll (n + 1) xs) = true
    rw [decide_eq_true h'.1, okAll_of fun d hd => okD_up (okD_mem h'.2 hd)]
    rfl
  | n, .dict _, h => by cases n <;> simp [okD] at h
termination_by n => n
theorem okD_list {n : Nat} {xs : List PyData} (h : okD (n + 1) (.list xs) = true) : xs.length ≤ 100000 ∧ okAll n xs = true := by simpa [okD] using h
theorem okD_tuple {n : Nat} {xs : List PyData} (h : okD (n + 1) (.tuple xs) = true) : xs.length ≤ 100000 ∧ okAll n xs = true := by simpa [okD] using h
theorem okD_mkL {n : Nat} {xs : List PyData} (h : xs.length ≤ 100000) (h2 : okAll n xs = true) : okD (n + 1) (.list xs) = true := by simp [okD, h, h2]
theorem okD_mkT {n : Nat} {xs : List PyData} (h : xs.length ≤ 100000) (h2 : okAll n xs = true) : okD (n + 1) (.tuple xs) = true := by simp [okD, h, h2]
theorem okD_lsi (n : Nat) {xs : List Int} (h : xs.length ≤ 100000) : okD (n + 1) (.list (xs.map .int)) = true := okD_mkL (by simpa using h) (okAll_of fun d hd => by
  obtain ⟨i, _, rfl⟩ := List.mem_map.mp hd
  cases n <;> rfl)
theorem eqv_self {n : Nat} {d : PyData} (h : okD n d = true) : PyData.eqv d d = true := SeqAt.eqv_refl d (okD_lay n d h).1
/-! isinstance -/
@[reducible] def isB : PyData → Bool
  | .bool _ => true
  | _ => false
@[reducible] def isI : PyData → Bool
  | .bool _ => true
  | .int _ => true
  | _ => false
@[reducible] def isS : PyData → Bool
  | .str _ => true
  | _ => false
@[reducible] def isT : PyData → Bool
  | .tuple _ => true
  | _ => false
@[reducible] def isL : PyData → Bool
  | .list _ => true
  | _ => false
theorem isi_bool (d : PyData) : kitB (tyD d) "bool" = some (isB d) := by cases d <;> (simp only [tyD, isB]; decide +kernel)
theorem isi_int (d : PyData) : kitB (tyD d) "int" = some (isI d) := by cases d <;> (simp only [tyD, isI]; decide +kernel)
theorem isi_str (d : PyData) : kitB (tyD d) "str" = some (isS d) := by cases d <;> (simp only [tyD, isS]; decide +kernel)
theorem isi_tuple (d : PyData) : kitB (tyD d) "tuple" = some (isT d) := by cases d <;> (simp only [tyD, isT]; decide +kernel)
theorem isi_list (d : PyData) : kitB (tyD d) "list" = some (isL d) := by cases d <;> (simp only [tyD, isL]; decide +kernel)
section
variable {K : KX} {ρ : Rho} {M : MH} {Q : Sl → MH → Prop}
/-- x[i] of a list, a tuple of data -/
theorem w2_ixDL {K : PySem.W.Frag} {d : PyData} {ds : List PyData} {i : Int} (hx : atI ds i = some d) (q : Q (.dat d) M) : W2 K (rIx K) (.dat (.list ds)) (.int i) M Q := fun B H v w hS o1 o2 Q0 k =>
  .inl (w2_ixL lsv_dat (by rw [atI_map, hx]; rfl) q B H v w hS o1 o2 Q0 k)
theorem w2_ixDT {K : PySem.W.Frag} {d : PyData} {ds : List PyData} {i : Int} (hx : atI ds i = some d) (q : Q (.dat d) M) : W2 K (rIx K) (.dat (.tuple ds)) (.int i) M Q := fun B H v w hS o1 o2 Q0 k =>
  .inr (.inl (w2_ixT hx q B H v w hS o1 o2 Q0 k))
end
end Ab

set_option Elab.async false
set_option linter.all false
set_option maxRecDepth 100000
set_option  maxHeartbeats 4000000
namespace Ab
open PySem PyProof.Rows L2
/-! the operations on lists that are pictures of lists -/
abbrev lsm {α : Type} (f : α → PyData) (xs : List α) : Sl := .dat (.list (xs.map f))
def itemsI : List Sl → Option (List Int)
  | [] => some []
  | .dat (.int i) :: r => match itemsI r with
    | some ds => some (i :: ds)
    | none => none
  | _ :: _ => none
theorem itemsI_eq : ∀ {xs : List Sl} {ns : List Int}, itemsI xs = some ns → xs = (ns.map PyData.int).map .dat
  | [], _, h => by cases h; rfl
  | .dat (.int i) :: r, ns, h => by
    unfold itemsI at h
    cases e : itemsI r with
    | none => rw [e] at h; cases h
    | some es =>
      rw [e] at h
      cases h
      rw [itemsI_eq e]
      rfl
  | .dat .none :: _, _, h => by cases h
  | .dat (.bool _) :: _, _, h => by cases h
  | .dat (.str _) :: _, _, h => by cases h
  | .dat (.list _) :: _, _, h => by cases h
  | .dat (.tuple _) :: _, _, h => by cases h
  | .dat (.dict _) :: _, _, h => by cases h
  | .raw _ :: _, _, h => by cases h
  | .abs _ _ :: _, _, h => by cases h
section
variable {K : KX} {ρ : Rho} {M : MH} {Q Q' : Sl → MH → Prop} {ta tb te tc : TE} {α : Type} {f : α → PyData}
theorem w_lstI {t : TA} (h : WA K t ρ M fun xs M1 => ∃ ns, itemsI xs = some ns ∧ ns.length ≤ 100000 ∧ Q (lsm .int ns) M1) : W K (tLst t) ρ M Q :=
  w_lst fun σ B H hR hS Q0 k => h σ B H hR hS Q0 fun ss vs M' B' H' ⟨ns, e, l, q⟩ => k ss vs M' B' H' ⟨_, itemsI_eq e, by rw [List.length_map]; exact l, q⟩
theorem wl_lenE {K : PySem.W.Frag} {xs : List α} (q : Q (.int (xs.length : Int)) M) : WL K (rLenS K) [lsm f xs] M Q := wl_len lsv_dat (by rw [List.length_map, List.length_map]; exact q)
theorem wl_lenD {K : PySem.W.Frag} {ds : List PyData} (q : Q (.int (ds.length : Int)) M) : WL K (rLenS K) [.dat (.list ds)] M Q := wl_len lsv_dat (by rw [List.length_map]; exact q)
theorem wl_lenTD {K : PySem.W.Frag} {ds : List PyData} (q : Q (.int (ds.length : Int)) M) : WL K (rLenS K) [.dat (.tuple ds)] M Q := wl_lenT tpv_dat (by rw [List.length_map]; exact q)
theorem wsl_E {K : PySem.W.Frag} {xs : List α} {lo hi : Option Int} (q : Q (lsm f (cutG xs lo hi)) M) : WSl K (rSlL K) (lsm f xs) lo hi M Q := wsl_lst lsv_dat (by rw [cutG_map]; exact q)
theorem w2_catE {K : PySem.W.Frag} {xs ys : List α} (hl : xs.length + ys.length ≤ 100000) (q : Q (lsm f (xs ++ ys)) M) : W2 K (rCatL K) (lsm f xs) (lsm f ys) M Q := w2_cat lsv_dat lsv_dat (by rw [List.length_map, List.length_map]; exact hl) (by rw [← List.map_append]; exact q)
theorem w2_ixE {K : PySem.W.Frag} {xs : List α} {i : Int} (d : α) (h0 : 0 ≤ i) (h : i < xs.length) (q : Q (.dat (f (xs.getD i.toNat d))) M) : W2 K (rIxL K) (lsm f xs) (.int i) M Q := w2_ixL lsv_dat (atI_two d h0 (by omega)) q
theorem repD_map (xs : List α) (n : Nat) : repD (xs.map f) n = ((List.replicate n xs).flatten).map f := by
  unfold repD
  rw [List.map_flatten, List.map_replicate]
theorem w2_repE {K : PySem.W.Frag} {xs : List α} {i : Int} (i1 : -(2 ^ 63) ≤ i) (i2 : i < 2 ^ 63) (hl : xs.length * i.toNat ≤ 100000) (q : Q (lsm f (List.replicate i.toNat xs).flatten) M) : W2 K rRepL (lsm f xs) (.int i) M Q := w2_rep lsr_dat i1 i2 (by rw [List.length_map]; exact hl) (by rw [repD_map]; exact q)
theorem rep_one {α : Type} (x : α) : ∀ n : Nat, (List.replicate n [x]).flatten = List.replicate n x
  | 0 => rfl
  | n + 1 => by rw [List.replicate_succ, List.flatten_cons, rep_one x n]; rfl
theorem w2_rep1 {K : PySem.W.Frag} {x : α} {i : Int} (i1 : -(2 ^ 63) ≤ i) (i2 : i ≤ 100000) (q : Q (lsm f (List.replicate i.toNat x)) M) : W2 K rRepL (lsm f [x]) (.int i) M Q := w2_repE i1 (by omega) (by show 1 * i.toNat ≤ 100000; omega) (by rw [rep_one]; exact q)
theorem w_revE {xs : List α} (h : W K ta ρ M fun s M1 => s = lsm f xs ∧ Q (lsm f xs.reverse) M1) : W K (tRevL K ta) ρ M Q := w_rev (h.imp fun s M1 ⟨e, q⟩ => ⟨xs.map f, by subst e; exact lsv_dat, by rw [← List.map_reverse]; exact q⟩)
theorem wl_listE {K : PySem.W.Frag} {xs : List α} (q : Q (lsm f xs) M) : WL K (rListS K) [lsm f xs] M Q := wl_list (.inl lsv_dat) q
end
section
variable {K : KX} {ρ : Rho} {M : MH} {Q Q' : Sl → MH → Prop} {ta tb te tc : TE}
/-- [te for x in a list of data], what else changes told by J -/
theorem w_lcJ {α : Type} {enc : α → PyData} {xs : List α} {tl : TE} {j : Nat} {vs : List Nat} {M1 : MH} (hj : j ∈ vs) (hl : W K tl ρ M fun s M2 => s = lsm enc xs ∧ M2 = M1) (J : List α → List PyData → MH → Prop) (h0 : J [] [] M1)
    (hs : ∀ pre x post acc M' D, xs = pre ++ x :: post → J pre acc M' → M' D = none → W K te ((wipeR ρ vs).set j (some (.dat (enc x)))) (um M' D (.lst (acc.map .dat))) fun s M4 => ∃ d M5, s = .dat d ∧ M4 = um M5 D (.lst (acc.map .dat)) ∧ M5 D = none ∧ acc.length < 100000 ∧ J (pre ++ [x]) (acc ++ [d]) M5)
    (hd : ∀ acc M', J xs acc M' → Q (.dat (.list acc)) M') : W K (tLc (iList K tl) (gName j) tYes te vs) ρ M Q :=
  w_lc hj (wi_list (hl.imp fun s M2 ⟨e1, e2⟩ => by
    subst e1 e2
    refine ⟨_, lsv_dat, fun i acc M' => J (xs.take i) acc M', h0, fun _ _ _ _ _ _ _ _ => lsv_dat, fun i acc M' D hi hJ hD => ?_, fun acc M' hJ => ?_⟩
    · have hi' : i < xs.length := by simpa using hi
      refine wt_yes ?_
      show W K te ((wipeR ρ vs).set j (some (((xs.map enc).map Sl.dat).getD i .non))) _ _
      rw [getD_map hi']
      have q := hs (xs.take i) xs[i] (xs.drop (i + 1)) acc M' D (split_at hi') hJ hD
      rw [← List.take_succ_eq_append_getElem hi'] at q
      exact q
    · refine hd acc M' ?_
      rw [List.length_map, List.length_map, List.take_length] at hJ
      exact hJ))
/-- xs + ys, a list that will be changed -/
theorem w2_catM {K : PySem.W.Frag} {s t : Sl} {xs ys : List Sl} (h1 : LsV K s M xs) (h2 : LsV K t M ys) (hl : xs.length + ys.length ≤ 100000) (q : ∀ p, M p = none → Q (.ref p) (um M p (.lst (xs ++ ys)))) : W2 K (rCatL K) s t M Q := fun B H v w hS o1 o2 Q0 k => by
  obtain ⟨a, vs, rfl, hq, ha⟩ := h1.get hS o1
  obtain ⟨b, ws, rfl, hq2, ha2⟩ := h2.get hS o2
  have l1 := SlAll.len ha
  have l2 := SlAll.len ha2
  refine ⟨a, b, vs, ws, rfl, rfl, hq, hq2, Nat.le_trans (by omega) (show 100000 ≤ sizeLine by decide), fun p hp => ?_⟩
  exact k _ _ _ B _ (q p (hS.freeM hp)) (Same.refl B) (hS.new hp ⟨_, rfl, SlAll.app ha ha2⟩) rfl
theorem um_swap {p D : Addr} {x y o : MO} (h : D ≠ p) : um (um (um M p x) D o) p y = um (um M p y) D o := by rw [um_comm h, um_um]
end
theorem eqv_lsi (xs ys : List Int) : PyData.eqv (.list (xs.map .int)) (.list (ys.map .int)) = decide (xs = ys) := by
  simp only [PyData.eqv]
  induction xs generalizing ys with
  | nil =>
    cases ys with
    | nil => simp [PyData.eqvAll]
    | cons y ys => simp [PyData.eqvAll]
  | cons x xs ih =>
    cases ys with
    | nil => simp [PyData.eqvAll]
    | cons y ys =>
      simp only [List.map_cons, PyData.eqvAll, ih ys, eqv_int]
      by_cases e : x = y
      · subst e
        simp
      · simp [e]
theorem cutG_len {α : Type} (xs : List α) (lo hi : Option Int) : (cutG xs lo hi).length ≤ xs.length := by
  unfold cutG
  rw [List.length_take, List.length_drop]
  omega
theorem cutG_int {α : Type} (xs : List α) {lo hi : Int} (h1 : 0 ≤ lo) (h2 : 0 ≤ hi) : cutG xs (some lo) (some hi) = (xs.drop lo.toNat).take (hi.toNat - lo.toNat) := by
  obtain ⟨l, rfl⟩ := Int.eq_ofNat_of_zero_le h1
  obtain ⟨h, rfl⟩ := Int.eq_ofNat_of_zero_le h2
  unfold cutG
  rw [HT.sIx_nat, HT.sIx_nat, Int.toNat_natCast, Int.toNat_natCast]
  apply List.ext_getElem?
  intro i
  simp only [List.getElem?_take, List.getElem?_drop]
  by_cases c1 : l + i < xs.length
  · rw [show min l xs.length = l by omega]
    by_cases c2 : i < h - l
    · rw [if_pos (by omega), if_pos c2]
    · rw [if_neg (by omega), if_neg c2]
  · rw [if_neg (by omega), List.getElem?_eq_none (by omega)]
    split <;> rfl
theorem cutG_hi {α : Type} (xs : List α) {hi : Int} (h2 : 0 ≤ hi) : cutG xs none (some hi) = xs.take hi.toNat := by
  obtain ⟨h, rfl⟩ := Int.eq_ofNat_of_zero_le h2
  unfold cutG
  rw [HT.sIx_none, HT.sIx_nat, Int.toNat_natCast, List.drop_zero, Nat.sub_zero]
  apply List.ext_getElem?
  intro i
  simp only [List.getElem?_take]
  by_cases c1 : i < xs.length
  · by_cases c2 : i < h
    · rw [if_pos (by omega), if_pos c2]
    · rw [if_neg (by omega), if_neg c2]
  · rw [if_neg (by omega), List.getElem?_eq_none (by omega)]
    split <;> rfl
theorem cutG_lo {α : Type} (xs : List α) {lo : Int} (h1 : 0 ≤ lo) : cutG xs (some lo) none = xs.drop lo.toNat := by
  obtain ⟨l, rfl⟩ := Int.eq_ofNat_of_zero_le h1
  unfold cutG
  rw [HT.sIx_none, HT.sIx_nat, Int.toNat_natCast]
  apply List.ext_getElem?
  intro i
  simp only [List.getElem?_take, List.getElem?_drop]
  by_cases c1 : l + i < xs.length
  · rw [show min l xs.length = l by omega, if_pos (by omega)]
  · rw [if_neg (by omega), List.getElem?_eq_none (by omega)]
/-! the script of a law -/
def scriptA (K : PySem.W.Frag) : Sp := conc K fun ss M Q => ∃ (s : Sl) (ns : List Int), ss = [s] ∧ ns.length ≤ 63 ∧ (∀ z ∈ ns, Builtin.Int.intBits z ≤ 1048576) ∧ (∀ M, LsV K s M ((ns.map PyData.int).map .dat)) ∧ ∀ M', Q (.bl true) M'
theorem slall_ints {K : PySem.W.Frag} {B : Hp} : ∀ ns : List Int, SlAll K B (ns.map V.int) ((ns.map PyData.int).map .dat)
  | [] => .nil
  | _ :: ns => .cons slok_int (slall_ints ns)
theorem script_in {K : PySem.W.Frag} {H : Hp} {a : Addr} {ns : List Int} (hl : ns.length ≤ 63) (hb : ∀ z ∈ ns, Builtin.Int.intBits z ≤ 1048576) (hS : SqL K H a (ns.map V.int)) : scriptA K [.ref a] H (fun v _ => v = .bl true) fun _ _ _ => False := by
  have S : Sep K H (fun _ => none) H := ⟨Same.refl H, fun a o e => by cases e⟩
  rcases hS with h | h
  · exact ⟨H, _, [.dat (.list (ns.map .int))], fun s _ => s = .bl true, S, .cons (Dq.lst h (dpa_of (slall_ints ns))) .nil, ⟨_, ns, rfl, hl, hb, fun M => lsv_dat, fun _ => rfl⟩, fun s v M' B' H' e _ _ o => by subst e; exact of_bl o⟩
  · exact ⟨H, _, [.raw (.ref a)], fun s _ => s = .bl true, S, .cons rfl .nil, ⟨_, ns, rfl, hl, hb, fun M => .inr (.inr ⟨a, _, rfl, fun H => .inr h, fun B => slall_ints ns⟩), fun _ => rfl⟩, fun s v M' B' H' e _ _ o => by subst e; exact of_bl o⟩
end Ab

set_option Elab.async false
set_option linter.all false
set_option maxRecDepth 100000
set_option  maxHeartbeats 4000000
/-! Ab7: <, >, <=, >= of data that Python can compare (ints, texts, tuples of them, as far as the first place that differs). -/
namespace Ab
open PySem PySem.SeqAt
open PySem.AutoSeq1 (wpAny_loadPart')
open PySem.MeetsSeq PySem.MeetsSeq2 PySem.MeetsSeq3

def cmpN (op : CmpOp) (a b : Nat) : Bool := match op with
  | .Lt => decide (a < b) | .Gt => decide (a > b) | .LtE => decide (a ≤ b) | .GtE => decide (a ≥ b) | _ => false
def cmpI (op : CmpOp) (a b : Int) : Bool := match op with
  | .Lt => decide (a < b) | .Gt => decide (b < a) | .LtE => decide (a ≤ b) | .GtE => decide (b ≤ a) | _ => false
def cmpS (op : CmpOp) (x y : Str) : Bool := match op with
  | .Lt => decide (x.cps.toList < y.cps.toList) | .Gt => decide (y.cps.toList < x.cps.toList) | .LtE => !decide (y.cps.toList < x.cps.toList) | .GtE => !decide (x.cps.toList < y.cps.toList) | _ => false
mutual
/-- what Python's op answers -/
def cmpV (op : CmpOp) : PyData → PyData → Bool
  | .int a, .int b => cmpI op a b
  | .str a, .str b => cmpS op a b
  | .tuple xs, .tuple ys => cmpVs op (cmpN op xs.length ys.length) xs ys
  | _, _ => false
def cmpVs (op : CmpOp) (z : Bool) : List PyData → List PyData → Bool
  | x :: xs, y :: ys => if PyData.eqv x y then cmpVs op z xs ys else cmpV op x y
  | [], _ => z
  | _ :: _, [] => z
end
mutual
/-- whether Python compares the two -/
def cmpOk : PyData → PyData → Bool
  | .int _, .int _ => true
  | .str _, .str _ => true
  | .tuple xs, .tuple ys => cmpOks xs ys
  | _, _ => false
def cmpOks : List PyData → List PyData → Bool
  | x :: xs, y :: ys => if PyData.eqv x y then cmpOks xs ys else cmpOk x y
  | [], _ => true
  | _ :: _, [] => true
end
/-- y op x answers k, and nothing changes -/
def Rc (op : CmpOp) (A : Around) (s : Shared) (y x : Value) (k : Bool) : Prop :=
  ∀ (prog : Program) (w : World) (E : Value → Shared → Prop) (Q : Value → Shared → Prop), Q (.bool k) s → wpAny (model prog w) A (richCompare op y x) Q E s
/-- pair by pair up to the first that differs -/
inductive Cmp (A : Around) (s : Shared) (op : CmpOp) (z : Bool) : List (Value × Value) → Bool → Prop
  | nil : Cmp A s op z [] z
  | same {y x : Value} {r : List (Value × Value)} {k : Bool} : EqAt A s y x true → Cmp A s op z r k → Cmp A s op z ((y, x) :: r) k
  | stop {y x : Value} {r : List (Value × Value)} {k : Bool} : EqAt A s y x false → Rc op A s y x k → Cmp A s op z ((y, x) :: r) k

section
theorem tup_lt (l b : Addr) (us ws : Array Value) (n m : Nat) (dd dd2 : Option Addr) (sl sl2 : Array (Option Value)) (k : Bool) :
    Meets (Builtin.«tuple.__lt__» ⟨[.ref l, .ref b], []⟩)
      (fun A R s => s.heap.get? l = some { cls := .type "tuple", dict := dd, data := .seq us n, slots := sl } ∧ s.heap.get? b = some { cls := .type "tuple", dict := dd2, data := .seq ws m, slots := sl2 } ∧
        Cmp A.in1 s .Lt (cmpN .Lt us.size ws.size) (us.toList.zip ws.toList) k ∧ R (.ok (.ret (.bool k))) s) := .of_wp fun prog w A R s h => by
  obtain ⟨hp, g, d, tk, os⟩ := s; obtain ⟨hl, hb, hc, h⟩ := h
  have sub := AutoSeq1.sub_tuple_tuple
  wp_walk using wpAny_loadPart' hl, wpAny_loadPart' hb, wpAny_forIn_list _ (fun rest b s' => b.1 = none ∧ s' = ⟨hp, g, d, tk, os⟩ ∧ Cmp A.in1 ⟨hp, g, d, tk, os⟩ .Lt (cmpN .Lt us.size ws.size) rest k) _
  case turn =>
    rintro ⟨y, x⟩ rest b s' ⟨hb', rfl, hc⟩
    cases hc with
    | same he hr =>
      refine wpAny_bind (he prog w _ _ ?_)
      wp_walk
      exact ⟨rfl, rfl, hr⟩
    | stop he hr =>
      refine wpAny_bind (he prog w _ _ ?_)
      refine wpAny_bind (wpAny_rule ?_)
      refine wpAny_bind (hr prog w _ _ ?_)
      wp_walk
      exact ⟨_, rfl, h⟩
  case fin =>
    rintro ⟨b1, b2⟩ s' ⟨hb', rfl, hc⟩
    simp only at hb'
    subst hb'
    cases hc
    wp_walk
    exact ⟨_, rfl, by simpa [Builtin.Tuple.tupleCompareSizes, cmpN] using h⟩
  case h => exact ⟨rfl, rfl, hc⟩
theorem rc_tup_lt {A : Around} {s : Shared} {l b : Addr} {us ws : Array Value} {k : Bool} (hl : s.heap.IsTuple l us) (hb : s.heap.IsTuple b ws) (hu : A.units < cLine) (hc : Cmp A.in1 s .Lt (cmpN .Lt us.size ws.size) (us.toList.zip ws.toList) k) : Rc .Lt A s (.ref l) (.ref b) k := fun prog w E Q h => by
  obtain ⟨⟨_, dd, _, sl⟩, ho, c1, n, d1⟩ := id hl
  obtain ⟨⟨_, dd2, _, sl2⟩, ho2, c2, m, d2⟩ := id hb
  simp only at c1 d1 c2 d2
  subst c1 d1 c2 d2
  exact richCompare_meets_room (op := .Lt) ⟨_, ho, rfl⟩ ⟨_, ho2, rfl⟩ F.slot_tuple_lt F.entry_tuple_lt (F.args_tuple_lt_2 _ _) (tup_lt l b us ws n m dd dd2 sl sl2 k)
    ⟨ho, ho2, hc, show Value.bool k ≠ Value.notImplemented ∧ Q (.bool k) s from ⟨(fun x => nomatch x), h⟩⟩ hu
theorem tup_gt (l b : Addr) (us ws : Array Value) (n m : Nat) (dd dd2 : Option Addr) (sl sl2 : Array (Option Value)) (k : Bool) :
    Meets (Builtin.«tuple.__gt__» ⟨[.ref l, .ref b], []⟩)
      (fun A R s => s.heap.get? l = some { cls := .type "tuple", dict := dd, data := .seq us n, slots := sl } ∧ s.heap.get? b = some { cls := .type "tuple", dict := dd2, data := .seq ws m, slots := sl2 } ∧
        Cmp A.in1 s .Gt (cmpN .Gt us.size ws.size) (us.toList.zip ws.toList) k ∧ R (.ok (.ret (.bool k))) s) := .of_wp fun prog w A R s h => by
  obtain ⟨hp, g, d, tk, os⟩ := s; obtain ⟨hl, hb, hc, h⟩ := h
  have sub := AutoSeq1.sub_tuple_tuple
  wp_walk using wpAny_loadPart' hl, wpAny_loadPart' hb, wpAny_forIn_list _ (fun rest b s' => b.1 = none ∧ s' = ⟨hp, g, d, tk, os⟩ ∧ Cmp A.in1 ⟨hp, g, d, tk, os⟩ .Gt (cmpN .Gt us.size ws.size) rest k) _
  case turn =>
    rintro ⟨y, x⟩ rest b s' ⟨hb', rfl, hc⟩
    cases hc with
    | same he hr =>
      refine wpAny_bind (he prog w _ _ ?_)
      wp_walk
      exact ⟨rfl, rfl, hr⟩
    | stop he hr =>
      refine wpAny_bind (he prog w _ _ ?_)
      refine wpAny_bind (wpAny_rule ?_)
      refine wpAny_bind (hr prog w _ _ ?_)
      wp_walk
      exact ⟨_, rfl, h⟩
  case fin =>
    rintro ⟨b1, b2⟩ s' ⟨hb', rfl, hc⟩
    simp only at hb'
    subst hb'
    cases hc
    wp_walk
    exact ⟨_, rfl, by simpa [Builtin.Tuple.tupleCompareSizes, cmpN] using h⟩
  case h => exact ⟨rfl, rfl, hc⟩
theorem rc_tup_gt {A : Around} {s : Shared} {l b : Addr} {us ws : Array Value} {k : Bool} (hl : s.heap.IsTuple l us) (hb : s.heap.IsTuple b ws) (hu : A.units < cLine) (hc : Cmp A.in1 s .Gt (cmpN .Gt us.size ws.size) (us.toList.zip ws.toList) k) : Rc .Gt A s (.ref l) (.ref b) k := fun prog w E Q h => by
  obtain ⟨⟨_, dd, _, sl⟩, ho, c1, n, d1⟩ := id hl
  obtain ⟨⟨_, dd2, _, sl2⟩, ho2, c2, m, d2⟩ := id hb
  simp only at c1 d1 c2 d2
  subst c1 d1 c2 d2
  exact richCompare_meets_room (op := .Gt) ⟨_, ho, rfl⟩ ⟨_, ho2, rfl⟩ F.slot_tuple_gt F.entry_tuple_gt (F.args_tuple_gt_2 _ _) (tup_gt l b us ws n m dd dd2 sl sl2 k)
    ⟨ho, ho2, hc, show Value.bool k ≠ Value.notImplemented ∧ Q (.bool k) s from ⟨(fun x => nomatch x), h⟩⟩ hu
theorem tup_le (l b : Addr) (us ws : Array Value) (n m : Nat) (dd dd2 : Option Addr) (sl sl2 : Array (Option Value)) (k : Bool) :
    Meets (Builtin.«tuple.__le__» ⟨[.ref l, .ref b], []⟩)
      (fun A R s => s.heap.get? l = some { cls := .type "tuple", dict := dd, data := .seq us n, slots := sl } ∧ s.heap.get? b = some { cls := .type "tuple", dict := dd2, data := .seq ws m, slots := sl2 } ∧
        Cmp A.in1 s .LtE (cmpN .LtE us.size ws.size) (us.toList.zip ws.toList) k ∧ R (.ok (.ret (.bool k))) s) := .of_wp fun prog w A R s h => by
  obtain ⟨hp, g, d, tk, os⟩ := s; obtain ⟨hl, hb, hc, h⟩ := h
  have sub := AutoSeq1.sub_tuple_tuple
  wp_walk using wpAny_loadPart' hl, wpAny_loadPart' hb, wpAny_forIn_list _ (fun rest b s' => b.1 = none ∧ s' = ⟨hp, g, d, tk, os⟩ ∧ Cmp A.in1 ⟨hp, g, d, tk, os⟩ .LtE (cmpN .LtE us.size ws.size) rest k) _
  case turn =>
    rintro ⟨y, x⟩ rest b s' ⟨hb', rfl, hc⟩
    cases hc with
    | same he hr =>
      refine wpAny_bind (he prog w _ _ ?_)
      wp_walk
      exact ⟨rfl, rfl, hr⟩
    | stop he hr =>
      refine wpAny_bind (he prog w _ _ ?_)
      refine wpAny_bind (wpAny_rule ?_)
      refine wpAny_bind (hr prog w _ _ ?_)
      wp_walk
      exact ⟨_, rfl, h⟩
  case fin =>
    rintro ⟨b1, b2⟩ s' ⟨hb', rfl, hc⟩
    simp only at hb'
    subst hb'
    cases hc
    wp_walk
    exact ⟨_, rfl, by simpa [Builtin.Tuple.tupleCompareSizes, cmpN] using h⟩
  case h => exact ⟨rfl, rfl, hc⟩
theorem rc_tup_le {A : Around} {s : Shared} {l b : Addr} {us ws : Array Value} {k : Bool} (hl : s.heap.IsTuple l us) (hb : s.heap.IsTuple b ws) (hu : A.units < cLine) (hc : Cmp A.in1 s .LtE (cmpN .LtE us.size ws.size) (us.toList.zip ws.toList) k) : Rc .LtE A s (.ref l) (.ref b) k := fun prog w E Q h => by
  obtain ⟨⟨_, dd, _, sl⟩, ho, c1, n, d1⟩ := id hl
  obtain ⟨⟨_, dd2, _, sl2⟩, ho2, c2, m, d2⟩ := id hb
  simp only at c1 d1 c2 d2
  subst c1 d1 c2 d2
  exact richCompare_meets_room (op := .LtE) ⟨_, ho, rfl⟩ ⟨_, ho2, rfl⟩ F.slot_tuple_le F.entry_tuple_le (F.args_tuple_le_2 _ _) (tup_le l b us ws n m dd dd2 sl sl2 k)
    ⟨ho, ho2, hc, show Value.bool k ≠ Value.notImplemented ∧ Q (.bool k) s from ⟨(fun x => nomatch x), h⟩⟩ hu
theorem tup_ge (l b : Addr) (us ws : Array Value) (n m : Nat) (dd dd2 : Option Addr) (sl sl2 : Array (Option Value)) (k : Bool) :
    Meets (Builtin.«tuple.__ge__» ⟨[.ref l, .ref b], []⟩)
      (fun A R s => s.heap.get? l = some { cls := .type "tuple", dict := dd, data := .seq us n, slots := sl } ∧ s.heap.get? b = some { cls := .type "tuple", dict := dd2, data := .seq ws m, slots := sl2 } ∧
        Cmp A.in1 s .GtE (cmpN .GtE us.size ws.size) (us.toList.zip ws.toList) k ∧ R (.ok (.ret (.bool k))) s) := .of_wp fun prog w A R s h => by
  obtain ⟨hp, g, d, tk, os⟩ := s; obtain ⟨hl, hb, hc, h⟩ := h
  have sub := AutoSeq1.sub_tuple_tuple
  wp_walk using wpAny_loadPart' hl, wpAny_loadPart' hb, wpAny_forIn_list _ (fun rest b s' => b.1 = none ∧ s' = ⟨hp, g, d, tk, os⟩ ∧ Cmp A.in1 ⟨hp, g, d, tk, os⟩ .GtE (cmpN .GtE us.size ws.size) rest k) _
  case turn =>
    rintro ⟨y, x⟩ rest b s' ⟨hb', rfl, hc⟩
    cases hc with
    | same he hr =>
      refine wpAny_bind (he prog w _ _ ?_)
      wp_walk
      exact ⟨rfl, rfl, hr⟩
    | stop he hr =>
      refine wpAny_bind (he prog w _ _ ?_)
      refine wpAny_bind (wpAny_rule ?_)
      refine wpAny_bind (hr prog w _ _ ?_)
      wp_walk
      exact ⟨_, rfl, h⟩
  case fin =>
    rintro ⟨b1, b2⟩ s' ⟨hb', rfl, hc⟩
    simp only at hb'
    subst hb'
    cases hc
    wp_walk
    exact ⟨_, rfl, by simpa [Builtin.Tuple.tupleCompareSizes, cmpN] using h⟩
  case h => exact ⟨rfl, rfl, hc⟩
theorem rc_tup_ge {A : Around} {s : Shared} {l b : Addr} {us ws : Array Value} {k : Bool} (hl : s.heap.IsTuple l us) (hb : s.heap.IsTuple b ws) (hu : A.units < cLine) (hc : Cmp A.in1 s .GtE (cmpN .GtE us.size ws.size) (us.toList.zip ws.toList) k) : Rc .GtE A s (.ref l) (.ref b) k := fun prog w E Q h => by
  obtain ⟨⟨_, dd, _, sl⟩, ho, c1, n, d1⟩ := id hl
  obtain ⟨⟨_, dd2, _, sl2⟩, ho2, c2, m, d2⟩ := id hb
  simp only at c1 d1 c2 d2
  subst c1 d1 c2 d2
  exact richCompare_meets_room (op := .GtE) ⟨_, ho, rfl⟩ ⟨_, ho2, rfl⟩ F.slot_tuple_ge F.entry_tuple_ge (F.args_tuple_ge_2 _ _) (tup_ge l b us ws n m dd dd2 sl sl2 k)
    ⟨ho, ho2, hc, show Value.bool k ≠ Value.notImplemented ∧ Q (.bool k) s from ⟨(fun x => nomatch x), h⟩⟩ hu
end
/-- the four orders -/
inductive IsCmp : CmpOp → Prop
  | lt : IsCmp .Lt
  | gt : IsCmp .Gt
  | le : IsCmp .LtE
  | ge : IsCmp .GtE
theorem rc_tup {op : CmpOp} (ho : IsCmp op) {A : Around} {s : Shared} {l b : Addr} {us ws : Array Value} {k : Bool} (hl : s.heap.IsTuple l us) (hb : s.heap.IsTuple b ws) (hu : A.units < cLine) (hc : Cmp A.in1 s op (cmpN op us.size ws.size) (us.toList.zip ws.toList) k) : Rc op A s (.ref l) (.ref b) k := by
  cases ho
  · exact rc_tup_lt hl hb hu hc
  · exact rc_tup_gt hl hb hu hc
  · exact rc_tup_le hl hb hu hc
  · exact rc_tup_ge hl hb hu hc
theorem rc_int {op : CmpOp} (ho : IsCmp op) {A : Around} {s : Shared} (i j : Int) (t u : Tok) : Rc op A s (.int i t) (.int j u) (cmpI op i j) := fun prog w E Q h => by
  cases ho
  · exact PySem.P.lt_int h
  · exact PyProof.Rows.gt_int h
  · exact PyProof.Rows.le_int h
  · exact PyProof.Rows.ge_int h
theorem rc_str {op : CmpOp} (ho : IsCmp op) {A : Around} {s : Shared} (x y : Str) (t u : Tok) : Rc op A s (.str x t) (.str y u) (cmpS op x y) := fun prog w E Q h => by
  cases ho
  · exact PySem.P.lt_str h
  · exact PySem.P.gt_str h
  · exact PySem.P.le_str h
  · exact PySem.P.ge_str h
mutual
theorem rc_data {op : CmpOp} (ho : IsCmp op) : ∀ (d e : PyData) (A : Around) (s : Shared) (a b : Value) (as bs : List Addr), Reads s.heap a d as → Reads s.heap b e bs → cmpOk d e = true → d.canLay0 = true → e.canLay0 = true → A.units + min d.depth e.depth < cLine → Rc op A s a b (cmpV op d e)
  | .int i, .int j, A, s, _, _, _, _, ra, rb, _, _, _, _ => by
    cases ra with
    | int _ t => cases rb with
      | int _ u => exact rc_int ho i j t u
  | .str x, .str y, A, s, _, _, _, _, ra, rb, _, _, _, _ => by
    cases ra with
    | str _ t => cases rb with
      | str _ u => exact rc_str ho x y t u
  | .tuple xs, .tuple ys, A, s, _, _, _, _, ra, rb, hc, ha, hb, hu => by
    cases ra with
    | @tuple l o vs n _ as₁ h1 h2 h3 h4 =>
      cases rb with
      | @tuple l' o' vs' n' _ bs₁ k1 k2 k3 k4 =>
        have n1 : vs.size = xs.length := by simpa using ReadsAll.length _ _ _ h4
        have n2 : vs'.size = ys.length := by simpa using ReadsAll.length _ _ _ k4
        refine rc_tup ho ⟨_, h1, h2, _, h3⟩ ⟨_, k1, k2, _, k3⟩ (room_here hu) ?_
        rw [n1, n2]
        exact rc_datas ho xs ys A.in1 s _ _ _ _ _ h4 k4 hc ha hb (room_in hu)
  | .none, _, _, _, _, _, _, _, _, _, h, _, _, _ => by simp [cmpOk] at h
  | .bool _, _, _, _, _, _, _, _, _, _, h, _, _, _ => by simp [cmpOk] at h
  | .list _, _, _, _, _, _, _, _, _, _, h, _, _, _ => by simp [cmpOk] at h
  | .dict _, _, _, _, _, _, _, _, _, _, h, _, _, _ => by simp [cmpOk] at h
  | .int _, .none, _, _, _, _, _, _, _, _, h, _, _, _ => by simp [cmpOk] at h
  | .int _, .bool _, _, _, _, _, _, _, _, _, h, _, _, _ => by simp [cmpOk] at h
  | .int _, .str _, _, _, _, _, _, _, _, _, h, _, _, _ => by simp [cmpOk] at h
  | .int _, .list _, _, _, _, _, _, _, _, _, h, _, _, _ => by simp [cmpOk] at h
  | .int _, .tuple _, _, _, _, _, _, _, _, _, h, _, _, _ => by simp [cmpOk] at h
  | .int _, .dict _, _, _, _, _, _, _, _, _, h, _, _, _ => by simp [cmpOk] at h
  | .str _, .none, _, _, _, _, _, _, _, _, h, _, _, _ => by simp [cmpOk] at h
  | .str _, .bool _, _, _, _, _, _, _, _, _, h, _, _, _ => by simp [cmpOk] at h
  | .str _, .int _, _, _, _, _, _, _, _, _, h, _, _, _ => by simp [cmpOk] at h
  | .str _, .list _, _, _, _, _, _, _, _, _, h, _, _, _ => by simp [cmpOk] at h
  | .str _, .tuple _, _, _, _, _, _, _, _, _, h, _, _, _ => by simp [cmpOk] at h
  | .str _, .dict _, _, _, _, _, _, _, _, _, h, _, _, _ => by simp [cmpOk] at h
  | .tuple _, .none, _, _, _, _, _, _, _, _, h, _, _, _ => by simp [cmpOk] at h
  | .tuple _, .bool _, _, _, _, _, _, _, _, _, h, _, _, _ => by simp [cmpOk] at h
  | .tuple _, .int _, _, _, _, _, _, _, _, _, h, _, _, _ => by simp [cmpOk] at h
  | .tuple _, .str _, _, _, _, _, _, _, _, _, h, _, _, _ => by simp [cmpOk] at h
  | .tuple _, .list _, _, _, _, _, _, _, _, _, h, _, _, _ => by simp [cmpOk] at h
  | .tuple _, .dict _, _, _, _, _, _, _, _, _, h, _, _, _ => by simp [cmpOk] at h
theorem rc_datas {op : CmpOp} (ho : IsCmp op) : ∀ (xs ys : List PyData) (A : Around) (s : Shared) (z : Bool) (vs ws : List Value) (as bs : List Addr), ReadsAll s.heap vs xs as → ReadsAll s.heap ws ys bs → cmpOks xs ys = true → PyData.canLayAll0 xs = true → PyData.canLayAll0 ys = true →
    A.units + min (PyData.depthAll xs) (PyData.depthAll ys) < cLine → Cmp A s op z (vs.zip ws) (cmpVs op z xs ys)
  | [], _, A, s, z, _, _, _, _, ra, _, _, _, _, _ => by cases ra; simp only [List.zip_nil_left, cmpVs]; exact .nil
  | _ :: _, [], A, s, z, _, _, _, _, ra, rb, _, _, _, _ => by cases rb; simp only [List.zip_nil_right, cmpVs]; exact .nil
  | x :: xs, y :: ys, A, s, z, _, _, _, _, ra, rb, hc, ha, hb, hu => by
    cases ra with
    | cons r rs =>
      cases rb with
      | cons r' rs' =>
        rw [PyData.canLayAll0, Bool.and_eq_true] at ha hb
        rw [List.zip_cons_cons]
        have he := eqAt_reads x y A s _ _ _ _ r r' ha.1 hb.1 (room_head hu)
        rw [cmpOks] at hc
        cases hx : PyData.eqv x y with
        | true =>
          rw [hx] at he hc
          rw [cmpVs, hx, if_pos rfl]
          exact .same he (rc_datas ho xs ys A s z _ _ _ _ rs rs' hc ha.2 hb.2 (room_tail hu))
        | false =>
          rw [hx] at he hc
          rw [cmpVs, hx, if_neg Bool.false_ne_true]
          exact .stop he (rc_data ho x y A s _ _ _ _ r r' hc ha.1 hb.1 (room_head hu))
end
end Ab
namespace Ab
open PySem L2
/-- x op y, data that Python can compare -/
def rCmp (op : CmpOp) (K : PySem.W.Frag) : R2 := fun x y H Q => ∃ d e, Dp K H x d ∧ Dp K H y e ∧ cmpOk d e = true ∧ SeqAt.shaped d = true ∧ SeqAt.shaped e = true ∧ Q (.bl (cmpV op d e)) H
theorem op_cmp {X : Cx} {op : CmpOp} (hu : X.A.units + 64 < cLine) (ho : IsCmp op) : OpR X (compareOp op) (rCmp op X.K) := fun pins s σ H x y v u Q I rx ry ⟨d, e, hd, he, hc, sd, se, q⟩ => by
  obtain ⟨_, r1⟩ := Dp.reads I d x v hd rx
  obtain ⟨_, r2⟩ := Dp.reads I e y u he ry
  have z := rc_data ho d e X.A s v u _ _ r1 r2 hc (SeqAt.canLay_of_shaped sd) (SeqAt.canLay_of_shaped se) (SeqAt.room_of_shaped sd hu)
  cases ho <;> exact z _ _ _ _ ⟨.bl _, H, I, rfl, q⟩
theorem op_ltD {X : Cx} (hu : X.A.units + 64 < cLine) : OpR X (compareOp .Lt) (rCmp .Lt X.K) := op_cmp hu .lt
theorem op_gtD {X : Cx} (hu : X.A.units + 64 < cLine) : OpR X (compareOp .Gt) (rCmp .Gt X.K) := op_cmp hu .gt
theorem op_leD {X : Cx} (hu : X.A.units + 64 < cLine) : OpR X (compareOp .LtE) (rCmp .LtE X.K) := op_cmp hu .le
theorem op_geD {X : Cx} (hu : X.A.units + 64 < cLine) : OpR X (compareOp .GtE) (rCmp .GtE X.K) := op_cmp hu .ge
section
variable {K : KX} {M : MH} {Q : Sl → MH → Prop}
theorem w2_cmp {K : PySem.W.Frag} {op : CmpOp} {d e : PyData} (hc : cmpOk d e = true) (h1 : SeqAt.shaped d = true) (h2 : SeqAt.shaped e = true) (q : Q (.bl (cmpV op d e)) M) : W2 K (rCmp op K) (.dat d) (.dat e) M Q := fun B H v w hS o1 o2 Q0 k =>
  ⟨d, e, dq_dp _ _ (dp_same hS.sub _ _ o1), dq_dp _ _ (dp_same hS.sub _ _ o2), hc, h1, h2, k _ _ M B H q (Same.refl B) hS slok_bl⟩
end
end Ab

set_option Elab.async false
set_option linter.all false
set_option maxRecDepth 100000
set_option  maxHeartbeats 4000000
/-! Ab8: the draws of a law (defs that take the state of the draws), comprehensions of draws, join, index, + and slices of tuples. -/
namespace Ab
open PySem L2
theorem room65 {k : Nat} {A : Around} (r : Room k A) : A.units + 65 < cLine := by
  have := r.un
  omega
/-! ### the draws -/
/-- the state of the draws: the script, how far it is read, a number in hand, the seed -/
def DrawL (xs : List Sl) : Prop := ∃ (sc : List Int) (pos cur seed : Int), xs = [.dat (.list (sc.map .int)), .int pos, .int cur, .int seed] ∧ 0 ≤ pos
def A_next : ASp := fun ss M Q => ∃ (p : Addr) (n : Int) (xs : List Sl), ss = [.ref p, .int n] ∧ M p = some (.lst xs) ∧ DrawL xs ∧ 0 < n ∧ n ≤ 10 ^ 40 ∧ ∀ (v : Int) (ys : List Sl), 0 ≤ v → v < n → DrawL ys → Q (.int v) (um M p (.lst ys))
/-- a def that draws something of a sort -/
def A_gen (R : List PyData → Prop) (P : List PyData → PyData → Prop) : ASp := fun ss M Q => ∃ (p : Addr) (xs : List Sl) (ds : List PyData), ss = .ref p :: ds.map .dat ∧ R ds ∧ M p = some (.lst xs) ∧ DrawL xs ∧ ∀ d ys, P ds d → DrawL ys → Q (.dat d) (um M p (.lst ys))
theorem a_next {M : MH} {p : Addr} {n : Int} {ys : List Sl} {Q : Sl → MH → Prop} (hD : DrawL ys) (h0 : 0 < n) (h1 : n ≤ 10 ^ 40) (q : ∀ (v : Int) (zs : List Sl), 0 ≤ v → v < n → DrawL zs → Q (.int v) (um M p (.lst zs))) : A_next [.ref p, .int n] (um M p (.lst ys)) Q :=
  ⟨p, n, ys, rfl, um_same, hD, h0, h1, fun v zs a b c => by rw [um_um]; exact q v zs a b c⟩
theorem a_gen {R : List PyData → Prop} {P : List PyData → PyData → Prop} {M : MH} {p : Addr} {ys : List Sl} {Q : Sl → MH → Prop} (hD : DrawL ys) (ds : List PyData) (hR : R ds) (q : ∀ d zs, P ds d → DrawL zs → Q (.dat d) (um M p (.lst zs))) : A_gen R P (.ref p :: ds.map .dat) (um M p (.lst ys)) Q :=
  ⟨p, ys, ds, rfl, hR, um_same, hD, fun d zs a b => by rw [um_um]; exact q d zs a b⟩
/-- a draw with no more to be told -/
theorem a_gen0 {R : List PyData → Prop} {P : List PyData → PyData → Prop} {M : MH} {p : Addr} {ys : List Sl} {Q : Sl → MH → Prop} (hD : DrawL ys) (hR : R []) (q : ∀ d zs, P [] d → DrawL zs → Q (.dat d) (um M p (.lst zs))) : A_gen R P [.ref p] (um M p (.lst ys)) Q := a_gen hD [] hR q
theorem a_gen1 {R : List PyData → Prop} {P : List PyData → PyData → Prop} {M : MH} {p : Addr} {ys : List Sl} {Q : Sl → MH → Prop} {x : PyData} (hD : DrawL ys) (hR : R [x]) (q : ∀ d zs, P [x] d → DrawL zs → Q (.dat d) (um M p (.lst zs))) : A_gen R P [.ref p, .dat x] (um M p (.lst ys)) Q := a_gen hD [x] hR q
section
variable {K : KX} {ρ : Rho} {M : MH} {Q Q' : Sl → MH → Prop} {ta tb te tc to : TE}
/-- [te for _ in range(n)], te a draw -/
theorem w_lcGen {t : TA} {j : Nat} {vs : List Nat} {p : Addr} (hj : j ∈ vs) (P : PyData → Prop)
    (hl : WA K t ρ M fun ss M1 => ∃ (n : Int) (M0 : MH) (ys : List Sl), ss = [.int n] ∧ M1 = um M0 p (.lst ys) ∧ DrawL ys ∧ n ≤ 100000 ∧ -100000 ≤ n ∧
      (∀ (i : Nat) M2 zs, (i : Int) < n → DrawL zs → W K te ((wipeR ρ vs).set j (some (.int (i : Int)))) (um M2 p (.lst zs)) fun s M4 => ∃ d us, s = .dat d ∧ M4 = um M2 p (.lst us) ∧ DrawL us ∧ P d) ∧
      ∀ ds zs, DrawL zs → ds.length = n.toNat → (∀ d ∈ ds, P d) → Q (.dat (.list ds)) (um M0 p (.lst zs))) : W K (tLc (iRng1 t) (gName j) tYes te vs) ρ M Q :=
  w_lc hj (wi_r1 fun σ B H hR hS Q0 k => hl σ B H hR hS Q0 fun ss ws M' B' H' ⟨n, M0, ys, e1, e2, hD, hn, hn', hs, q⟩ => by
    subst e1 e2
    refine k _ ws _ B' H' ⟨n, rfl, by omega, by omega, fun i acc M2 => ∃ zs, M2 = um M0 p (.lst zs) ∧ DrawL zs ∧ acc.length = i ∧ ∀ d ∈ acc, P d, ⟨ys, rfl, hD, rfl, fun d hd => (nomatch hd)⟩, fun _ _ _ _ _ _ _ _ => trivial, ?_, ?_⟩
    · rintro i acc M2 D hi ⟨zs, rfl, hz, hl, hP⟩ hDn
      refine wt_yes ?_
      have hne : p ≠ D := fun e => by rw [← e, um_same] at hDn; cases hDn
      rw [um_comm hne]
      refine (hs i _ zs (by omega) hz).imp fun s M4 ⟨d, us, e1, e2, hu, hp⟩ => ⟨d, um M0 p (.lst us), e1, ?_, ?_, by omega, us, rfl, hu, by rw [List.length_append, hl]; rfl, fun d' hd' => ?_⟩
      · rw [e2, um_comm hne.symm]
      · rw [um_ne hne.symm] at hDn ⊢
        exact hDn
      · rcases List.mem_append.mp hd' with h | h
        · exact hP d' h
        · rw [List.mem_singleton.mp h]; exact hp
    · rintro acc M2 ⟨zs, rfl, hz, hl, hP⟩
      exact q acc zs hz hl hP)
/-- a comprehension whose list will be changed -/
theorem w_lcM {wi : TI} {tt : TT} {j : Nat} {vs : List Nat} (hj : j ∈ vs) (h : WI K wi ρ M fun n item stay M1 => ∃ J : Nat → List PyData → MH → Prop, J 0 [] M1 ∧ (∀ i acc M', i ≤ n → J i acc M' → ∀ D o, M' D = none → stay (um M' D o)) ∧
    (∀ i acc M' D, i < n → J i acc M' → M' D = none → WT K tt ((wipeR ρ vs).set j (some (item i))) (um M' D (.lst (acc.map .dat))) fun b M3 =>
      if b = true then W K te ((wipeR ρ vs).set j (some (item i))) M3 fun s M4 => ∃ d M5, s = .dat d ∧ M4 = um M5 D (.lst (acc.map .dat)) ∧ M5 D = none ∧ acc.length < 100000 ∧ J (i + 1) (acc ++ [d]) M5
      else ∃ M5, M3 = um M5 D (.lst (acc.map .dat)) ∧ M5 D = none ∧ J (i + 1) acc M5) ∧
    ∀ acc M' D, J n acc M' → M' D = none → Q (.raw (.ref D)) (um M' D (.lst (acc.map .dat)))) : W K (tLc wi (gName j) tt te vs) ρ M Q := fun σ B H hR hS Q0 k =>
  h σ B H hR hS _ fun n item stay M1 B1 H1 It ⟨J, j0, js, jt, je⟩ e1 S1 ok => fun D hD => by
    have hwp : ∀ x, wipe ((wipe σ vs).set j (some x)) vs = wipe σ vs := fun x => by rw [wipe_set _ _ _ _ hj, wipe_wipe]
    refine ⟨fun i m H' => m = n - i ∧ i ≤ n ∧ ∃ acc M' B', J i acc M' ∧ M' D = none ∧ Same B1 B' ∧ Sep K B' (um M' D (.lst (acc.map .dat))) H', ⟨n, by simp, Nat.zero_le _, [], M1, B1, j0, S1.freeM hD, Same.refl _, S1.new hD ⟨[], rfl, .nil⟩⟩, ?_⟩
    rintro i m H' ⟨rfl, hi, acc, M', B', hj', hMD, e2, S2⟩
    by_cases hlt : i < n
    · refine .inr ⟨ok.go i B' _ H' hlt e2 S2 (js i acc M' hi hj' D _ hMD), fun H2 => ∃ acc M2 B2, J (i + 1) acc M2 ∧ M2 D = none ∧ Same B1 B2 ∧ Sep K B2 (um M2 D (.lst (acc.map .dat))) H2, fun H2 ⟨acc, M2, B2, q⟩ => ⟨n - (i + 1), by omega, rfl, hlt, acc, M2, B2, q⟩, fun x H3 y => ?_⟩
      obtain ⟨B3, e3, S3, o3⟩ := ok.yld i B' _ H' x H3 hlt e2 S2 (js i acc M' hi hj' D _ hMD) y
      refine ⟨hwp x, ?_⟩
      have R3 : Rl K B3 ((wipe σ vs).set j (some x)) ((wipeR ρ vs).set j (some (item i))) := Rl.put o3 j ((hR.mono ((e1.trans e2).trans e3)).wiped vs)
      refine jt i acc M' D hlt hj' hMD _ B3 H3 R3 S3 _ fun b M4 B4 H4 q4 e4 S4 => ?_
      have e14 := (e2.trans e3).trans e4
      cases b with
      | true =>
        refine q4 _ B4 H4 (R3.mono e4) S4 _ fun s v M5 B5 H5 ⟨d, M6, es, em, hn6, hl6, hj6⟩ e5 S5 o5 => ?_
        subst es em
        obtain ⟨_, u, hu, ws, rfl, ha⟩ := S5.has D _ um_same
        have hlen := SlAll.len ha
        rw [List.length_map] at hlen
        refine ⟨ws, hu, Nat.lt_of_lt_of_le (by omega) (show 100000 ≤ sizeLine by decide), acc ++ [d], M6, B5, hj6, hn6, e14.trans e5, ?_⟩
        have S6 := S5.put (u := .lst (ws ++ [v])) (o' := .lst ((acc ++ [d]).map .dat)) um_same ⟨_, rfl, by rw [List.map_append]; exact SlAll.app ha (.cons o5 .nil)⟩
        rw [um_um] at S6
        exact S6
      | false =>
        obtain ⟨M5, em, hn5, hj5⟩ := q4
        subst em
        exact ⟨acc, M5, B4, hj5, hn5, e14, S4⟩
    · have ei : i = n := by omega
      subst ei
      refine .inl ⟨ok.stop i B' _ H' (Nat.le_refl _) e2 S2 (js i acc M' hi hj' D _ hMD), ?_⟩
      exact k _ _ _ B' H' (je acc M' D hj' hMD) (e1.trans e2) S2 slok_ref
/-- the same, a list that will be changed -/
theorem w_lcGenM {t : TA} {j : Nat} {vs : List Nat} {p : Addr} (hj : j ∈ vs) (P : PyData → Prop)
    (hl : WA K t ρ M fun ss M1 => ∃ (n : Int) (M0 : MH) (ys : List Sl), ss = [.int n] ∧ M1 = um M0 p (.lst ys) ∧ DrawL ys ∧ n ≤ 100000 ∧ -100000 ≤ n ∧
      (∀ (i : Nat) M2 zs, (i : Int) < n → DrawL zs → W K te ((wipeR ρ vs).set j (some (.int (i : Int)))) (um M2 p (.lst zs)) fun s M4 => ∃ d us, s = .dat d ∧ M4 = um M2 p (.lst us) ∧ DrawL us ∧ P d) ∧
      ∀ (ds : List PyData) (zs : List Sl) (D : Addr), DrawL zs → ds.length = n.toNat → (∀ d ∈ ds, P d) → um M0 p (.lst zs) D = none → Q (.ref D) (um (um M0 p (.lst zs)) D (.lst (ds.map .dat)))) : W K (tLc (iRng1 t) (gName j) tYes te vs) ρ M Q :=
  w_lcM hj (wi_r1 fun σ B H hR hS Q0 k => hl σ B H hR hS Q0 fun ss ws M' B' H' ⟨n, M0, ys, e1, e2, hD, hn, hn', hs, q⟩ => by
    subst e1 e2
    refine k _ ws _ B' H' ⟨n, rfl, by omega, by omega, fun i acc M2 => ∃ zs, M2 = um M0 p (.lst zs) ∧ DrawL zs ∧ acc.length = i ∧ ∀ d ∈ acc, P d, ⟨ys, rfl, hD, rfl, fun d hd => (nomatch hd)⟩, fun _ _ _ _ _ _ _ _ => trivial, ?_, ?_⟩
    · rintro i acc M2 D hi ⟨zs, rfl, hz, hl, hP⟩ hDn
      refine wt_yes ?_
      have hne : p ≠ D := fun e => by rw [← e, um_same] at hDn; cases hDn
      rw [um_comm hne]
      refine (hs i _ zs (by omega) hz).imp fun s M4 ⟨d, us, e1, e2, hu, hp⟩ => ⟨d, um M0 p (.lst us), e1, ?_, ?_, by omega, us, rfl, hu, by rw [List.length_append, hl]; rfl, fun d' hd' => ?_⟩
      · rw [e2, um_comm hne.symm]
      · rw [um_ne hne.symm] at hDn ⊢
        exact hDn
      · rcases List.mem_append.mp hd' with h | h
        · exact hP d' h
        · rw [List.mem_singleton.mp h]; exact hp
    · rintro acc M2 D ⟨zs, rfl, hz, hl, hP⟩ hD2
      exact q acc zs D hz hl hP hD2)
/-- [f(x) for x in a tuple of data], nothing else is touched -/
theorem getD_mapT {α : Type} {enc : α → PyData} {xs : List α} {i : Nat} (h : i < xs.length) : ((xs.map enc).map Sl.dat).getD i .non = .dat (enc xs[i]) := getD_map h
theorem w_lcT {α : Type} {enc : α → PyData} {xs : List α} {tl : TE} {j : Nat} {vs : List Nat} {M1 : MH} (hj : j ∈ vs) (hl : W K tl ρ M fun s M2 => s = .dat (.tuple (xs.map enc)) ∧ M2 = M1) (hz : xs.length ≤ 100000) (f : α → PyData)
    (he : ∀ x D o, x ∈ xs → M1 D = none → W K te ((wipeR ρ vs).set j (some (.dat (enc x)))) (um M1 D o) fun s M' => s = .dat (f x) ∧ M' = um M1 D o) (q : Q (.dat (.list (xs.map f))) M1) : W K (tLc (iTup K tl) (gName j) tYes te vs) ρ M Q :=
  w_lc hj (wi_tup (hl.imp fun s M2 ⟨e1, e2⟩ => by
    subst e1 e2
    refine ⟨_, tpv_dat, fun i acc M' => M' = M2 ∧ acc = (xs.take i).map f, ⟨rfl, by simp⟩, fun _ _ _ _ _ _ _ _ => trivial, fun i acc M' D hi ⟨eM, ea⟩ hD => ?_, fun acc M' ⟨eM, ea⟩ => ?_⟩
    · subst eM ea
      have hi' : i < xs.length := by simpa using hi
      refine wt_yes ?_
      show W K te ((wipeR ρ vs).set j (some (((xs.map enc).map Sl.dat).getD i .non))) _ _
      rw [getD_map hi']
      refine (he xs[i] D _ (List.getElem_mem hi') hD).imp fun s M' ⟨e1, e2⟩ => ⟨f xs[i], _, e1, e2, hD, ?_, rfl, ?_⟩
      · rw [List.length_map, List.length_take]
        omega
      · rw [List.take_succ_eq_append_getElem hi', List.map_append]
        rfl
    · subst eM ea
      rw [List.length_map, List.length_map, List.take_length]
      exact q))
/-- for _ in range(n), n found on the way -/
theorem ws_forRn {nx bk ct : Rho → MH → Prop} {rt : Sl → MH → Prop} {t : TA} {g : TG} {tb : TS} (h : WA K t ρ M fun xs M1 => ∃ n : Int, xs = [.int n] ∧ -(2 ^ 62) ≤ n ∧ n < 2 ^ 62 ∧ ∃ J : Nat → Rho → MH → Prop, J 0 ρ M1 ∧
    (∀ (i : Nat) ρ' M', (i : Int) < n → J i ρ' M' → WG K g (.int (i : Int)) ρ' M' fun ρ2 M2 => WS K tb ρ2 M2 ⟨J (i + 1), rt, nx, J (i + 1)⟩) ∧ ∀ ρ' M', J n.toNat ρ' M' → nx ρ' M') : WS K (tFor (iRng1 t) g tb) ρ M ⟨nx, rt, bk, ct⟩ :=
  ws_for (wi_r1 fun σ B H hR hS Q0 k => h σ B H hR hS Q0 fun ss vs M' B' H' ⟨n, e1, h1, h2, J, j0, js, je⟩ => by
    subst e1
    exact k _ vs _ B' H' ⟨n, rfl, h1, h2, J, j0, fun _ _ _ _ _ => trivial, fun i ρ' M' hi hj => js i ρ' M' (by omega) hj, je⟩)
/-! ### one of a list -/
theorem w2_ixAny {K : PySem.W.Frag} {ds : List PyData} {i : Int} (h0 : 0 ≤ i) (h : i < ds.length) (q : ∀ d ∈ ds, Q (.dat d) M) : W2 K (rIxL K) (.dat (.list ds)) (.int i) M Q := by
  have hi : i.toNat < ds.length := by omega
  refine w2_ixL (x := .dat ds[i.toNat]) lsv_dat ?_ (q _ (List.getElem_mem hi))
  rw [atI_map, atI_ok h0 (List.getElem?_eq_getElem hi)]
  rfl
/-! ### tuples: slices, + -/
theorem cutG_all {α : Type} {xs : List α} {lo hi : Option Int} (h : HT.sIx xs.length 0 lo = 0 ∧ HT.sIx xs.length xs.length hi = xs.length) : cutG xs lo hi = xs := by
  unfold cutG
  rw [h.1, h.2]
  simp
theorem wsl_tup {K : PySem.W.Frag} {ds : List PyData} {lo hi : Option Int} (q : Q (.dat (.tuple (cutG ds lo hi))) M) : WSl K (rSlA K) (.dat (.tuple ds)) lo hi M Q := fun B H v hS o Q0 k => by
  obtain ⟨a, vs, rfl, hq, ha⟩ := (tpv_dat (ds := ds)).get hS o
  have hl := DqAll.length (dpa_of ha)
  refine ⟨a, vs, rfl, hq, fun hw => ?_, fun hw p hp => ?_⟩
  · rw [hl] at hw
    rw [cutG_all hw] at q
    exact k _ _ M B H q (Same.refl B) hS o
  · exact k _ _ M (upd B p (.tup (cutV vs lo hi))) _ q (same_new (hS.freeB hp)) (hS.alloc hp) (tup_ok (dpa_cut (dpa_of ha) lo hi) (hS.freeB hp))
theorem w2_catT {K : PySem.W.Frag} {ds es : List PyData} (hl : ds.length + es.length ≤ 100000) (q : Q (.dat (.tuple (ds ++ es))) M) : W2 K (rCatA K) (.dat (.tuple ds)) (.dat (.tuple es)) M Q := fun B H v w hS o1 o2 Q0 k => by
  obtain ⟨a, vs, rfl, hq, ha⟩ := (tpv_dat (ds := ds)).get hS o1
  obtain ⟨b, ws, rfl, hq2, ha2⟩ := (tpv_dat (ds := es)).get hS o2
  have l1 := DqAll.length (dpa_of ha)
  have l2 := DqAll.length (dpa_of ha2)
  refine ⟨a, b, vs, ws, rfl, rfl, hq, hq2, Nat.le_trans (by omega) (show 100000 ≤ sizeLine by decide), fun e => ?_, fun _ e => ?_, fun _ _ p hp => ?_⟩
  · subst e
    cases ds with
    | nil => exact k _ _ M B H q (Same.refl B) hS o2
    | cons _ _ => cases l1
  · subst e
    cases es with
    | nil => rw [List.append_nil] at q; exact k _ _ M B H q (Same.refl B) hS o1
    | cons _ _ => cases l2
  · exact k _ _ M (upd B p (.tup (vs ++ ws))) _ q (same_new (hS.freeB hp)) (hS.alloc hp) (tup_ok (DqAll.app (dpa_of ha) (dpa_of ha2)) (hS.freeB hp))
theorem wl_min {K : PySem.W.Frag} {i j : Int} (q : Q (.int (if j < i then j else i)) M) : WL K (fun xs H Q => ∃ i j, xs = [.int i, .int j] ∧ Q (.int (if j < i then j else i)) H) [.dat (.int i), .dat (.int j)] M Q := fun B H vs hS o Q0 k => by
  cases o with
  | cons o1 o2 => cases o2 with
    | cons o2 o3 =>
      cases o3
      exact ⟨i, j, by rw [of_int o1, of_int o2], k _ _ M B H q (Same.refl B) hS slok_int⟩
/-! ### texts -/
theorem dpa_strs {K : PySem.W.Frag} {B : Hp} : ∀ {vs : List V} {ys : List Str}, DqAll K B vs (ys.map .str) → vs = ys.map V.str
  | _, [], .nil => rfl
  | _, _ :: _, .cons h t => by
    cases h
    rw [dpa_strs t]
    rfl
abbrev rJoin (K : PySem.W.Frag) : V → List V → Hp → VK → Prop := fun x xs H Q => ∃ a p, ∃ ys : List Str, x = .str a ∧ xs = [.ref p] ∧ (SqL K H p (ys.map V.str) ∨ SqT K H p (ys.map V.str)) ∧ (ys.map (·.length)).sum + ys.length * a.length ≤ 16777216 ∧ Q (.str (Txt.join a ys)) H
theorem w_join (h : W K to ρ M fun s M1 => ∃ a, s = .str a ∧ W K te ρ M1 fun x M2 => ∃ ys : List Str, x = .dat (.list (ys.map .str)) ∧ (ys.map (·.length)).sum + ys.length * a.length ≤ 16777216 ∧ Q (.str (Txt.join a ys)) M2) : W K (tM1 (rJoin K) to te) ρ M Q := fun σ B H hR hS Q0 k =>
  h σ B H hR hS _ fun s v M1 B1 H1 ⟨a, es, h1⟩ e1 S1 o1 => by
    subst es
    refine ⟨⟨a, of_str o1⟩, h1 σ B1 H1 (hR.mono e1) S1 _ fun x w M2 B2 H2 ⟨ys, ex, hl, q⟩ e2 S2 o2 => ?_⟩
    subst ex
    obtain ⟨p, vs, rfl, hq, ha⟩ := (lsv_dat (K := K) (ds := ys.map .str) (M := M2)).get S2 o2
    have ev := dpa_strs (dpa_of ha)
    subst ev
    exact ⟨a, p, ys, of_str o1, rfl, .inl hq, hl, k _ _ M2 B2 H2 q (e1.trans e2) S2 slok_str⟩
/-! ### index -/
abbrev rTIndex (K : PySem.W.Frag) : V → List V → Hp → VK → Prop := fun x xs H Q => ∃ p, ∃ ys : List Str, ∃ z j, x = .ref p ∧ xs = [.str z] ∧ SqT K H p (ys.map V.str) ∧ ys[j]? = some z ∧ (∀ m, m < j → ys[m]? ≠ some z) ∧ Q (.int (j : Nat)) H
/-- a tuple of texts of the module -/
def TupC (K : PySem.W.Frag) (c : Addr) (ys : List Str) : Prop := (∃ o, K.lookup c = some o ∧ o.cls = .type "tuple" ∧ o.dict = none) ∧ ∀ H, SqT K H c (ys.map V.str)
theorem wm_tindex {K : PySem.W.Frag} {ys : List Str} {z : Str} {j : Nat} {c : Addr} (hc : TupC K c ys) (h1 : ys[j]? = some z) (h2 : ∀ m, m < j → ys[m]? ≠ some z) (q : Q (.int (j : Nat)) M) : WM K (rTIndex K) (.raw (.ref c)) [.str z] M Q := fun B H v vs hS o1 o2 Q0 k => by
  cases o2 with
  | cons a b =>
    cases b
    exact ⟨c, ys, z, j, o1, by rw [of_str a], hc.2 H, h1, h2, k _ _ M B H q (Same.refl B) hS slok_int⟩
theorem ty_tupC {K : PySem.W.Frag} {ys : List Str} {c : Addr} (hc : TupC K c ys) : ∀ B H v, Sep K B M H → SlOk K B v (.raw (.ref c)) → tyV K "tuple" v H := fun B H v S o => by
  obtain ⟨ob, h⟩ := hc.1
  have e : v = .ref c := o
  subst e
  exact .inr (.inl ⟨rfl, ob, h⟩)
theorem wm_index {K : PySem.W.Frag} {ds : List PyData} {d z : PyData} {j : Nat} (s1 : SeqAt.shaped (.list ds) = true) (s2 : SeqAt.shaped d = true) (h1 : ds[j]? = some z) (h2 : PyData.eqv z d = true) (h3 : ∀ (m : Nat) (z' : PyData), m < j → ds[m]? = some z' → PyData.eqv z' d = false) (q : Q (.int (j : Nat)) M) : WM K (rIndexD K) (.dat (.list ds)) [.dat d] M Q := fun B H v vs hS o1 o2 Q0 k => by
  obtain ⟨a, us, rfl, hq, ha⟩ := (lsv_dat (K := K) (ds := ds) (M := M)).get hS o1
  cases o2 with
  | cons x y =>
    cases y
    exact ⟨a, _, d, ds, j, z, rfl, rfl, dq_dp _ _ (dp_same hS.sub _ _ o1), dq_dp _ _ (dp_same hS.sub _ _ x), s1, s2, h1, h2, h3, k _ _ M B H q (Same.refl B) hS slok_int⟩
end
end Ab

set_option Elab.async false
set_option linter.all false
set_option maxRecDepth 100000
set_option  maxHeartbeats 4000000
/-! Ab9: instances (fields, methods, making), calls that may raise, raise, try. -/
namespace L2
open PySem PySem.Spec PyProof.Rows
section
variable {X : Cx} {CX : CXT} {k : Nat} {f C : Addr} {fd : FuncData} {ps : List Str} {sp : Sp} {dvs : List V} {ds : List Value} {E : St → XK} {x m : Str} {p pos apos : Pos} {e o : Expr} {es : List Expr} {ta : TE} {t : TA}
/-- what stands behind o.m(..), as the model reads it -/
def IsMCall (X : Cx) (o : Expr) (m : Str) (es : List Expr) (apos pos : Pos) (pl : Sem Bool) : Prop :=
  eval (.Call (.Attribute o m apos) es [] pos) X.env = (do let ov ← eval o X.env; standAt apos.atName; let (f, first) ← holding [ov] (getMethod ov m pl); callWith pos f first (backTo pos (starEach es X.env)) (backToKw pos (keywordEach [] X.env)))
/-- o.m(..): what it lets out may hang on the slots -/
def tMethD (C : Addr) (m : Str) (sp : Sp) (dvs : List V) (E : St → XK) (ta : TE) (t : TA) : TE := fun σ H Q =>
  ta σ H fun x H1 => ∃ a dx fs, x = .ref a ∧ H1 a = some (.ins C dx fs) ∧ fs.lookup m = none ∧ t σ H1 fun vs H2 => sp (x :: (vs ++ dvs)) H2 Q (E σ)
theorem pe_methD {pl : Sem Bool} (he : PE X o ta) (c : Cls X.K C) (hm : Meth X.K C m f) (F : FnOk X.prog X.w X.K X.mg X.base CX k f fd ps sp) (hr : Room k X.A) (hb : Binds X.K fd ps ds) (hd : Vals dvs ds) (hx : ∀ σ, PassesAt CX X σ (E σ)) (ha : PA X (e :: es) t)
    (h1 : starEach (e :: es) X.env = (false, eval e X.env) :: starEach es X.env := by rfl) (h2 : (backTo pos (starEach es X.env)).any (·.1) = false := by rfl) (h3 : IsMCall X o m (e :: es) apos pos pl := by rfl) : PE X (.Call (.Attribute o m apos) (e :: es) [] pos) (tMethD C m sp dvs E ta t) :=
  ⟨fun pins s σ H Q I h => PySem.W.methodCall_KW (pl := pl) (thn (he.run pins s σ H _ I h) fun u s1 ⟨_, H1, I1, rx, a, dx, fs, ex, ea, l, q⟩ => by
    cases ex
    cases rx
    exact getmeth_ok I1 ea c hm l (PySem.W.callWith_K (first := [.ref a]) (h₀ := X.base) I.ok.mod.kin hm.kp (thn (ha.run pos pins s1 σ H1 _ I1 q) fun us s2 ⟨vs, H2, I2, r, q2⟩ => ⟨I2.kIn, run_fnSD (us := .ref a :: us) (vs := .ref a :: vs) F hr hb hd (hx σ) I2 (.cons rfl r) q2⟩) h1 h2)) h3⟩
theorem pe_methD0 {pl : Sem Bool} (he : PE X o ta) (c : Cls X.K C) (hm : Meth X.K C m f) (F : FnOk X.prog X.w X.K X.mg X.base CX k f fd ps sp) (hr : Room k X.A) (hb : Binds X.K fd ps ds) (hd : Vals dvs ds) (hx : ∀ σ, PassesAt CX X σ (E σ))
    (h3 : IsMCall X o m [] apos pos pl := by rfl) : PE X (.Call (.Attribute o m apos) [] [] pos) (tMethD C m sp dvs E ta tNil) :=
  ⟨fun pins s σ H Q I h => PySem.W.methodCall_KW (pl := pl) (thn (he.run pins s σ H _ I h) fun u s1 ⟨_, H1, I1, rx, a, dx, fs, ex, ea, l, q⟩ => by
    cases ex
    cases rx
    exact getmeth_ok I1 ea c hm l (PySem.W.callWith_K0 (first := [.ref a]) I1.kIn hm.kp (run_fnSD (us := [.ref a]) (vs := [.ref a]) F hr hb hd (hx σ) I1 (.cons rfl .nil) q))) h3⟩
theorem pe_callSD0 (F : FnOk X.prog X.w X.K X.mg X.base CX k f fd ps sp) (hr : Room k X.A) (hg : Gl X x) (hm : X.mg x = some (.ref f)) (hk : PySem.W.keepIn X.K (.ref f) = true) (hb : Binds X.K fd ps ds) (hd : Vals dvs ds) (hx : ∀ σ, PassesAt CX X σ (E σ))
    (hdb : (x == ("__debug__" : Str)) = false := by decide) : PE X (.Call (.Name x p) [] [] pos) (tCallSD sp dvs E tNil) :=
  ⟨fun pins s σ H Q I h => wpAny_Call_Name_kw (ld_glob I hg hm (PySem.W.callWith_K0 I.kIn hk (run_fnSD (us := []) F hr hb hd (hx σ) I .nil h)) hdb)⟩
/-- C(..) -/
def tMakeD (C : Addr) (sp : Sp) (dvs : List V) (E : St → XK) (t : TA) : TE := fun σ H Q => t σ H fun vs H1 => ∀ x dx, H1 x = none → H1 dx = none → dx ≠ x →
  sp (.ref x :: (vs ++ dvs)) (upd (upd H1 dx (.own x)) x (.ins C dx [])) (fun v H2 => v = .non ∧ Q (.ref x) H2) (E σ)
theorem run_makeD {pins : List (Addr × Obj)} {σ : St} {H : Hp} {s : Shared} {Q : VK} {us : List Value} {vs : List V} (M : Mk X.K C f) (F : FnOk X.prog X.w X.K X.mg X.base CX k f fd ps sp) (hr : Room (k + 1) X.A) (hb : Binds X.K fd ps ds) (hd : Vals dvs ds) (hx : PassesAt CX X σ (E σ)) (I : Inv X pins σ H s) (r : Vals vs us)
    (h : ∀ x dx, H x = none → H dx = none → dx ≠ x → sp (.ref x :: (vs ++ dvs)) (upd (upd H dx (.own x)) x (.ins C dx [])) (fun v H2 => v = .non ∧ Q (.ref x) H2) (E σ)) : wpAny (model X.prog X.w) X.A (call (.ref C) us) (EP X pins σ Q) X.xe s := by
  let n := s.heap.objs.size
  have now := h (n + 1) n (I.hok.fresh (Nat.le_succ _)) (I.hok.fresh (Nat.le_refl _)) (Nat.ne_of_lt (Nat.lt_succ_self _))
  have J := Inv.made (C := C) I
  have all : Vals (V.ref (n + 1) :: (vs ++ dvs)) (Value.ref (n + 1) :: (us ++ ds)) := .cons rfl (r.append hd)
  have count : (Value.ref (n + 1) :: us ++ ds).length = ps.length := all.length.symm.trans (F.len _ _ _ _ now)
  have bound := hb _ (Value.ref (n + 1) :: us) J.kIn count
  refine wpAny_call (make_map (f := f) I.kIn M.makes M.init (beq_iff_eq.mp M.fn) (codeAny_mono (F.run _ X.stack _ _ ⟨_, []⟩ _ _ _ (E σ) (hr.make C us []) (J.env0.make C us []) bound all now) fun out s' ho => ?_))
  match out, ho with
  | .error e, ho => exact hx pins _ _ e s' J ho
  | .ok (.ret u), ho =>
    obtain ⟨v, H', I3, rv, rfl, q⟩ := J.after ho
    exact ⟨rv, V.ref (n + 1), H', I3, rfl, q⟩
theorem pe_makeD (M : Mk X.K C f) (F : FnOk X.prog X.w X.K X.mg X.base CX k f fd ps sp) (hr : Room (k + 1) X.A) (hg : Gl X x) (hm : X.mg x = some (.ref C)) (hb : Binds X.K fd ps ds) (hd : Vals dvs ds) (hx : ∀ σ, PassesAt CX X σ (E σ)) (ha : PA X (e :: es) t) (hdb : (x == ("__debug__" : Str)) = false := by decide)
    (h1 : starEach (e :: es) X.env = (false, eval e X.env) :: starEach es X.env := by rfl) (h2 : (backTo pos (starEach es X.env)).any (·.1) = false := by rfl) : PE X (.Call (.Name x p) (e :: es) [] pos) (tMakeD C sp dvs E t) :=
  ⟨fun pins s σ H Q I h => wpAny_Call_Name_kw (ld_glob I hg hm (PySem.W.callWith_K (h₀ := X.base) I.ok.mod.kin M.kp (thn (ha.run pos pins s σ H _ I h) fun us s1 ⟨vs, H1, I1, r, q⟩ => ⟨I1.kIn, run_makeD M F hr hb hd (hx σ) I1 r q⟩) h1 h2) hdb)⟩
theorem pe_makeD0 (M : Mk X.K C f) (F : FnOk X.prog X.w X.K X.mg X.base CX k f fd ps sp) (hr : Room (k + 1) X.A) (hg : Gl X x) (hm : X.mg x = some (.ref C)) (hb : Binds X.K fd ps ds) (hd : Vals dvs ds) (hx : ∀ σ, PassesAt CX X σ (E σ)) (hdb : (x == ("__debug__" : Str)) = false := by decide) :
    PE X (.Call (.Name x p) [] [] pos) (tMakeD C sp dvs E tNil) :=
  ⟨fun pins s σ H Q I h => wpAny_Call_Name_kw (ld_glob I hg hm (PySem.W.callWith_K0 I.kIn M.kp (run_makeD (us := []) M F hr hb hd (hx σ) I .nil h)) hdb)⟩
end
end L2
namespace Ab
open PySem PySem.Spec PyProof.Rows L2
/-! ### what a def that may raise promises -/
abbrev ASpX := List Sl → MH → (Sl → MH → Prop) → (Value → Option Addr → MH → Prop) → Prop
def concX (K : PySem.W.Frag) (A : ASpX) : Sp := fun vs H Q E => ∃ (B : Hp) (M : MH) (ss : List Sl) (QA : Sl → MH → Prop) (XA : Value → Option Addr → MH → Prop), Sep K B M H ∧ SlAll K B vs ss ∧ A ss M QA XA ∧
  (∀ s v M' B' H', QA s M' → Same B B' → Sep K B' M' H' → SlOk K B' v s → Q v H') ∧ ∀ C d M' B' H', XA C d M' → Same B B' → Sep K B' M' H' → E C d H'
/-- one that raises nothing, read so -/
abbrev noX (A : ASp) : ASpX := fun ss M Q _ => A ss M Q
section
variable {K : KX} {ρ : Rho} {M : MH} {Q Q' : Sl → MH → Prop} {ta tb te tc : TE} {P : AE} {nx bk ct : Rho → MH → Prop} {rt : Sl → MH → Prop}
theorem conc_x {F : PySem.W.Frag} {A : ASpX} {vs : List V} {H : Hp} {Q0 : VK} {E : XK} {B : Hp} {M : MH} {ss : List Sl} {QA : Sl → MH → Prop} {XA : Value → Option Addr → MH → Prop} (S : Sep F B M H) (o : SlAll F B vs ss) (h : A ss M QA XA)
    (k : ∀ s v M' B' H', QA s M' → Same B B' → Sep F B' M' H' → SlOk F B' v s → Q0 v H') (x : ∀ C d M' B' H', XA C d M' → Same B B' → Sep F B' M' H' → E C d H') : concX F A vs H Q0 E := ⟨B, M, ss, QA, XA, S, o, h, k, x⟩
theorem w_callX {A : ASpX} {t : TA} (h : WA K t ρ M fun ss M1 => A ss M1 Q fun C d M2 => K.X C d ρ M2) : W K (tCallSD (concX K.K A) [] (WE K.W) t) ρ M Q := fun σ B H hR hS Q0 k =>
  h σ B H hR hS _ fun ss vs M1 B1 H1 q e1 S1 o1 => conc_x S1 (by rw [List.append_nil]; exact o1) q (fun s v M2 B2 H2 q2 e2 S2 o2 => k s v M2 B2 H2 q2 (e1.trans e2) S2 o2)
    (fun C d M2 B2 H2 x e2 S2 => hR.x C d ρ M2 σ B2 H2 x (e1.trans e2) (hR.r.mono (e1.trans e2)) S2)
/-! ### instances -/
theorem slks_get {F : PySem.W.Frag} {B : Hp} {f : Str} {s : Sl} : ∀ {vs : List (Str × V)} {fs : List (Str × Sl)}, SlKs F B vs fs → fs.lookup f = some s → ∃ v, vs.lookup f = some v ∧ SlOk F B v s
  | _, _, .nil, e => nomatch e
  | (g, v) :: vs, (g', s') :: fs, .cons ⟨h1, h2⟩ t, e => by
    cases h1
    rw [List.lookup_cons] at e ⊢
    cases hb : f == g with
    | true => rw [hb] at e; cases e; exact ⟨v, rfl, h2⟩
    | false => rw [hb] at e; exact slks_get t e
theorem slks_none {F : PySem.W.Frag} {B : Hp} {f : Str} : ∀ {vs : List (Str × V)} {fs : List (Str × Sl)}, SlKs F B vs fs → fs.lookup f = none → vs.lookup f = none
  | _, _, .nil, _ => rfl
  | (g, v) :: vs, (g', s') :: fs, .cons ⟨h1, h2⟩ t, e => by
    cases h1
    rw [List.lookup_cons] at e ⊢
    cases hb : f == g with
    | true => rw [hb] at e; cases e
    | false => rw [hb] at e; exact slks_none t e
def putS (f : Str) (s : Sl) : List (Str × Sl) → List (Str × Sl)
  | [] => [(f, s)]
  | (g, x) :: r => if g = f then (g, s) :: r else (g, x) :: putS f s r
theorem slks_put {F : PySem.W.Frag} {B : Hp} {f : Str} {s : Sl} {v : V} (o : SlOk F B v s) : ∀ {vs : List (Str × V)} {fs : List (Str × Sl)}, SlKs F B vs fs → SlKs F B (putF f v vs) (putS f s fs)
  | _, _, .nil => .cons ⟨rfl, o⟩ .nil
  | (g, x) :: vs, (g', y) :: fs, .cons ⟨h1, h2⟩ t => by
    cases h1
    unfold putF putS
    by_cases e : g = f
    · rw [if_pos e, if_pos e]; exact .cons ⟨rfl, o⟩ t
    · rw [if_neg e, if_neg e]; exact .cons ⟨rfl, h2⟩ (slks_put o t)
theorem w_fld {f : Str} (h : W K ta ρ M fun s M1 => ∃ a C dx fs x, s = .raw (.ref a) ∧ M1 a = some (.ins C dx fs) ∧ Cls K.K C ∧ NoAttr K.K C f ∧ fs.lookup f = some x ∧ Q x M1) : W K (tFld K.K ta f) ρ M Q := fun σ B H hR hS Q0 k =>
  h σ B H hR hS _ fun s v M1 B1 H1 ⟨a, C, dx, fs, x, es, hM, c, n, l, q⟩ e1 S1 o1 => by
    subst es
    have ev : v = .ref a := o1
    subst ev
    obtain ⟨_, u, hu, vs, rfl, hv⟩ := S1.has a _ hM
    obtain ⟨y, hy, oy⟩ := slks_get hv l
    exact ⟨a, C, dx, vs, y, rfl, hu, c, n, hy, k x y M1 B1 H1 q e1 S1 oy⟩
theorem ws_fld {f : Str} (h : W K te ρ M fun s M1 => W K ta ρ M1 fun o M2 => ∃ a C dx fs, o = .raw (.ref a) ∧ M2 a = some (.ins C dx fs) ∧ Cls K.K C ∧ NoAttr K.K C f ∧ fs.length < 1000 ∧ nx ρ (um M2 a (.ins C dx (putS f s fs)))) : WS K (sFld K.K ta te f) ρ M ⟨nx, rt, bk, ct⟩ := fun σ B H D hR hS p1 p2 p3 p4 =>
  h σ B H hR hS _ fun s v M1 B1 H1 h1 e1 S1 o1 => h1 σ B1 H1 (hR.mono e1) S1 _ fun o w M2 B2 H2 ⟨a, C, dx, fs, eo, hM, c, n, hl, q⟩ e2 S2 o2 => by
    subst eo
    have ev : w = .ref a := o2
    subst ev
    obtain ⟨_, u, hu, vs, rfl, hv⟩ := S2.has a _ hM
    refine ⟨a, C, dx, vs, rfl, hu, c, n, by rw [Paired.length hv]; exact hl, ?_⟩
    exact p1 ρ _ σ B2 _ q (e1.trans e2) (hR.mono (e1.trans e2)) (S2.put hM ⟨_, rfl, slks_put (o1.mono e2) hv⟩)
theorem w_meth {C : Addr} {m : Str} {A : ASp} {E : XK} {t : TA} (h : W K ta ρ M fun s M1 => ∃ a dx fs, s = .raw (.ref a) ∧ M1 a = some (.ins C dx fs) ∧ fs.lookup m = none ∧ WA K t ρ M1 fun ss M2 => A (.raw (.ref a) :: ss) M2 Q) : W K (tMeth C m (conc K.K A) [] E ta t) ρ M Q := fun σ B H hR hS Q0 k =>
  h σ B H hR hS _ fun s v M1 B1 H1 ⟨a, dx, fs, es, hM, l, h1⟩ e1 S1 o1 => by
    subst es
    have ev : v = .ref a := o1
    subst ev
    obtain ⟨_, u, hu, vs, rfl, hv⟩ := S1.has a _ hM
    refine ⟨a, dx, vs, rfl, hu, slks_none hv l, ?_⟩
    exact h1 σ B1 H1 (hR.mono e1) S1 _ fun ss ws M2 B2 H2 q e2 S2 o2 => ⟨B2, M2, _, Q, S2, by rw [List.append_nil]; exact .cons rfl o2, q, fun s v M3 B3 H3 q3 e3 S3 o3 => k s v M3 B3 H3 q3 ((e1.trans e2).trans e3) S3 o3⟩
theorem w_methX {C : Addr} {m : Str} {A : ASpX} {t : TA} (h : W K ta ρ M fun s M1 => ∃ a dx fs, s = .raw (.ref a) ∧ M1 a = some (.ins C dx fs) ∧ fs.lookup m = none ∧ WA K t ρ M1 fun ss M2 => A (.raw (.ref a) :: ss) M2 Q fun C d M3 => K.X C d ρ M3) : W K (tMethD C m (concX K.K A) [] (WE K.W) ta t) ρ M Q := fun σ B H hR hS Q0 k =>
  h σ B H hR hS _ fun s v M1 B1 H1 ⟨a, dx, fs, es, hM, l, h1⟩ e1 S1 o1 => by
    subst es
    have ev : v = .ref a := o1
    subst ev
    obtain ⟨_, u, hu, vs, rfl, hv⟩ := S1.has a _ hM
    refine ⟨a, dx, vs, rfl, hu, slks_none hv l, ?_⟩
    exact h1 σ B1 H1 (hR.mono e1) S1 _ fun ss ws M2 B2 H2 q e2 S2 o2 => conc_x S2 (by rw [List.append_nil]; exact .cons rfl o2) q (fun s v M3 B3 H3 q3 e3 S3 o3 => k s v M3 B3 H3 q3 ((e1.trans e2).trans e3) S3 o3)
      (fun C d M3 B3 H3 x e3 S3 => hR.x C d ρ M3 σ B3 H3 x ((e1.trans e2).trans e3) (hR.r.mono ((e1.trans e2).trans e3)) S3)
/-- a new instance -/
theorem sep_make {F : PySem.W.Frag} {B H : Hp} {M : MH} {x dx C : Addr} (S : Sep F B M H) (h1 : H x = none) (h2 : H dx = none) (hne : dx ≠ x) : Sep F (upd B dx (.own x)) (um M x (.ins C dx [])) (upd (upd H dx (.own x)) x (.ins C dx [])) :=
  (S.alloc h2).new (by rw [upd_ne hne.symm]; exact h1) ⟨[], rfl, .nil⟩
theorem w_make {C : Addr} {A : ASp} {E : XK} {t : TA} (h : WA K t ρ M fun ss M1 => ∀ x dx, M1 x = none → A (.raw (.ref x) :: ss) (um M1 x (.ins C dx [])) fun s M2 => s = .non ∧ Q (.raw (.ref x)) M2) : W K (tMake C (conc K.K A) [] E t) ρ M Q := fun σ B H hR hS Q0 k =>
  h σ B H hR hS _ fun ss vs M1 B1 H1 q e1 S1 o1 x dx hx hdx hne =>
    have e2 : Same B1 (upd B1 dx (.own x)) := same_new (S1.freeB hdx)
    ⟨_, _, _, _, sep_make S1 hx hdx hne, by rw [List.append_nil]; exact .cons rfl (o1.mono e2), q x dx (S1.freeM hx), fun s v M2 B2 H2 ⟨es, q2⟩ e3 S2 o2 => by
      subst es
      exact ⟨of_non o2, k _ _ M2 B2 H2 q2 ((e1.trans e2).trans e3) S2 slok_ref⟩⟩
theorem w_makeX {C : Addr} {A : ASpX} {t : TA} (h : WA K t ρ M fun ss M1 => ∀ x dx, M1 x = none → A (.raw (.ref x) :: ss) (um M1 x (.ins C dx [])) (fun s M2 => s = .non ∧ Q (.raw (.ref x)) M2) fun C d M3 => K.X C d ρ M3) : W K (tMakeD C (concX K.K A) [] (WE K.W) t) ρ M Q := fun σ B H hR hS Q0 k =>
  h σ B H hR hS _ fun ss vs M1 B1 H1 q e1 S1 o1 x dx hx hdx hne =>
    have e2 : Same B1 (upd B1 dx (.own x)) := same_new (S1.freeB hdx)
    conc_x (sep_make S1 hx hdx hne) (by rw [List.append_nil]; exact .cons rfl (o1.mono e2)) (q x dx (S1.freeM hx)) (fun s v M2 B2 H2 ⟨es, q2⟩ e3 S2 o2 => by
      subst es
      exact ⟨of_non o2, k _ _ M2 B2 H2 q2 ((e1.trans e2).trans e3) S2 slok_ref⟩) (fun C d M3 B3 H3 x e3 S3 => hR.x C d ρ M3 σ B3 H3 x ((e1.trans e2).trans e3) (hR.r.mono ((e1.trans e2).trans e3)) S3)
/-! ### raise, try -/
theorem ws_raise {C : Value} (h : K.X C none ρ M) : WS K (fun _ σ H => K.W C none σ H) ρ M P := fun σ B H D hR hS _ _ _ _ => hR.x C none ρ M σ B H h (Same.refl B) hR.r hS
theorem ws_tryOnly {c : Value} {tb : WX → TS} {ts : Addr → Value → Option Addr → TS} (X : Value → Option Addr → Rho → MH → Prop) (hb : ∀ W, WS ⟨K.K, W, X⟩ (tb W) ρ M ⟨nx, rt, bk, ct⟩)
    (hx : ∀ C d ρ' M', X C d ρ' M' → ∃ b, PySem.W.exmOne K.K C c = some b ∧ (b = true → ∀ a, WS K (ts a C d) ρ' M' ⟨nx, rt, bk, ct⟩) ∧ (b = false → K.X C d ρ' M')) :
    WS K (fun D σ H => tb (wOnly K.K c ts K.W D) D σ H) ρ M ⟨nx, rt, bk, ct⟩ := fun σ B H D hR hS p1 p2 p3 p4 => by
  refine hb _ σ B H D ⟨hR.r, fun C d ρ' M' σ' B' H' x e r S => ?_⟩ hS (fun ρ2 M2 σ2 B2 H2 q e2 R2 S2 => p1 ρ2 M2 σ2 B2 H2 q e2 ⟨R2.r, (hR.mono e2).x⟩ S2) p2 (fun ρ2 M2 σ2 B2 H2 q e2 R2 S2 => p3 ρ2 M2 σ2 B2 H2 q e2 ⟨R2.r, (hR.mono e2).x⟩ S2) (fun ρ2 M2 σ2 B2 H2 q e2 R2 S2 => p4 ρ2 M2 σ2 B2 H2 q e2 ⟨R2.r, (hR.mono e2).x⟩ S2)
  obtain ⟨b, h1, h2, h3⟩ := hx C d ρ' M' x
  refine ⟨b, h1, fun e1 a _ => ?_, fun e1 => hR.x C d ρ' M' σ' B' H' (h3 e1) e r S⟩
  exact h2 e1 a σ' B' H' D ⟨r, (hR.mono e).x⟩ S (fun ρ2 M2 σ2 B2 H2 q e2 => p1 ρ2 M2 σ2 B2 H2 q (e.trans e2)) (fun s v M2 B2 H2 q e2 => p2 s v M2 B2 H2 q (e.trans e2)) (fun ρ2 M2 σ2 B2 H2 q e2 => p3 ρ2 M2 σ2 B2 H2 q (e.trans e2)) (fun ρ2 M2 σ2 B2 H2 q e2 => p4 ρ2 M2 σ2 B2 H2 q (e.trans e2))
end
/-! ### a def that may raise -/
theorem ab_okX {K : PySem.W.Frag} {P : Program} {w : World} {mg : Str → Option Value} {base : Heap} {x qual : Str} {st : Stmt} {f : Addr} {fd : FuncData} {N ps : List Str} {k : Nat} {A : ASpX} (F : Fun K x qual st f fd) (S : FnScope N ps (defScope st))
    (hlen : ∀ ss M Q X, A ss M Q X → ss.length = ps.length)
    (hb : ∀ (cdv : Value) (Ar : Around) (outer : List Env) (s : Shared) (H : Hp) (E : XK), Room k (Ar.deeper (envOfC qual (defScope st) s.heap.objs.size f cdv)) →
      ∃ t, PSs (cxOf (L2.CX P w) P w K mg base N qual (defScope st) f cdv Ar outer s H E) (defBody st) t ∧
        ∀ ss M Q X, A ss M Q X → WS ⟨K, fun cls d _ H => E cls d H, fun C d _ M' => X C d M'⟩ t (rho0 N.length ss) M ⟨fun _ M' => Q .non M', Q, NoR, NoR⟩) :
    FnOk P w K mg base (L2.CX P w) (k + 1) f fd ps (concX K A) := by
  refine F.okX S (fun vs H Q E h => ?_) (fun cdv Ar outer s H vs Q E hr h => ?_)
  · obtain ⟨B, M, ss, QA, XA, hS, hv, ha, _⟩ := h
    rw [SlAll.len hv]
    exact hlen ss M QA XA ha
  · obtain ⟨B, M, ss, QA, XA, hS, hv, ha, hq, hxx⟩ := h
    obtain ⟨t, ht, hw⟩ := hb cdv Ar outer s H E hr
    refine ⟨t, ht, ?_⟩
    have hR : Rl0 K B (L2.start N vs) (rho0 N.length ss) := by
      unfold L2.start rho0
      rw [SlAll.len hv]
      exact rl_start _ hv
    exact hw ss M QA XA ha (L2.start N vs) B H ⟨fun _ H' => Q .non H', Q, _, _⟩ ⟨hR, fun C d _ M' _ B' H' q e _ S' => hxx C d M' B' H' q e S'⟩ hS (fun ρ' M' σ' B' H' q e _ S' => hq .non .non M' B' H' q e S' slok_non) (fun s v M' B' H' q e S' o => hq s v M' B' H' q e S' o) (fun _ _ _ _ _ z => z.elim) (fun _ _ _ _ _ z => z.elim)
end Ab

set_option Elab.async false
set_option linter.all false
set_option maxRecDepth 100000
set_option  maxHeartbeats 4000000
/-! Ab10: dicts (keys ints and texts) that change, that are walked, that nobody changes; tuples and lists of anything that nobody changes. -/
namespace Ab
open PySem PySem.Spec PyProof.Rows L2
/-! ### what stands in a dict -/
section
variable {κ β γ : Type} [DecidableEq κ]
def valG (kvs : List (κ × β)) (k : κ) : Option β := (kvs.find? fun kv => decide (kv.1 = k)).map (·.2)
def putG (kvs : List (κ × β)) (k : κ) (v : β) : List (κ × β) := if (kvs.any fun kv => decide (kv.1 = k)) = true then kvs.map (fun kv => if kv.1 = k then (kv.1, v) else kv) else kvs ++ [(k, v)]
def dropG (kvs : List (κ × β)) (k : κ) : List (κ × β) := kvs.filter fun kv => decide (kv.1 ≠ k)
def mergeG (kvs more : List (κ × β)) : List (κ × β) := more.foldl (fun acc kv => putG acc kv.1 kv.2) kvs
theorem valG_cons (k g : κ) (v : β) (r : List (κ × β)) : valG ((g, v) :: r) k = if g = k then some v else valG r k := by
  unfold valG
  rw [List.find?_cons]
  by_cases e : g = k <;> simp [e]
theorem valG_put (kvs : List (κ × β)) (k g : κ) (v : β) : valG (putG kvs k v) g = if k = g then some v else valG kvs g := by
  have key : ∀ l : List (κ × β), valG (l.map fun kv => if kv.1 = k then (kv.1, v) else kv) g = if k = g ∧ (l.any fun kv => decide (kv.1 = k)) = true then some v else valG l g := by
    intro l
    induction l with
    | nil => simp [valG]
    | cons p r ih =>
      obtain ⟨a, x⟩ := p
      rw [List.map_cons]
      by_cases e : a = k
      · subst e
        rw [if_pos rfl, valG_cons, ih, valG_cons]
        by_cases e2 : a = g <;> simp [e2]
      · rw [if_neg e, valG_cons, ih, valG_cons]
        by_cases e2 : a = g
        · subst e2
          have : ¬ k = a := fun q => e q.symm
          simp [this]
        · have ek : decide (a = k) = false := decide_eq_false e
          rw [List.any_cons, ek, Bool.false_or, if_neg e2, if_neg e2]
  have app : ∀ l : List (κ × β), (l.any fun kv => decide (kv.1 = k)) = false → valG (l ++ [(k, v)]) g = if k = g then some v else valG l g := by
    intro l
    induction l with
    | nil => intro _; rw [List.nil_append, valG_cons]
    | cons p r ih =>
      obtain ⟨a, x⟩ := p
      intro h
      rw [List.any_cons, Bool.or_eq_false_iff] at h
      have e : ¬ a = k := of_decide_eq_false h.1
      rw [List.cons_append, valG_cons, ih h.2, valG_cons]
      by_cases e2 : a = g
      · subst e2
        have : ¬ k = a := fun q => e q.symm
        simp [this]
      · simp [e2]
  unfold putG
  cases h : kvs.any fun kv => decide (kv.1 = k) with
  | true => rw [if_pos rfl, key, h]; simp
  | false => rw [if_neg Bool.false_ne_true, app kvs h]
theorem any_mapG (f : β → γ) (k : κ) : ∀ kvs : List (κ × β), ((kvs.map fun p => (p.1, f p.2)).any fun kv => decide (kv.1 = k)) = kvs.any fun kv => decide (kv.1 = k)
  | [] => rfl
  | p :: r => by rw [List.map_cons, List.any_cons, List.any_cons, any_mapG f k r]
theorem valG_map (f : β → γ) (k : κ) : ∀ kvs : List (κ × β), valG (kvs.map fun p => (p.1, f p.2)) k = (valG kvs k).map f
  | [] => rfl
  | (a, x) :: r => by
    rw [List.map_cons, valG_cons, valG_cons, valG_map f k r]
    by_cases e : a = k <;> simp [e]
theorem putG_map (f : β → γ) (k : κ) (v : β) (kvs : List (κ × β)) : putG (kvs.map fun p => (p.1, f p.2)) k (f v) = (putG kvs k v).map fun p => (p.1, f p.2) := by
  unfold putG
  rw [any_mapG]
  cases h : kvs.any fun kv => decide (kv.1 = k) with
  | true =>
    rw [if_pos rfl, if_pos rfl, List.map_map, List.map_map]
    refine List.map_congr_left fun p _ => ?_
    show (if p.1 = k then (p.1, f v) else (p.1, f p.2)) = (((if p.1 = k then (p.1, v) else p) : κ × β).1, f ((if p.1 = k then (p.1, v) else p) : κ × β).2)
    by_cases e : p.1 = k
    · rw [if_pos e, if_pos e]
    · rw [if_neg e, if_neg e]
  | false => rw [if_neg Bool.false_ne_true, if_neg Bool.false_ne_true, List.map_append]; rfl
end
section
variable {F : PySem.W.Frag} {B : Hp}
theorem slks_any {k : Key} : ∀ {vs : List (Key × V)} {kvs : List (Key × Sl)}, SlKs F B vs kvs → (vs.any fun kv => decide (kv.1 = k)) = kvs.any fun kv => decide (kv.1 = k)
  | _, _, .nil => rfl
  | _, _, .cons ⟨h, _⟩ t => by rw [List.any_cons, List.any_cons, slks_any t, h]
theorem slks_val {k : Key} : ∀ {vs : List (Key × V)} {kvs : List (Key × Sl)}, SlKs F B vs kvs → (∀ s, valG kvs k = some s → ∃ v, valV vs k = some v ∧ SlOk F B v s) ∧ (valG kvs k = none → valV vs k = none)
  | _, _, .nil => ⟨fun _ e => (nomatch e), fun _ => rfl⟩
  | (g, v) :: vs, (g', s') :: kvs, .cons ⟨h1, h2⟩ t => by
    cases h1
    obtain ⟨i1, i2⟩ := slks_val (k := k) t
    rw [valG_cons]
    by_cases e : g = k
    · rw [if_pos e, valV_pos e]
      exact ⟨fun s q => (by cases q; exact ⟨v, rfl, h2⟩), fun q => nomatch q⟩
    · rw [if_neg e, valV_neg e]
      exact ⟨i1, i2⟩
theorem slks_app {κ : Type} : ∀ {vs ws : List (κ × V)} {kvs lws : List (κ × Sl)}, SlKs F B vs kvs → SlKs F B ws lws → SlKs F B (vs ++ ws) (kvs ++ lws)
  | _, _, _, _, .nil, h => h
  | _, _, _, _, .cons h t, h' => .cons h (slks_app t h')
theorem slks_in {k : Key} {v : V} {s : Sl} (o : SlOk F B v s) : ∀ {vs : List (Key × V)} {kvs : List (Key × Sl)}, SlKs F B vs kvs → SlKs F B (vs.map fun kv => if kv.1 = k then (kv.1, v) else kv) (kvs.map fun kv => if kv.1 = k then (kv.1, s) else kv)
  | _, _, .nil => .nil
  | (g, x) :: vs, (g', y) :: kvs, .cons ⟨h1, h2⟩ t => by
    cases h1
    rw [List.map_cons, List.map_cons]
    refine .cons ?_ (slks_in o t)
    by_cases e : g = k
    · rw [if_pos e, if_pos e]; exact ⟨rfl, o⟩
    · rw [if_neg e, if_neg e]; exact ⟨rfl, h2⟩
theorem slks_putK {k : Key} {v : V} {s : Sl} (o : SlOk F B v s) {vs : List (Key × V)} {kvs : List (Key × Sl)} (h : SlKs F B vs kvs) : SlKs F B (putK vs k v) (putG kvs k s) := by
  unfold putK putG
  rw [slks_any h]
  split
  · exact slks_in o h
  · exact slks_app h (.cons ⟨rfl, o⟩ .nil)
theorem slks_drop {k : Key} : ∀ {vs : List (Key × V)} {kvs : List (Key × Sl)}, SlKs F B vs kvs → SlKs F B (dropK vs k) (dropG kvs k)
  | _, _, .nil => .nil
  | p :: ps, q :: qs, .cons h t => by
    have ih := slks_drop (k := k) t
    unfold dropK dropG at ih ⊢
    rw [List.filter_cons, List.filter_cons, h.1]
    split
    · exact .cons h ih
    · exact ih
theorem slks_merge : ∀ {ws : List (Key × V)} {lws : List (Key × Sl)}, SlKs F B ws lws → ∀ {vs : List (Key × V)} {kvs : List (Key × Sl)}, SlKs F B vs kvs → SlKs F B (mergeK vs ws) (mergeG kvs lws)
  | _, _, .nil, _, _, h => h
  | p :: ps, q :: qs, .cons h t, vs, kvs, h' => by
    show SlKs F B (mergeK (putK vs p.1 p.2) ps) (mergeG (putG kvs q.1 q.2) qs)
    refine slks_merge t ?_
    rw [h.1]
    exact slks_putK h.2 h'
end
def kS : Key → Sl
  | .inl i => .int i
  | .inr x => .str x
theorem of_kS {F : PySem.W.Frag} {B : Hp} {v : V} : ∀ {k : Key}, SlOk F B v (kS k) → v = kV k
  | .inl _, h => of_int h
  | .inr _, h => of_str h
/-! ### what nobody changes any more -/
def dicS (F : PySem.W.Frag) (kvs : List (Key × Sl)) : Sl := .abs (fun B v => ∃ a vs, v = .ref a ∧ Rd B a (.dK vs) ∧ SlKs F B vs kvs) fun _ _ _ e ⟨a, vs, h1, h2, h3⟩ => ⟨a, vs, h1, same_rd e h2, Paired.mapP h3 fun _ _ q => ⟨q.1, q.2.mono e⟩⟩
/-- a dict: one that changes, one that is walked, one that nobody changes -/
def DcV (F : PySem.W.Frag) (s : Sl) (M : MH) (kvs : List (Key × Sl)) : Prop := (∃ a, s = .raw (.ref a) ∧ (M a = some (.dK kvs) ∨ ∃ ob, M a = some (.frz ob (.dK kvs)))) ∨ s = dicS F kvs
theorem dcv_ref {F : PySem.W.Frag} {a : Addr} {M : MH} {kvs : List (Key × Sl)} (h : M a = some (.dK kvs)) : DcV F (.raw (.ref a)) M kvs := .inl ⟨a, rfl, .inl h⟩
theorem dcv_frz {F : PySem.W.Frag} {a : Addr} {ob : Obj} {M : MH} {kvs : List (Key × Sl)} (h : M a = some (.frz ob (.dK kvs))) : DcV F (.raw (.ref a)) M kvs := .inl ⟨a, rfl, .inr ⟨ob, h⟩⟩
theorem DcV.get {F : PySem.W.Frag} {s : Sl} {M : MH} {kvs : List (Key × Sl)} {B H : Hp} {v : V} (h : DcV F s M kvs) (S : Sep F B M H) (o : SlOk F B v s) : ∃ a vs, v = .ref a ∧ Rd H a (.dK vs) ∧ SlKs F B vs kvs := by
  rcases h with ⟨a, rfl, h | ⟨ob, h⟩⟩ | rfl
  · obtain ⟨_, u, hu, vs, rfl, hv⟩ := S.has a _ h
    exact ⟨a, vs, o, .inl hu, hv⟩
  · obtain ⟨_, u, hu, w, rfl, vs, rfl, hv⟩ := S.has a _ h
    exact ⟨a, vs, o, .inr ⟨ob, hu⟩, hv⟩
  · obtain ⟨a, vs, e, h1, h2⟩ := (show ∃ a vs, v = .ref a ∧ Rd B a (.dK vs) ∧ SlKs F B vs kvs from o)
    exact ⟨a, vs, e, same_rd S.sub h1, h2⟩
section
variable {K : KX} {ρ : Rho} {M : MH} {Q Q' : Sl → MH → Prop} {ta tb te tc td ty tx tv : TE} {P : AE} {nx bk ct : Rho → MH → Prop} {rt : Sl → MH → Prop}
theorem isD_of {H : Hp} {a : Addr} {vs : List (Key × V)} (h : Rd H a (.dK vs)) : IsD H a := .inl ⟨vs, h⟩
theorem w_dnew (q : ∀ p, M p = none → Q (.raw (.ref p)) (um M p (.dK []))) : W K tDNewK ρ M Q := fun σ B H hR hS Q0 k p hp => k _ _ _ B _ (q p (hS.freeM hp)) (Same.refl B) (hS.new hp ⟨[], rfl, .nil⟩) slok_ref
/-- d[k] -/
theorem w_dget (h : W K td ρ M fun s M1 => W K ty ρ M1 fun y M2 => ∃ kvs k x, DcV K.K s M2 kvs ∧ y = kS k ∧ valG kvs k = some x ∧ Q x M2) : W K (tDGet td ty) ρ M Q := fun σ B H hR hS Q0 q0 =>
  h σ B H hR hS _ fun s v M1 B1 H1 h1 e1 S1 o1 => h1 σ B1 H1 (hR.mono e1) S1 _ fun y w M2 B2 H2 ⟨kvs, k, x, hd, ey, hv, q⟩ e2 S2 o2 => by
    subst ey
    obtain ⟨a, vs, rfl, hr, hk⟩ := hd.get S2 (o1.mono e2)
    obtain ⟨z, hz, oz⟩ := (slks_val hk).1 _ hv
    exact ⟨a, z, rfl, .inl ⟨vs, k, hr, of_kS o2, hz.symm⟩, q0 x z M2 B2 H2 q (e1.trans e2) S2 oz⟩
/-- k in d -/
theorem w_din (h : W K ty ρ M fun y M1 => W K td ρ M1 fun s M2 => ∃ kvs k, DcV K.K s M2 kvs ∧ y = kS k ∧ Q (.bl (valG kvs k).isSome) M2) : W K (tDIn ty td) ρ M Q := fun σ B H hR hS Q0 q0 =>
  h σ B H hR hS _ fun y w M1 B1 H1 h1 e1 S1 o1 => h1 σ B1 H1 (hR.mono e1) S1 _ fun s v M2 B2 H2 ⟨kvs, k, hd, ey, q⟩ e2 S2 o2 => by
    subst ey
    obtain ⟨a, vs, rfl, hr, hk⟩ := hd.get S2 o2
    obtain ⟨i1, i2⟩ := slks_val (k := k) hk
    have e : (valV vs k).isSome = (valG kvs k).isSome := by
      cases hv : valG kvs k with
      | none => rw [i2 hv]; rfl
      | some s => obtain ⟨z, hz, _⟩ := i1 s hv; rw [hz]; rfl
    exact ⟨a, valV vs k, rfl, .inl ⟨vs, k, hr, of_kS (o1.mono e2), rfl⟩, by rw [e]; exact q0 _ _ M2 B2 H2 q (e1.trans e2) S2 slok_bl⟩
theorem w_dnotIn (h : W K ty ρ M fun y M1 => W K td ρ M1 fun s M2 => ∃ kvs k, DcV K.K s M2 kvs ∧ y = kS k ∧ Q (.bl (!(valG kvs k).isSome)) M2) : W K (tDNotIn ty td) ρ M Q := fun σ B H hR hS Q0 q0 =>
  h σ B H hR hS _ fun y w M1 B1 H1 h1 e1 S1 o1 => h1 σ B1 H1 (hR.mono e1) S1 _ fun s v M2 B2 H2 ⟨kvs, k, hd, ey, q⟩ e2 S2 o2 => by
    subst ey
    obtain ⟨a, vs, rfl, hr, hk⟩ := hd.get S2 o2
    obtain ⟨i1, i2⟩ := slks_val (k := k) hk
    have e : (valV vs k).isSome = (valG kvs k).isSome := by
      cases hv : valG kvs k with
      | none => rw [i2 hv]; rfl
      | some s => obtain ⟨z, hz, _⟩ := i1 s hv; rw [hz]; rfl
    exact ⟨a, valV vs k, rfl, .inl ⟨vs, k, hr, of_kS (o1.mono e2), rfl⟩, by rw [e]; exact q0 _ _ M2 B2 H2 q (e1.trans e2) S2 slok_bl⟩
/-- d.get(k, x) -/
theorem w_dget2 (h : W K td ρ M fun s M1 => (∃ kvs, DcV K.K s M1 kvs) ∧ W K ty ρ M1 fun y M2 => W K tx ρ M2 fun z M3 => ∃ kvs k, DcV K.K s M3 kvs ∧ y = kS k ∧ Q ((valG kvs k).getD z) M3) : W K (tDGet2 td ty tx) ρ M Q := fun σ B H hR hS Q0 q0 =>
  h σ B H hR hS _ fun s v M1 B1 H1 ⟨⟨kvs0, hd0⟩, h1⟩ e1 S1 o1 => by
    obtain ⟨a, vs0, rfl, hr0, _⟩ := hd0.get S1 o1
    refine ⟨a, rfl, isD_of hr0, h1 σ B1 H1 (hR.mono e1) S1 _ fun y w M2 B2 H2 h2 e2 S2 o2 => h2 σ B2 H2 (hR.mono (e1.trans e2)) S2 _ fun z u M3 B3 H3 ⟨kvs, k, hd, ey, q⟩ e3 S3 o3 => ?_⟩
    subst ey
    obtain ⟨a', vs, ea, hr, hk⟩ := hd.get S3 (o1.mono (e2.trans e3))
    cases ea
    refine ⟨valV vs k, .inl ⟨vs, k, hr, of_kS (o2.mono e3), rfl⟩, ?_⟩
    obtain ⟨i1, i2⟩ := slks_val (k := k) hk
    cases hv : valG kvs k with
    | none => rw [hv] at q; rw [i2 hv]; exact q0 z u M3 B3 H3 q ((e1.trans e2).trans e3) S3 o3
    | some s => rw [hv] at q; obtain ⟨t, ht, ot⟩ := i1 s hv; rw [ht]; exact q0 s t M3 B3 H3 q ((e1.trans e2).trans e3) S3 ot
/-- d[k] = v -/
theorem ws_dput (h : W K tv ρ M fun s M1 => W K td ρ M1 fun o M2 => W K ty ρ M2 fun y M3 => ∃ a kvs k, o = .raw (.ref a) ∧ y = kS k ∧ M3 a = some (.dK kvs) ∧ kvs.length < 100000 ∧ nx ρ (um M3 a (.dK (putG kvs k s)))) : WS K (sDPut td ty tv) ρ M ⟨nx, rt, bk, ct⟩ := fun σ B H D hR hS p1 p2 p3 p4 =>
  h σ B H hR hS _ fun s v M1 B1 H1 h1 e1 S1 o1 => h1 σ B1 H1 (hR.mono e1) S1 _ fun o w M2 B2 H2 h2 e2 S2 o2 => h2 σ B2 H2 (hR.mono (e1.trans e2)) S2 _ fun y u M3 B3 H3 ⟨a, kvs, k, eo, ey, hM, hl, q⟩ e3 S3 o3 => by
    subst eo ey
    have ew : w = .ref a := o2
    subst ew
    obtain ⟨_, t, ht, vs, rfl, hv⟩ := S3.has a _ hM
    refine ⟨a, _, rfl, .inl ⟨vs, k, ht, of_kS o3, by rw [Paired.length hv]; exact Nat.lt_of_lt_of_le hl (show 100000 ≤ sizeLine by decide), rfl⟩, ?_⟩
    exact p1 ρ _ σ B3 _ q ((e1.trans e2).trans e3) (hR.mono ((e1.trans e2).trans e3)) (S3.put hM ⟨_, rfl, slks_putK (o1.mono (e2.trans e3)) hv⟩)
/-- d.setdefault(k, x) -/
theorem w_dsetd (h : W K td ρ M fun s M1 => ∃ a, s = .raw (.ref a) ∧ (∃ kvs, M1 a = some (.dK kvs)) ∧ W K ty ρ M1 fun y M2 => W K tx ρ M2 fun z M3 => ∃ kvs k, M3 a = some (.dK kvs) ∧ y = kS k ∧ kvs.length < 100000 ∧
    (∀ x, valG kvs k = some x → Q x M3) ∧ (valG kvs k = none → Q z (um M3 a (.dK (putG kvs k z))))) : W K (tDSetd td ty tx) ρ M Q := fun σ B H hR hS Q0 q0 =>
  h σ B H hR hS _ fun s v M1 B1 H1 ⟨a, es, ⟨kvs0, hM0⟩, h1⟩ e1 S1 o1 => by
    subst es
    have ev : v = .ref a := o1
    subst ev
    obtain ⟨_, t0, ht0, vs0, rfl, _⟩ := S1.has a _ hM0
    refine ⟨a, rfl, isD_of (.inl ht0), h1 σ B1 H1 (hR.mono e1) S1 _ fun y w M2 B2 H2 h2 e2 S2 o2 => h2 σ B2 H2 (hR.mono (e1.trans e2)) S2 _ fun z u M3 B3 H3 ⟨kvs, k, hM, ey, hl, q1, q2⟩ e3 S3 o3 => ?_⟩
    subst ey
    obtain ⟨_, t, ht, vs, rfl, hv⟩ := S3.has a _ hM
    obtain ⟨i1, i2⟩ := slks_val (k := k) hv
    have e13 := (e1.trans e2).trans e3
    refine ⟨vs, k, ht, of_kS (o2.mono e3), by rw [Paired.length hv]; exact Nat.lt_of_lt_of_le hl (show 100000 ≤ sizeLine by decide), fun x hx => ?_, fun hn => ?_⟩
    · cases hg : valG kvs k with
      | none => rw [i2 hg] at hx; cases hx
      | some s =>
        obtain ⟨x', hx', ox⟩ := i1 s hg
        rw [hx] at hx'
        cases hx'
        exact q0 s x M3 B3 H3 (q1 s hg) e13 S3 ox
    · cases hg : valG kvs k with
      | none => exact q0 z u _ B3 _ (q2 hg) e13 (S3.put hM ⟨_, rfl, slks_putK o3 hv⟩) o3
      | some s => obtain ⟨x', hx', _⟩ := i1 s hg; rw [hn] at hx'; cases hx'
/-- d.pop(k, x) -/
theorem w_dpop2 (h : W K td ρ M fun s M1 => ∃ a, s = .raw (.ref a) ∧ (∃ kvs, M1 a = some (.dK kvs)) ∧ W K ty ρ M1 fun y M2 => W K tx ρ M2 fun z M3 => ∃ kvs k, M3 a = some (.dK kvs) ∧ y = kS k ∧
    (∀ x, valG kvs k = some x → Q x (um M3 a (.dK (dropG kvs k)))) ∧ (valG kvs k = none → Q z M3)) : W K (tDPop2 td ty tx) ρ M Q := fun σ B H hR hS Q0 q0 =>
  h σ B H hR hS _ fun s v M1 B1 H1 ⟨a, es, ⟨kvs0, hM0⟩, h1⟩ e1 S1 o1 => by
    subst es
    have ev : v = .ref a := o1
    subst ev
    obtain ⟨_, t0, ht0, vs0, rfl, _⟩ := S1.has a _ hM0
    refine ⟨a, rfl, isD_of (.inl ht0), h1 σ B1 H1 (hR.mono e1) S1 _ fun y w M2 B2 H2 h2 e2 S2 o2 => h2 σ B2 H2 (hR.mono (e1.trans e2)) S2 _ fun z u M3 B3 H3 ⟨kvs, k, hM, ey, q1, q2⟩ e3 S3 o3 => ?_⟩
    subst ey
    obtain ⟨_, t, ht, vs, rfl, hv⟩ := S3.has a _ hM
    obtain ⟨i1, i2⟩ := slks_val (k := k) hv
    have e13 := (e1.trans e2).trans e3
    refine ⟨vs, k, ht, of_kS (o2.mono e3), fun x hx => ?_, fun hn => ?_⟩
    · cases hg : valG kvs k with
      | none => rw [i2 hg] at hx; cases hx
      | some s =>
        obtain ⟨x', hx', ox⟩ := i1 s hg
        rw [hx] at hx'
        cases hx'
        exact q0 s x _ B3 _ (q1 s hg) e13 (S3.put hM ⟨_, rfl, slks_drop hv⟩) ox
    · cases hg : valG kvs k with
      | none => exact q0 z u M3 B3 H3 (q2 hg) e13 S3 o3
      | some s => obtain ⟨x', hx', _⟩ := i1 s hg; rw [hn] at hx'; cases hx'
/-- {k: v, ..} -/
def WPs (K : KX) (trs : List (TE × TE)) (ρ : Rho) (M : MH) (Q : List (Sl × Sl) → MH → Prop) : Prop :=
  ∀ σ B H, Rl K B σ ρ → Sep K B M H → ∀ Q0 : List (V × V) → Hp → Prop, (∀ ss vs M' B' H', Q ss M' → Same B B' → Sep K B' M' H' → Paired (fun p q => SlOk K B' p.1 q.1 ∧ SlOk K B' p.2 q.2) vs ss → Q0 vs H') → tPairs trs σ H Q0
theorem wps_nil {Q : List (Sl × Sl) → MH → Prop} (q : Q [] M) : WPs K [] ρ M Q := fun σ B H hR hS Q0 k => k [] [] M B H q (Same.refl B) hS .nil
theorem wps_cons {trs : List (TE × TE)} {Q : List (Sl × Sl) → MH → Prop} (h : W K ta ρ M fun x M1 => W K tb ρ M1 fun y M2 => WPs K trs ρ M2 fun ps M3 => Q ((x, y) :: ps) M3) : WPs K ((ta, tb) :: trs) ρ M Q := fun σ B H hR hS Q0 k =>
  h σ B H hR hS _ fun x v M1 B1 H1 h1 e1 S1 o1 => h1 σ B1 H1 (hR.mono e1) S1 _ fun y w M2 B2 H2 h2 e2 S2 o2 => h2 σ B2 H2 (hR.mono (e1.trans e2)) S2 _ fun ss vs M3 B3 H3 q e3 S3 o3 =>
    k _ _ M3 B3 H3 q ((e1.trans e2).trans e3) S3 (.cons ⟨o1.mono (e2.trans e3), o2.mono e3⟩ o3)
theorem pairs_keys {F : PySem.W.Frag} {B : Hp} : ∀ {vs : List (V × V)} {ps : List (Key × Sl)}, Paired (fun p q => SlOk F B p.1 q.1 ∧ SlOk F B p.2 q.2) vs (ps.map fun p => (kS p.1, p.2)) → ∃ ws : List (Key × V), vs = ws.map (fun kv => (kV kv.1, kv.2)) ∧ SlKs F B ws ps
  | _, [], .nil => ⟨[], rfl, .nil⟩
  | (a, b) :: vs, (k, s) :: ps, .cons ⟨h1, h2⟩ t => by
    obtain ⟨ws, rfl, hw⟩ := pairs_keys t
    have e : a = kV k := of_kS h1
    subst e
    exact ⟨(k, b) :: ws, rfl, .cons ⟨rfl, h2⟩ hw⟩
theorem w_disp {trs : List (TE × TE)} (h : ∀ p, M p = none → WPs K trs ρ (um M p (.dK [])) fun ss M1 => M1 p = some (.dK []) ∧ ∃ ps : List (Key × Sl), ss = ps.map (fun p => (kS p.1, p.2)) ∧ ps.length ≤ 15 ∧ Q (.raw (.ref p)) (um M1 p (.dK (mergeG [] ps)))) : W K (tDisp trs) ρ M Q := fun σ B H hR hS Q0 k p hp =>
  h p (hS.freeM hp) σ B _ hR (hS.new hp ⟨[], rfl, .nil⟩) _ fun ss vs M1 B1 H1 ⟨hM, ps, es, hl, q⟩ e1 S1 o1 => by
    subst es
    obtain ⟨ws, rfl, hw⟩ := pairs_keys o1
    obtain ⟨_, t, ht, vs, rfl, hv⟩ := S1.has p _ hM
    cases hv
    exact ⟨ht, ws, rfl, by rw [Paired.length hw]; exact hl, k _ _ _ B1 _ q e1 (S1.put hM ⟨_, rfl, slks_merge hw .nil⟩) slok_ref⟩
end
end Ab

set_option Elab.async false
set_option linter.all false
set_option maxRecDepth 100000
set_option  maxHeartbeats 4000000
/-! Ab11: d.update(e), augmented stores in dicts and fields, zip, comprehensions with any target. -/
namespace L2
open PySem PySem.Spec PyProof.Rows
/-- d.update(e), e a dict -/
def rUpdate : V → List V → Hp → VK → Prop := fun x xs H Q => ∃ (d o : Addr) (kvs more : List (Key × V)), x = .ref d ∧ xs = [.ref o] ∧ d ≠ o ∧ H d = some (.dK kvs) ∧ Rd H o (.dK more) ∧ kvs.length + more.length ≤ sizeLine ∧ Q .non (upd H d (.dK (mergeK kvs more)))
theorem len_mergeK : ∀ (more kvs : List (Key × V)), (mergeK kvs more).length ≤ kvs.length + more.length
  | [], _ => Nat.le_refl _
  | p :: more, kvs => by
    have h1 := len_mergeK more (putK kvs p.1 p.2)
    have h2 := length_putK kvs p.1 p.2
    show (mergeK (putK kvs p.1 p.2) more).length ≤ _
    rw [List.length_cons]
    omega
theorem mt_update {X : Cx} : MtR X "dict.update" rUpdate := fun pins s σ H x xs v us Q I rx rv ⟨d, o, kvs, more, e1, e2, hne, hd, ho, hz, q⟩ => by
  subst e1 e2
  cases rx
  obtain ⟨u, rfl, ru⟩ := vals1 rv
  cases ru
  obtain ⟨z1, _, vs, kv, dd⟩ := dk_of I.hok hd
  obtain ⟨z2, n2, ws, kw, dw⟩ := dk_rd I.hok ho
  refine call_meetsIn PySem.F.slot_dict_update dd.typeIs PySem.F.entry_dict_update (PySem.F.args_dict_update_2 _ _) (meets_dict_update (mixKind X.prog X.w) d o hne n2) ⟨vs, ws, dd, dw, by rw [← kv.length, ← kw.length]; exact hz, fun h' dd' _ hs => ?_⟩
  have has : ∃ q, h'.get? d = some q := let ⟨q, _, _, hq, _⟩ := dd'; ⟨q, hq⟩
  exact ⟨.non, _, d_write (t' := s.toks) I (by rw [hd]; exact True.intro) hs has (dk_new (Nat.le_trans (len_mergeK more kvs) hz) (dk_of I.hok hd).2.1 (KV.merge kw kv) dd'), rfl, q⟩
end L2
namespace Ab
open PySem PySem.Spec PyProof.Rows L2
/-- a tuple of anything that nobody changes -/
def tupS (F : PySem.W.Frag) (xs : List Sl) : Sl := .abs (fun B v => ∃ a vs, v = .ref a ∧ SqT F B a vs ∧ SlAll F B vs xs) fun _ _ _ e ⟨a, vs, h1, h2, h3⟩ => ⟨a, vs, h1, same_t e h2, h3.mono e⟩
section
variable {K : KX} {ρ : Rho} {M : MH} {Q Q' : Sl → MH → Prop} {ta tb te tc td ty tx tv : TE} {P : AE} {nx bk ct : Rho → MH → Prop} {rt : Sl → MH → Prop}
theorem wm_update {F : PySem.W.Frag} {M : MH} {a : Addr} {s : Sl} {kvs more : List (Key × Sl)} {Q : Sl → MH → Prop} (h : M a = some (.dK kvs)) (hs : DcV F s M more) (hne : s ≠ .raw (.ref a)) (hd : ∀ B H, Sep F B M H → SlOk F B (.ref a) s → False) (hl : kvs.length + more.length ≤ 100000) (q : Q .non (um M a (.dK (mergeG kvs more)))) : WM F rUpdate (.raw (.ref a)) [s] M Q := fun B H v vs hS o1 o2 Q0 k => by
  have ev : v = .ref a := o1
  subst ev
  cases o2 with
  | cons o o2 =>
    cases o2
    obtain ⟨_, t, ht, us, rfl, hv⟩ := hS.has a _ h
    obtain ⟨b, ws, rfl, hr, hw⟩ := hs.get hS o
    refine ⟨a, b, us, ws, rfl, rfl, fun e => hd B H hS (by rw [e]; exact o), ht, hr, ?_, ?_⟩
    · rw [Paired.length hv, Paired.length hw]
      exact Nat.le_trans hl (show 100000 ≤ sizeLine by decide)
    · exact k _ _ _ B _ q (Same.refl B) (hS.put h ⟨_, rfl, slks_merge hw hv⟩) slok_non
/-- d.update(e), two dicts that change -/
theorem wm_updateM {F : PySem.W.Frag} {M : MH} {a b : Addr} {kvs more : List (Key × Sl)} {Q : Sl → MH → Prop} (h : M a = some (.dK kvs)) (hb : M b = some (.dK more)) (hne : b ≠ a) (hl : kvs.length + more.length ≤ 100000) (q : Q .non (um M a (.dK (mergeG kvs more)))) : WM F rUpdate (.raw (.ref a)) [.raw (.ref b)] M Q :=
  wm_update h (dcv_ref hb) (fun e => hne (by cases e; rfl)) (fun B H _ o => hne (by have e : V.ref a = .ref b := o; cases e; rfl)) hl q
/-- d[k] += e -/
theorem ws_daug {rd : V → V → Hp → VK → Prop} {f : Int → Int → Int} (hrd : ∀ (i j : Int) H (Q : VK), Q (.int (f i j)) H → rd (.int i) (.int j) H Q) (h : W K td ρ M fun o M1 => W K ty ρ M1 fun y M2 => ∃ a kvs k i, o = .raw (.ref a) ∧ y = kS k ∧ M2 a = some (.dK kvs) ∧ valG kvs k = some (.int i) ∧ W K tv ρ M2 fun s M3 => ∃ j, s = .int j ∧ M3 a = some (.dK kvs) ∧ kvs.length < 100000 ∧ nx ρ (um M3 a (.dK (putG kvs k (.int (f i j)))))) :
    WS K (sDAug td ty tv rd) ρ M ⟨nx, rt, bk, ct⟩ := fun σ B H D hR hS p1 p2 p3 p4 =>
  h σ B H hR hS _ fun o v M1 B1 H1 h1 e1 S1 o1 => h1 σ B1 H1 (hR.mono e1) S1 _ fun y w M2 B2 H2 ⟨a, kvs, k, i, eo, ey, hM, hv, h2⟩ e2 S2 o2 => by
    subst eo ey
    have ev : v = .ref a := o1
    subst ev
    obtain ⟨_, t, ht, vs, rfl, hk⟩ := S2.has a _ hM
    obtain ⟨z, hz, oz⟩ := (slks_val hk).1 _ hv
    have ez := of_int oz
    subst ez
    refine ⟨a, _, rfl, .inl ⟨vs, k, .inl ht, of_kS o2, hz.symm⟩, h2 σ B2 H2 (hR.mono (e1.trans e2)) S2 _ fun s u M3 B3 H3 ⟨j, es, hM3, hl, q⟩ e3 S3 o3 => ?_⟩
    subst es
    obtain ⟨_, t3, ht3, vs3, rfl, hk3⟩ := S3.has a _ hM3
    have eu := of_int o3
    subst eu
    refine hrd i j H3 _ ⟨_, .inl ⟨vs3, k, ht3, of_kS o2, by rw [Paired.length hk3]; exact Nat.lt_of_lt_of_le hl (show 100000 ≤ sizeLine by decide), rfl⟩, ?_⟩
    exact p1 ρ _ σ B3 _ q ((e1.trans e2).trans e3) (hR.mono ((e1.trans e2).trans e3)) (S3.put hM3 ⟨_, rfl, slks_putK slok_int hk3⟩)
/-- o.f += e -/
theorem ws_fldaug {rd : V → V → Hp → VK → Prop} {g : Int → Int → Int} {f : Str} (hrd : ∀ (i j : Int) H (Q : VK), Q (.int (g i j)) H → rd (.int i) (.int j) H Q) (h : W K ta ρ M fun o M1 => ∃ a C dx fs i, o = .raw (.ref a) ∧ M1 a = some (.ins C dx fs) ∧ Cls K.K C ∧ NoAttr K.K C f ∧ fs.lookup f = some (.int i) ∧ W K tv ρ M1 fun s M3 => ∃ j, s = .int j ∧ M3 a = some (.ins C dx fs) ∧ fs.length < 1000 ∧ nx ρ (um M3 a (.ins C dx (putS f (.int (g i j)) fs)))) :
    WS K (sFldAug K.K ta tv rd f) ρ M ⟨nx, rt, bk, ct⟩ := fun σ B H D hR hS p1 p2 p3 p4 =>
  h σ B H hR hS _ fun o v M1 B1 H1 ⟨a, C, dx, fs, i, eo, hM, c, n, hl, h1⟩ e1 S1 o1 => by
    subst eo
    have ev : v = .ref a := o1
    subst ev
    obtain ⟨_, t, ht, vs, rfl, hv⟩ := S1.has a _ hM
    obtain ⟨z, hz, oz⟩ := slks_get hv hl
    have ez := of_int oz
    subst ez
    refine ⟨a, C, dx, vs, _, rfl, ht, c, n, hz, h1 σ B1 H1 (hR.mono e1) S1 _ fun s u M3 B3 H3 ⟨j, es, hM3, hl3, q⟩ e3 S3 o3 => ?_⟩
    subst es
    obtain ⟨_, t3, ht3, vs3, rfl, hv3⟩ := S3.has a _ hM3
    have eu := of_int o3
    subst eu
    refine hrd i j H3 _ ⟨dx, vs3, ht3, by rw [Paired.length hv3]; exact hl3, ?_⟩
    exact p1 ρ _ σ B3 _ q (e1.trans e3) (hR.mono (e1.trans e3)) (S3.put hM3 ⟨_, rfl, slks_put slok_int hv3⟩)
theorem rd_add (i j : Int) (H : Hp) (Q : VK) (q : Q (.int (i + j)) H) : rAdd (.int i) (.int j) H Q := ⟨i, j, rfl, rfl, q⟩
theorem rd_sub (i j : Int) (H : Hp) (Q : VK) (q : Q (.int (i - j)) H) : rSub (.int i) (.int j) H Q := ⟨i, j, rfl, rfl, q⟩
/-! ### targets -/
theorem wg_tupS {n : Nat} {g : TGs} {xs : List Sl} {Q : Rho → MH → Prop} (hn : xs.length = n) (h : WGs K g xs ρ M Q) : WG K (gTup K.K n g) (tupS K.K xs) ρ M Q := fun σ B H v hR hS o Q0 k => by
  obtain ⟨a, vs, rfl, hq, ha⟩ := (show ∃ a vs, v = .ref a ∧ SqT K.K B a vs ∧ SlAll K.K B vs xs from o)
  exact ⟨a, vs, rfl, same_t hS.sub hq, by rw [SlAll.len ha]; exact hn, h σ B H vs hR hS ha Q0 k⟩
/-- for x, y in zip(xs, ys) -/
theorem wi_zip {t : TA} {R : Nat → (Nat → Sl) → (MH → Prop) → MH → Prop} (h : WA K t ρ M fun ss M1 => ∃ s1 s2 xs ys, ss = [s1, s2] ∧ LsV K.K s1 M1 xs ∧ LsV K.K s2 M1 ys ∧ R (min xs.length ys.length) (fun i => tupS K.K [xs.getD i .non, ys.getD i .non]) (fun M2 => LsV K.K s1 M2 xs ∧ LsV K.K s2 M2 ys) M1) : WI K (iZip K.K t) ρ M R := fun σ B H hR hS R0 k =>
  h σ B H hR hS _ fun ss vs M1 B1 H1 ⟨s1, s2, xs, ys, es, h1, h2, q⟩ e1 S1 o1 => by
    subst es
    cases o1 with
    | cons oa ob => cases ob with
      | cons ob oc =>
        cases oc
        obtain ⟨a, us, rfl, hq1, ha1⟩ := h1.get S1 oa
        obtain ⟨b, ws, rfl, hq2, ha2⟩ := h2.get S1 ob
        refine ⟨a, b, us, ws, rfl, hq1, hq2, k _ _ _ M1 B1 H1 _ q e1 S1 ⟨fun i B2 M2 H2 hi e2 S2 st => ?_, fun i B2 M2 H2 x H3 hi e2 S2 st y => ?_, fun i B2 M2 H2 hi e2 S2 st => ?_⟩⟩
        · obtain ⟨a', us', ea, q1, r1⟩ := st.1.get S2 (oa.mono e2)
          obtain ⟨b', ws', eb, q2, r2⟩ := st.2.get S2 (ob.mono e2)
          cases ea
          cases eb
          obtain ⟨z1, hz1, _⟩ := SlAll.get r1 (List.getElem?_eq_getElem (show i < xs.length by omega))
          obtain ⟨z2, hz2, _⟩ := SlAll.get r2 (List.getElem?_eq_getElem (show i < ys.length by omega))
          exact ⟨us', ws', z1, z2, q1, q2, hz1, hz2⟩
        · obtain ⟨a', us', ea, q1, r1⟩ := st.1.get S2 (oa.mono e2)
          obtain ⟨b', ws', eb, q2, r2⟩ := st.2.get S2 (ob.mono e2)
          cases ea
          cases eb
          obtain ⟨T, x1, x2, rfl, hT, rfl, f1, f2⟩ := y
          obtain ⟨z1, hz1, oz1⟩ := SlAll.get r1 (List.getElem?_eq_getElem (show i < xs.length by omega))
          obtain ⟨z2, hz2, oz2⟩ := SlAll.get r2 (List.getElem?_eq_getElem (show i < ys.length by omega))
          have g1 : z1 = x1 := Option.some.inj (hz1.symm.trans (f1 us' q1))
          have g2 : z2 = x2 := Option.some.inj (hz2.symm.trans (f2 ws' q2))
          subst g1 g2
          have hB := S2.freeB hT
          refine ⟨upd B2 T (.tup [z1, z2]), same_new hB, S2.alloc hT, ⟨T, [z1, z2], rfl, SqT.of upd_same, ?_⟩⟩
          rw [List.getD_eq_getElem?_getD, List.getElem?_eq_getElem (show i < xs.length by omega), List.getD_eq_getElem?_getD, List.getElem?_eq_getElem (show i < ys.length by omega)]
          exact .cons (oz1.mono (same_new hB)) (.cons (oz2.mono (same_new hB)) .nil)
        · obtain ⟨a', us', ea, q1, r1⟩ := st.1.get S2 (oa.mono e2)
          obtain ⟨b', ws', eb, q2, r2⟩ := st.2.get S2 (ob.mono e2)
          cases ea
          cases eb
          refine ⟨us', ws', q1, q2, ?_⟩
          rw [SlAll.len r1, SlAll.len r2]
          omega
/-! ### comprehensions, any target -/
/-- what the target makes of an item, the comprehension's own slots being vs -/
def LcT (F : PySem.W.Frag) (g : TG) (vs : List Nat) (s : Sl) (f : Rho → Rho) : Prop :=
  ∀ B H v σ ρ M, Sep F B M H → SlOk F B v s → Rl0 F B σ ρ → ∀ Q0 : L2.St → Hp → Prop, (∀ σ2, wipe σ2 vs = wipe σ vs → Rl0 F B σ2 (f ρ) → Q0 σ2 H) → g v σ H Q0
theorem lct_name {F : PySem.W.Frag} {j : Nat} {vs : List Nat} {s : Sl} (hj : j ∈ vs) : LcT F (gName j) vs s (fun ρ => ρ.set j (some s)) := fun B H v σ ρ M S o r Q0 k => k _ (wipe_set _ _ _ _ hj) (r.put o j)
theorem lct_two {F : PySem.W.Frag} {i j : Nat} {vs : List Nat} {x y : PyData} (hi : i ∈ vs) (hj : j ∈ vs) : LcT F (gTup F 2 (gCons (gName i) (gCons (gName j) gNil))) vs (.dat (.tuple [x, y])) (fun ρ => (ρ.set i (some (.dat x))).set j (some (.dat y))) := fun B H v σ ρ M S o r Q0 k => by
  obtain ⟨a, ws, rfl, hq, ha⟩ := (tpv_dat (ds := [x, y])).get S o
  cases ha with
  | cons o1 ha => cases ha with
    | cons o2 ha =>
      cases ha
      refine ⟨a, _, rfl, hq, rfl, _, _, rfl, ?_⟩
      refine ⟨_, _, rfl, rfl, ?_⟩
      exact k _ ((wipe_set _ _ _ _ hj).trans (wipe_set _ _ _ _ hi)) ((r.put o1 i).put o2 j)
theorem w_lcX {wi : TI} {tt : TT} {g : TG} {vs : List Nat} (h : WI K wi ρ M fun n item stay M1 => ∃ J : Nat → List PyData → MH → Prop, J 0 [] M1 ∧ (∀ i acc M', i ≤ n → J i acc M' → ∀ D o, M' D = none → stay (um M' D o)) ∧
    (∀ i acc M' D, i < n → J i acc M' → M' D = none → ∃ f, LcT K.K g vs (item i) f ∧ WT K tt (f (wipeR ρ vs)) (um M' D (.lst (acc.map .dat))) fun b M3 =>
      if b = true then W K te (f (wipeR ρ vs)) M3 fun s M4 => ∃ d M5, s = .dat d ∧ M4 = um M5 D (.lst (acc.map .dat)) ∧ M5 D = none ∧ acc.length < 100000 ∧ J (i + 1) (acc ++ [d]) M5
      else ∃ M5, M3 = um M5 D (.lst (acc.map .dat)) ∧ M5 D = none ∧ J (i + 1) acc M5) ∧
    ∀ acc M' D, J n acc M' → M' D = none → Q (.raw (.ref D)) (um M' D (.lst (acc.map .dat)))) : W K (tLc wi g tt te vs) ρ M Q := fun σ B H hR hS Q0 k =>
  h σ B H hR hS _ fun n item stay M1 B1 H1 It ⟨J, j0, js, jt, je⟩ e1 S1 ok => fun D hD => by
    refine ⟨fun i m H' => m = n - i ∧ i ≤ n ∧ ∃ acc M' B', J i acc M' ∧ M' D = none ∧ Same B1 B' ∧ Sep K.K B' (um M' D (.lst (acc.map .dat))) H', ⟨n, by simp, Nat.zero_le _, [], M1, B1, j0, S1.freeM hD, Same.refl _, S1.new hD ⟨[], rfl, .nil⟩⟩, ?_⟩
    rintro i m H' ⟨rfl, hi, acc, M', B', hj', hMD, e2, S2⟩
    by_cases hlt : i < n
    · refine .inr ⟨ok.go i B' _ H' hlt e2 S2 (js i acc M' hi hj' D _ hMD), fun H2 => ∃ acc M2 B2, J (i + 1) acc M2 ∧ M2 D = none ∧ Same B1 B2 ∧ Sep K.K B2 (um M2 D (.lst (acc.map .dat))) H2, fun H2 ⟨acc, M2, B2, q⟩ => ⟨n - (i + 1), by omega, rfl, hlt, acc, M2, B2, q⟩, fun x H3 y => ?_⟩
      obtain ⟨B3, e3, S3, o3⟩ := ok.yld i B' _ H' x H3 hlt e2 S2 (js i acc M' hi hj' D _ hMD) y
      obtain ⟨f, hf, ht⟩ := jt i acc M' D hlt hj' hMD
      have hR3 := hR.mono ((e1.trans e2).trans e3)
      refine hf B3 H3 x (wipe σ vs) (wipeR ρ vs) _ S3 o3 (hR3.wiped vs).r _ fun σ2 hw hr2 => ⟨hw.trans (wipe_wipe σ vs), ?_⟩
      have R3 : Rl K B3 σ2 (f (wipeR ρ vs)) := ⟨hr2, hR3.x⟩
      refine ht σ2 B3 H3 R3 S3 _ fun b M4 B4 H4 q4 e4 S4 => ?_
      have e14 := (e2.trans e3).trans e4
      cases b with
      | true =>
        refine q4 _ B4 H4 (R3.mono e4) S4 _ fun s v M5 B5 H5 ⟨d, M6, es, em, hn6, hl6, hj6⟩ e5 S5 o5 => ?_
        subst es em
        obtain ⟨_, u, hu, ws, rfl, ha⟩ := S5.has D _ um_same
        have hlen := SlAll.len ha
        rw [List.length_map] at hlen
        refine ⟨ws, hu, Nat.lt_of_lt_of_le (by omega) (show 100000 ≤ sizeLine by decide), acc ++ [d], M6, B5, hj6, hn6, e14.trans e5, ?_⟩
        have S6 := S5.put (u := .lst (ws ++ [v])) (o' := .lst ((acc ++ [d]).map .dat)) um_same ⟨_, rfl, by rw [List.map_append]; exact SlAll.app ha (.cons o5 .nil)⟩
        rw [um_um] at S6
        exact S6
      | false =>
        obtain ⟨M5, em, hn5, hj5⟩ := q4
        subst em
        exact ⟨acc, M5, B4, hj5, hn5, e14, S4⟩
    · have ei : i = n := by omega
      subst ei
      refine .inl ⟨ok.stop i B' _ H' (Nat.le_refl _) e2 S2 (js i acc M' hi hj' D _ hMD), ?_⟩
      exact k _ _ _ B' H' (je acc M' D hj' hMD) (e1.trans e2) S2 slok_ref
/-- a list that was just made will not be changed any more -/
theorem w_frz (h : W K te ρ M fun s M1 => ∃ a ds, s = .raw (.ref a) ∧ M1 a = some (.lst (ds.map .dat)) ∧ Q (.dat (.list ds)) (del M1 a)) : W K te ρ M Q := fun σ B H hR hS Q0 k =>
  h σ B H hR hS _ fun s v M1 B1 H1 ⟨a, ds, es, hM, q⟩ e1 S1 o1 => by
    subst es
    have ev : v = .ref a := o1
    subst ev
    obtain ⟨hB, u, hu, vs, rfl, ha⟩ := S1.has a _ hM
    exact k _ _ _ _ H1 q (e1.trans (same_new hB)) (S1.freeze hM hu) (lst_ok (dpa_of ha) hB)
end
end Ab

set_option Elab.async false
set_option linter.all false
set_option maxRecDepth 100000
set_option  maxHeartbeats 4000000
/-! Ab12: a field of a name, try .. as, isinstance in a suite. -/
namespace L2
open PySem PySem.Spec PyProof.Rows
/-- isinstance(e, C) in a suite: the reading tells what class the caught one has -/
theorem pe_isE {X : Cx} {a : Addr} {oe : Obj} {pn : List (Addr × Obj)} {cls : Value} {dd : Option Addr} {p pos : Pos} {e : Expr} {es : List Expr} {t : TA} (hz : Zc cls dd oe) (hf : ∃ vs, oe.data = .fields vs) (hg : Gl (X.suite a ((a, oe) :: pn)) "isinstance") (hm : (X.suite a ((a, oe) :: pn)).mg "isinstance" = none)
    (ha : PA (X.suite a ((a, oe) :: pn)) (e :: es) t) (h1 : starEach (e :: es) (X.suite a ((a, oe) :: pn)).env = (false, eval e (X.suite a ((a, oe) :: pn)).env) :: starEach es (X.suite a ((a, oe) :: pn)).env := by rfl) (h2 : (backTo pos (starEach es (X.suite a ((a, oe) :: pn)).env)).any (·.1) = false := by rfl) :
    PE (X.suite a ((a, oe) :: pn)) (.Call (.Name "isinstance" p) (e :: es) [] pos) (fun σ H Q => ∃ D, cls = .ref D ∧ dd = none ∧ ExcC X.K D ∧ tCB (rIsE X.K D a) t σ H Q) :=
  ⟨fun pins s σ H Q I ⟨D, e1, e2, hC, h⟩ => by
    subst e1 e2
    exact (pe_callB (call_isE hC hz hf) hg hm (by decide +kernel) ha (he := h1) (hpl := h2)).run pins s σ H Q I h⟩
/-- try .. except, the body's reading kept apart -/
def tTryAs (K : PySem.W.Frag) (c : Value) (i : Nat) (ts : Addr → Value → Option Addr → TS) (Wout : WX) (tb : WX → TS) : TS := fun D σ H => tb (wAs K c i ts Wout D) D σ H
def tTryOnly (K : PySem.W.Frag) (c : Value) (ts : Addr → Value → Option Addr → TS) (Wout : WX) (tb : WX → TS) : TS := fun D σ H => tb (wOnly K c ts Wout D) D σ H
section
variable {X : Cx} {x n : Str} {c : Value} {i : Nat} {body suite : List Stmt} {b₀ : Stmt} {np pos pos' : Pos} {tb : WX → TS} {ts : Addr → Value → Option Addr → TS} {Wout : WX}
theorem ps_tryAs (hs : X.stack = X.env :: X.outer) (hf : X.env.frame = some X.env.locals) (hN : X.N.Nodup) (hi : X.N[i]? = some n) (hln : X.env.kindOf n = some .local) (hc : Names X x c) (tk : Takes X Wout)
    (hb : ∀ (W : WX) (pn : List (Addr × Obj)) (xe : Value → Shared → Prop), Takes (X.tr pn xe) W → PassesOwn (model X.prog X.w) X.A X.env xe → PSs (X.tr pn xe) body (tb W))
    (hu : ∀ (a : Addr) (oe : Obj) (cls : Value) (d : Option Addr) (pn : List (Addr × Obj)), Zc cls d oe → (∃ vs, oe.data = .fields vs) → PSs (X.suite a ((a, oe) :: pn)) (b₀ :: suite) (ts a cls d)) : PS X (.Try body [.ExceptHandler (some (.Name x np)) (some n) (b₀ :: suite) pos'] [] [] pos) (tTryAs X.K c i ts Wout tb) := ps_try_as hs hf hN hi hln hc tk hb hu
theorem ps_tryOnly (hs : X.stack = X.env :: X.outer) (hf : X.env.frame = some X.env.locals) (hc : Names X x c) (tk : Takes X Wout)
    (hb : ∀ (W : WX) (pn : List (Addr × Obj)) (xe : Value → Shared → Prop), Takes (X.tr pn xe) W → PassesOwn (model X.prog X.w) X.A X.env xe → PSs (X.tr pn xe) body (tb W))
    (hu : ∀ (a : Addr) (oe : Obj) (cls : Value) (d : Option Addr) (pn : List (Addr × Obj)), Zc cls d oe → (∃ vs, oe.data = .fields vs) → PSs (X.suite a ((a, oe) :: pn)) (b₀ :: suite) (ts a cls d)) : PS X (.Try body [.ExceptHandler (some (.Name x np)) none (b₀ :: suite) pos'] [] [] pos) (tTryOnly X.K c ts Wout tb) := ps_try_only hs hf hc tk hb hu
end
end L2
namespace Ab
open PySem PySem.Spec PyProof.Rows L2
section
variable {K : KX} {ρ : Rho} {M : MH} {Q Q' : Sl → MH → Prop} {ta tb te tc td ty tx tv : TE} {P : AE} {nx bk ct : Rho → MH → Prop} {rt : Sl → MH → Prop}
/-- x.f, x a name -/
theorem w_fldI {i : Nat} {f : Str} {a C dx : Addr} {fs : List (Str × Sl)} {x : Sl} (hv : ρ[i]? = some (some (.raw (.ref a)))) (hM : M a = some (.ins C dx fs)) (c : Cls K.K C) (n : NoAttr K.K C f) (l : fs.lookup f = some x) (q : Q x M) : W K (tFld K.K (tVar i) f) ρ M Q :=
  w_fld (w_var hv ⟨a, C, dx, fs, x, rfl, hM, c, n, l, q⟩)
/-- x.f = e, x a name -/
theorem ws_fldI {i : Nat} {f : Str} {a C : Addr} (hv : ρ[i]? = some (some (.raw (.ref a)))) (c : Cls K.K C) (n : NoAttr K.K C f) (h : W K te ρ M fun s M1 => ∃ dx fs, M1 a = some (.ins C dx fs) ∧ fs.length < 1000 ∧ nx ρ (um M1 a (.ins C dx (putS f s fs)))) : WS K (sFld K.K (tVar i) te f) ρ M ⟨nx, rt, bk, ct⟩ :=
  ws_fld (h.imp fun s M1 ⟨dx, fs, hM, hl, q⟩ => w_var hv ⟨a, C, dx, fs, rfl, hM, c, n, hl, q⟩)
theorem ws_tryAs {c : Value} {i : Nat} {tb : WX → TS} {ts : Addr → Value → Option Addr → TS} (X : Value → Option Addr → Rho → MH → Prop) (hb : ∀ W, WS ⟨K.K, W, X⟩ (tb W) ρ M ⟨nx, rt, bk, ct⟩)
    (hx : ∀ C d ρ' M', X C d ρ' M' → ∃ b, PySem.W.exmOne K.K C c = some b ∧ (b = true → ∀ a, WS K (ts a C d) (ρ'.set i (some (.raw (.ref a)))) M' ⟨fun ρ2 M2 => nx (ρ2.set i none) M2, rt, fun ρ2 M2 => bk (ρ2.set i none) M2, fun ρ2 M2 => ct (ρ2.set i none) M2⟩) ∧ (b = false → K.X C d ρ' M')) :
    WS K (tTryAs K.K c i ts K.W tb) ρ M ⟨nx, rt, bk, ct⟩ := fun σ B H D hR hS p1 p2 p3 p4 => by
  refine hb _ σ B H D ⟨hR.r, fun C d ρ' M' σ' B' H' x e r S => ?_⟩ hS (fun ρ2 M2 σ2 B2 H2 q e2 R2 S2 => p1 ρ2 M2 σ2 B2 H2 q e2 ⟨R2.r, (hR.mono e2).x⟩ S2) p2 (fun ρ2 M2 σ2 B2 H2 q e2 R2 S2 => p3 ρ2 M2 σ2 B2 H2 q e2 ⟨R2.r, (hR.mono e2).x⟩ S2) (fun ρ2 M2 σ2 B2 H2 q e2 R2 S2 => p4 ρ2 M2 σ2 B2 H2 q e2 ⟨R2.r, (hR.mono e2).x⟩ S2)
  obtain ⟨b, h1, h2, h3⟩ := hx C d ρ' M' x
  refine ⟨b, h1, fun e1 a _ => ?_, fun e1 => hR.x C d ρ' M' σ' B' H' (h3 e1) e r S⟩
  exact h2 e1 a _ B' H' _ (Rl.put slok_ref i ⟨r, (hR.mono e).x⟩) S (fun ρ2 M2 σ2 B2 H2 q e2 R2 S2 => p1 _ M2 _ B2 H2 q (e.trans e2) (R2.non i) S2) (fun s v M2 B2 H2 q e2 => p2 s v M2 B2 H2 q (e.trans e2)) (fun ρ2 M2 σ2 B2 H2 q e2 R2 S2 => p3 _ M2 _ B2 H2 q (e.trans e2) (R2.non i) S2) (fun ρ2 M2 σ2 B2 H2 q e2 R2 S2 => p4 _ M2 _ B2 H2 q (e.trans e2) (R2.non i) S2)
/-- isinstance(e, C) of a caught one -/
theorem w_isE {cls : Value} {dd : Option Addr} {D a : Addr} {t : TA} (e1 : cls = .ref D) (e2 : dd = none) (hC : ExcC K.K D) (h : WA K t ρ M fun ss M1 => ∃ (c : V) (cv : Value) (b : Bool), ss = [.raw (.ref a), .raw c] ∧ (∀ u, RelV c u → u = cv) ∧ PySem.W.kitOne K.K (.ref D) cv = some b ∧ Q (.bl b) M1) :
    W K (fun σ H Q => ∃ D, cls = .ref D ∧ dd = none ∧ ExcC K.K D ∧ tCB (rIsE K.K D a) t σ H Q) ρ M Q := fun σ B H hR hS Q0 k =>
  ⟨D, e1, e2, hC, h σ B H hR hS _ fun ss vs M1 B1 H1 ⟨c, cv, b, es, hc, hk, q⟩ e S o => by
    subst es
    cases o with
    | cons o1 o => cases o with
      | cons o2 o =>
        cases o
        have a1 : _ = V.ref a := o1
        have a2 : _ = c := o2
        subst a1 a2
        exact ⟨_, cv, b, rfl, hc, hk, k _ _ M1 B1 H1 q e S slok_bl⟩⟩
theorem ws_tryO {c : Value} {tb : WX → TS} {ts : Addr → Value → Option Addr → TS} (X : Value → Option Addr → Rho → MH → Prop) (hb : ∀ W, WS ⟨K.K, W, X⟩ (tb W) ρ M ⟨nx, rt, bk, ct⟩)
    (hx : ∀ C d ρ' M', X C d ρ' M' → ∃ b, PySem.W.exmOne K.K C c = some b ∧ (b = true → ∀ a, WS K (ts a C d) ρ' M' ⟨nx, rt, bk, ct⟩) ∧ (b = false → K.X C d ρ' M')) : WS K (tTryOnly K.K c ts K.W tb) ρ M ⟨nx, rt, bk, ct⟩ := ws_tryOnly X hb hx
/-- d["k"], d a name -/
theorem w_dgetI {i : Nat} {z : Str} {g : Addr} {kvs : List (Key × Sl)} {x : Sl} (hv : ρ[i]? = some (some (.raw (.ref g)))) (hM : M g = some (.dK kvs)) (hx : valG kvs (.inr z) = some x) (q : Q x M) : W K (tDGet (tVar i) (tC (.str z))) ρ M Q :=
  w_dget (w_var hv (w_str ⟨kvs, .inr z, x, dcv_ref hM, rfl, hx, q⟩))
theorem ty_dct {F : PySem.W.Frag} {M : MH} {g : Addr} {kvs : List (Key × Sl)} (hM : M g = some (.dK kvs)) : ∀ B H v, Sep F B M H → SlOk F B v (.raw (.ref g)) → tyV F "dict" v H := fun B H v S o => by
  have ev : v = .ref g := o
  subst ev
  obtain ⟨_, u, hu, vs, rfl, _⟩ := S.has g _ hM
  exact .inr (.inr (.inl ⟨rfl, .inl ⟨vs, hu⟩⟩))
end
end Ab

set_option Elab.async false
set_option linter.all false
set_option maxRecDepth 100000
set_option  maxHeartbeats 4000000
/-! Ab13: is, is not of booleans; isinstance of a list that changes. -/
namespace L2
open PySem PySem.Spec PyProof.Rows PyProof
/-- a tuple target, the module's part named -/
theorem pg_tupK {X : Cx} {K : PySem.W.Frag} {es : List Expr} {k : Nat} {t : TGs} {n : Nat} {pos : Pos} (hK : X.K = K) (hc : X.calm = true) (h : PGs X es t)
    (hn : (assignEach es X.env).length = n := by rfl) (hst : (assignEach es X.env).findIdx? (·.1) = none := by rfl) : PG X (.Tuple es k pos) (gTup K n t) := by
  subst hK
  exact pg_tup hc h hn hst
theorem kit_self {K : PySem.W.Frag} {c : Addr} : PySem.W.kitOne K (.ref c) (.ref c) = some true := by
  unfold PySem.W.kitOne
  rw [if_pos (beq_self_eq_true _)]
theorem kit_type {K : PySem.W.Frag} {c : Addr} {T : String} {b : Bool} (h : PySem.W.kitMeta T = true) (e : PySem.W.subIn K (.ref c) (.type T) = some b) : PySem.W.kitOne K (.ref c) (.type T) = some b := by
  unfold PySem.W.kitOne PySem.W.kitCls
  rw [if_neg (by simp)]
  show (if PySem.W.kitMeta T = true then _ else none) = _
  rw [if_pos h]
  exact e
end L2
namespace Ab
open PySem PySem.Spec PyProof.Rows L2
variable {M : MH} {Q : Sl → MH → Prop}
theorem w2_isB {K : PySem.W.Frag} {a b : Bool} (q : Q (.bl (decide (a = b))) M) : W2 K rIsB (.bl a) (.bl b) M Q := fun B H v w hS o1 o2 Q0 k => ⟨a, b, of_bl o1, of_bl o2, k _ _ M B H q (Same.refl B) hS slok_bl⟩
theorem w2_notB {K : PySem.W.Frag} {a b : Bool} (q : Q (.bl (!decide (a = b))) M) : W2 K rNotB (.bl a) (.bl b) M Q := fun B H v w hS o1 o2 Q0 k => ⟨a, b, of_bl o1, of_bl o2, k _ _ M B H q (Same.refl B) hS slok_bl⟩
/-- isinstance of a list that changes -/
theorem wl_isiL {K : PySem.W.Frag} {a : Addr} {xs : List Sl} {n : String} {b : Bool} (h : M a = some (.lst xs)) (hb : kitB "list" n = some b) (q : Q (.bl b) M) : WL K (rIsi K) [.raw (.ref a), .raw (.ty n)] M Q := fun B H vs hS o Q0 k => by
  cases o with
  | cons o1 o2 =>
    cases o2 with
    | cons o2 o3 =>
      cases o3
      obtain rfl : _ = V.ty n := o2
      obtain rfl : _ = V.ref a := o1
      obtain ⟨_, u, hu, ws, rfl, ha⟩ := hS.has a _ h
      exact ⟨_, .ty n, _, _, b, rfl, .ty n, .base (.lst hu), kit_ty hb, k _ _ M B H q (Same.refl B) hS slok_bl⟩
theorem w2_ixRL {K : PySem.W.Frag} {a : Addr} {x : Sl} {xs : List Sl} {i : Int} (h : M a = some (.lst xs)) (hx : atI xs i = some x) (q : Q x M) : W2 K (rIx K) (.raw (.ref a)) (.int i) M Q := fun B H v w hS o1 o2 Q0 k =>
  .inl (w2_ixL (lsv_ref h) hx q B H v w hS o1 o2 Q0 k)
theorem hu1 {n : Nat} (h : n + 64 < cLine) : n + 1 < cLine := by omega
/-- a def that keeps two promises -/
def orA (A1 A2 : ASp) : ASp := fun ss M Q => A1 ss M Q ∨ A2 ss M Q
theorem fn_or {P : Program} {w : World} {K : PySem.W.Frag} {mg : Str → Option Value} {base : Heap} {CX : CXT} {k : Nat} {f : Addr} {fd : FuncData} {ps : List Str} {A1 A2 : ASp} (F1 : FnOk P w K mg base CX k f fd ps (conc K A1)) (F2 : FnOk P w K mg base CX k f fd ps (conc K A2)) : FnOk P w K mg base CX k f fd ps (conc K (orA A1 A2)) :=
  ⟨fun vs H Q E ⟨B, M, ss, QA, S, o, h, q⟩ => h.elim (fun h => F1.len vs H Q E ⟨B, M, ss, QA, S, o, h, q⟩) (fun h => F2.len vs H Q E ⟨B, M, ss, QA, S, o, h, q⟩),
   fun A outer s H args us vs Q E a b c d ⟨B, M, ss, QA, S, o, h, q⟩ => h.elim (fun h => F1.run A outer s H args us vs Q E a b c d ⟨B, M, ss, QA, S, o, h, q⟩) (fun h => F2.run A outer s H args us vs Q E a b c d ⟨B, M, ss, QA, S, o, h, q⟩)⟩
end Ab

set_option Elab.async false
set_option linter.all false
set_option maxRecDepth 100000
set_option  maxHeartbeats 4000000
/-! Rb: what a rule base is made of (values, rows, terms, literals, items), as data. -/
namespace Ab
open PySem L2
def goodS (z : Str) : Bool := decide (z.length ≤ 40) && z.cps.toList.all fun c => decide (32 ≤ c) && decide (c < 127) && decide (c ≠ 37)
theorem goodS_ok {z : Str} (h : goodS z = true) : PyData.strOk z = true := by
  unfold goodS at h
  rw [Bool.and_eq_true, List.all_eq_true] at h
  unfold PyData.strOk
  rw [← Array.all_toList, List.all_eq_true]
  intro c hc
  have := h.2 c hc
  simp only [Bool.and_eq_true, decide_eq_true_eq] at this
  exact decide_eq_true (by omega)
inductive Val where
  | int (n : Int)
  | str (z : Str)
  deriving DecidableEq
def Val.enc : Val → PyData
  | .int n => .int n
  | .str z => .str z
def Val.ok : Val → Prop
  | .int n => n.natAbs < 10 ^ 30
  | .str z => goodS z = true
theorem Val.enc_inj {v w : Val} (h : v.enc = w.enc) : v = w := by
  cases v <;> cases w <;> simp_all [Val.enc]
inductive Term where
  | any
  | value (v : Val)
  | variable (z : Str)
  deriving DecidableEq
def Term.enc : Term → PyData
  | .any => .tuple [.str "any"]
  | .value v => .tuple [.str "value", v.enc]
  | .variable z => .tuple [.str "variable", .str z]
def Term.ok : Term → Prop
  | .any => True
  | .value v => v.ok
  | .variable z => goodS z = true
inductive Lit where
  | fact (rel : Str) (ts : List Term)
  | neg (rel : Str) (ts : List Term)
  | compare (op : Str) (s t : Term)
  | is (x op : Str) (s t : Term)
  | count (x rel : Str) (ts : List Term)
  deriving DecidableEq
abbrev encT (ts : List Term) : PyData := .tuple (ts.map Term.enc)
abbrev encR (row : List Val) : PyData := .tuple (row.map Val.enc)
def Lit.enc : Lit → PyData
  | .fact r ts => .tuple [.str "fact", .str r, encT ts]
  | .neg r ts => .tuple [.str "not", .str r, encT ts]
  | .compare op s t => .tuple [.str "compare", .str op, s.enc, t.enc]
  | .is x op s t => .tuple [.str "is", .str x, .str op, s.enc, t.enc]
  | .count x r ts => .tuple [.str "count", .str x, .str r, encT ts]
def okTs (ts : List Term) : Prop := ts.length ≤ 1000 ∧ ∀ t ∈ ts, t.ok
def okR (row : List Val) : Prop := row.length ≤ 1000 ∧ ∀ v ∈ row, v.ok
def opsC : List Str := ["=", "<>", "<", "<=", ">", ">="]
def opsI : List Str := ["+", "-", "*"]
def Lit.ok : Lit → Prop
  | .fact r ts => goodS r = true ∧ okTs ts
  | .neg r ts => goodS r = true ∧ okTs ts
  | .compare op s t => op ∈ opsC ∧ s.ok ∧ t.ok
  | .is x op s t => goodS x = true ∧ op ∈ opsI ∧ s.ok ∧ t.ok
  | .count x r ts => goodS x = true ∧ goodS r = true ∧ okTs ts
abbrev encB (b : List Lit) : PyData := .tuple (b.map Lit.enc)
def okB (b : List Lit) : Prop := b.length ≤ 1000 ∧ ∀ l ∈ b, l.ok
inductive Item where
  | relation (n : Str) (w : Int)
  | fact (n : Str) (row : List Val)
  | rule (n rel : Str) (hd : List Term) (b : List Lit)
  | denial (n : Str) (b : List Lit)
  deriving DecidableEq
def Item.enc : Item → PyData
  | .relation n w => .tuple [.str "relation", .str n, .int w]
  | .fact n row => .tuple [.str "fact", .str n, encR row]
  | .rule n rel hd b => .tuple [.str "rule", .str n, .str rel, encT hd, encB b]
  | .denial n b => .tuple [.str "denial", .str n, encB b]
def Item.ok : Item → Prop
  | .relation n w => goodS n = true ∧ 0 ≤ w ∧ w ≤ 1000
  | .fact n row => goodS n = true ∧ okR row
  | .rule n rel hd b => goodS n = true ∧ goodS rel = true ∧ okTs hd ∧ okB b
  | .denial n b => goodS n = true ∧ okB b
/-! ### depth -/
theorem okD_str {n : Nat} {z : Str} (h : PyData.strOk z = true) : okD n (.str z) = true := by cases n <;> simpa [okD] using h
theorem okD_good {n : Nat} {z : Str} (h : goodS z = true) : okD n (.str z) = true := okD_str (goodS_ok h)
theorem okD_int {n : Nat} {i : Int} : okD n (.int i) = true := by cases n <;> rfl
theorem okD_bool {n : Nat} {i : Bool} : okD n (.bool i) = true := by cases n <;> rfl
theorem Val.okD {n : Nat} : ∀ {v : Val}, v.ok → okD n v.enc = true
  | .int _, _ => okD_int
  | .str _, h => okD_good h
theorem okAll_cons {n : Nat} {x : PyData} {xs : List PyData} (h : Ab.okD n x = true) (t : okAll n xs = true) : okAll n (x :: xs) = true := by
  show (Ab.okD n x && okAll n xs) = true
  rw [h, t]
  rfl
theorem okD_upTo {n m : Nat} {d : PyData} (h : okD n d = true) (hm : n ≤ m) : okD m d = true := by
  induction hm with
  | refl => exact h
  | step _ ih => exact okD_up ih
theorem Term.okD {n : Nat} : ∀ {t : Term}, t.ok → okD (n + 1) t.enc = true
  | .any, _ => okD_mkT (by simp) (okAll_cons (okD_str (by decide +kernel)) rfl)
  | .value v, h => okD_mkT (by simp) (okAll_cons (okD_str (by decide +kernel)) (okAll_cons (Val.okD h) rfl))
  | .variable z, h => okD_mkT (by simp) (okAll_cons (okD_str (by decide +kernel)) (okAll_cons (okD_good h) rfl))
theorem okTs_okD {n : Nat} {ts : List Term} (h : okTs ts) : okD (n + 2) (encT ts) = true := okD_mkT (by rw [List.length_map]; have := h.1; omega) (okAll_of fun d hd => by
  obtain ⟨t, ht, rfl⟩ := List.mem_map.mp hd
  exact Term.okD (h.2 t ht))
theorem okR_okD {n : Nat} {row : List Val} (h : okR row) : okD (n + 1) (encR row) = true := okD_mkT (by rw [List.length_map]; have := h.1; omega) (okAll_of fun d hd => by
  obtain ⟨t, ht, rfl⟩ := List.mem_map.mp hd
  exact Val.okD (h.2 t ht))
theorem ops_ok {op : Str} (h : op ∈ opsC) : PyData.strOk op = true := by
  have : ∀ op ∈ opsC, PyData.strOk op = true := by decide +kernel
  exact this op h
theorem opsI_ok {op : Str} (h : op ∈ opsI) : PyData.strOk op = true := by
  have : ∀ op ∈ opsI, PyData.strOk op = true := by decide +kernel
  exact this op h
theorem Lit.okD {n : Nat} : ∀ {t : Lit}, t.ok → okD (n + 3) t.enc = true
  | .fact _ _, h => okD_mkT (by simp) (okAll_cons (okD_str (by decide +kernel)) (okAll_cons (okD_good h.1) (okAll_cons (okTs_okD h.2) rfl)))
  | .neg _ _, h => okD_mkT (by simp) (okAll_cons (okD_str (by decide +kernel)) (okAll_cons (okD_good h.1) (okAll_cons (okTs_okD h.2) rfl)))
  | .compare _ _ _, h => okD_mkT (by simp) (okAll_cons (okD_str (by decide +kernel)) (okAll_cons (okD_str (ops_ok h.1)) (okAll_cons (Term.okD h.2.1) (okAll_cons (Term.okD h.2.2) rfl))))
  | .is _ _ _ _, h => okD_mkT (by simp) (okAll_cons (okD_str (by decide +kernel)) (okAll_cons (okD_good h.1) (okAll_cons (okD_str (opsI_ok h.2.1)) (okAll_cons (Term.okD h.2.2.1) (okAll_cons (Term.okD h.2.2.2) rfl)))))
  | .count _ _ _, h => okD_mkT (by simp) (okAll_cons (okD_str (by decide +kernel)) (okAll_cons (okD_good h.1) (okAll_cons (okD_good h.2.1) (okAll_cons (okTs_okD h.2.2) rfl))))
theorem okB_okD {n : Nat} {b : List Lit} (h : okB b) : okD (n + 4) (encB b) = true := okD_mkT (by rw [List.length_map]; have := h.1; omega) (okAll_of fun d hd => by
  obtain ⟨t, ht, rfl⟩ := List.mem_map.mp hd
  exact Lit.okD (h.2 t ht))
theorem Item.okD {n : Nat} : ∀ {t : Item}, t.ok → okD (n + 5) t.enc = true
  | .relation _ _, h => okD_mkT (by simp) (okAll_cons (okD_str (by decide +kernel)) (okAll_cons (okD_good h.1) (okAll_cons okD_int rfl)))
  | .fact _ _, h => okD_mkT (by simp) (okAll_cons (okD_str (by decide +kernel)) (okAll_cons (okD_good h.1) (okAll_cons (okR_okD h.2) rfl)))
  | .rule _ _ _ _, h => okD_mkT (by simp) (okAll_cons (okD_str (by decide +kernel)) (okAll_cons (okD_good h.1) (okAll_cons (okD_good h.2.1) (okAll_cons (okTs_okD h.2.2.1) (okAll_cons (okB_okD h.2.2.2) rfl)))))
  | .denial _ _, h => okD_mkT (by simp) (okAll_cons (okD_str (by decide +kernel)) (okAll_cons (okD_good h.1) (okAll_cons (okB_okD h.2) rfl)))
/-! ### == of texts -/
theorem eqv_str (x y : Str) : PyData.eqv (.str x) (.str y) = decide (x = y) := by
  simp only [PyData.eqv]
  by_cases e : x = y
  · subst e; simp
  · rw [decide_eq_false e]; exact beq_eq_false_iff_ne.mpr e
theorem eqv_val : ∀ v w : Val, PyData.eqv v.enc w.enc = decide (v = w)
  | .int a, .int b => by
    show PyData.eqv (.int a) (.int b) = _
    rw [eqv_int]
    exact decide_eq_decide.mpr ⟨fun h => by rw [h], fun h => Val.int.inj h⟩
  | .str a, .str b => by
    show PyData.eqv (.str a) (.str b) = _
    rw [eqv_str]
    exact decide_eq_decide.mpr ⟨fun h => by rw [h], fun h => Val.str.inj h⟩
  | .int a, .str b => by
    rw [decide_eq_false (by simp)]
    simp [Val.enc, PyData.eqv]
  | .str a, .int b => by
    rw [decide_eq_false (by simp)]
    simp [Val.enc, PyData.eqv]
theorem eqvAll_map {α : Type} [DecidableEq α] {f : α → PyData} (hf : ∀ x y, PyData.eqv (f x) (f y) = decide (x = y)) : ∀ xs ys : List α, PyData.eqvAll (xs.map f) (ys.map f) = decide (xs = ys)
  | [], [] => by simp [PyData.eqvAll]
  | [], _ :: _ => by simp [PyData.eqvAll]
  | _ :: _, [] => by simp [PyData.eqvAll]
  | x :: xs, y :: ys => by
    rw [List.map_cons, List.map_cons, PyData.eqvAll, hf, eqvAll_map hf xs ys]
    by_cases h1 : x = y <;> by_cases h2 : xs = ys <;> simp [h1, h2]
theorem eqv_row (a b : List Val) : PyData.eqv (encR a) (encR b) = decide (a = b) := by
  show PyData.eqv (.tuple _) (.tuple _) = _
  rw [PyData.eqv, eqvAll_map eqv_val]
section
variable {K : KX} {M : MH} {Q : Sl → MH → Prop}
theorem shaped_str {z : Str} (h : PyData.strOk z = true) : SeqAt.shaped (.str z) = true := okD_shaped (n := 0) (okD_str h) (by decide)
theorem w2_eqS {K : PySem.W.Frag} {x y : Str} (h1 : PyData.strOk x = true) (h2 : PyData.strOk y = true) (q : Q (.bl (decide (x = y))) M) : W2 K (rEqD K) (.dat (.str x)) (.dat (.str y)) M Q := w2_eq (shaped_str h1) (shaped_str h2) (by rw [eqv_str]; exact q)
theorem w2_neS {K : PySem.W.Frag} {x y : Str} (h1 : PyData.strOk x = true) (h2 : PyData.strOk y = true) (q : Q (.bl (!decide (x = y))) M) : W2 K (rNeD K) (.dat (.str x)) (.dat (.str y)) M Q := w2_ne (shaped_str h1) (shaped_str h2) (by rw [eqv_str]; exact q)
theorem w2_eqI {K : PySem.W.Frag} {i j : Int} (q : Q (.bl (decide (i = j))) M) : W2 K (rEqD K) (.dat (.int i)) (.dat (.int j)) M Q := w2_eq (shaped_int i) (shaped_int j) (by rw [eqv_int]; exact q)
theorem w2_neI {K : PySem.W.Frag} {i j : Int} (q : Q (.bl (!decide (i = j))) M) : W2 K (rNeD K) (.dat (.int i)) (.dat (.int j)) M Q := w2_ne (shaped_int i) (shaped_int j) (by rw [eqv_int]; exact q)
theorem ite_d {p : Prop} [Decidable p] {A B : Prop} (h1 : p → A) (h2 : ¬p → B) : if decide p = true then A else B := ite_b (fun h => h1 (of_decide_eq_true h)) (fun h => h2 (of_decide_eq_false h))
theorem ite_n {p : Prop} [Decidable p] {A B : Prop} (h1 : ¬p → A) (h2 : p → B) : if (!decide p) = true then A else B := by
  by_cases h : p
  · rw [decide_eq_true h]; exact h2 h
  · rw [decide_eq_false h]; exact h1 h
theorem w2_ixSAny {K : PySem.W.Frag} {z : Str} {i : Int} (hz : z.length ≤ 100000) (h0 : 0 ≤ i) (h1 : i < z.length) (q : ∀ c ∈ z.cps.toList, Q (.str ⟨#[c]⟩) M) : W2 K rIxS (.str z) (.int i) M Q := by
  have hi : i.toNat < z.cps.toList.length := by
    have : z.cps.toList.length = z.length := by simp [Str.length]
    omega
  exact w2_ixS (c := z.cps.toList[i.toNat]) hz (atI_ok h0 (List.getElem?_eq_getElem hi)) (q _ (List.getElem_mem hi))
end
/-! ### what the draws give -/
def isVal : PyData → Bool
  | .int n => decide (n.natAbs < 10 ^ 30)
  | .str z => goodS z
  | _ => false
theorem isVal_of : ∀ {d : PyData}, isVal d = true → ∃ v : Val, d = v.enc ∧ v.ok
  | .int n, h => ⟨.int n, rfl, show n.natAbs < 10 ^ 30 from of_decide_eq_true h⟩
  | .str z, h => ⟨.str z, rfl, h⟩
def isName : PyData → Bool
  | .str z => goodS z
  | _ => false
theorem isName_of : ∀ {d : PyData}, isName d = true → ∃ z : Str, d = .str z ∧ goodS z = true
  | .str z, h => ⟨z, rfl, h⟩
theorem list_enc {α : Type} {f : α → PyData} {R : α → Prop} : ∀ {ds : List PyData}, (∀ d ∈ ds, ∃ x, d = f x ∧ R x) → ∃ xs : List α, ds = xs.map f ∧ ∀ x ∈ xs, R x
  | [], _ => ⟨[], rfl, fun _ h => nomatch h⟩
  | d :: ds, h => by
    obtain ⟨x, rfl, hx⟩ := h d List.mem_cons_self
    obtain ⟨xs, rfl, hxs⟩ := list_enc (f := f) (R := R) fun e he => h e (List.mem_cons_of_mem _ he)
    refine ⟨x :: xs, rfl, fun y hy => ?_⟩
    rcases List.mem_cons.mp hy with e | hy
    · rw [e]; exact hx
    · exact hxs y hy
theorem join_cps {sep : Str} (hs : sep.cps = #[]) : ∀ ys : List Str, (Str.join sep ys).cps.toList = (ys.map fun z => z.cps.toList).flatten
  | [] => rfl
  | [x] => by simp [Str.join]
  | x :: y :: r => by
    have ih := join_cps hs (y :: r)
    show ((x.cps ++ sep.cps) ++ (Str.join sep (y :: r)).cps).toList = _
    rw [Array.toList_append, Array.toList_append, ih, hs]
    simp
theorem sum_ones {sep : Str} (hs : sep.cps = #[]) : ∀ {ys : List Str}, (∀ z ∈ ys, z.cps.size = 1 ∧ goodS z = true) → (ys.map (·.length)).sum + ys.length * sep.length = ys.length
  | [], _ => by simp
  | z :: r, h => by
    have ih := sum_ones hs (ys := r) fun w hw => h w (List.mem_cons_of_mem _ hw)
    have h0 : sep.length = 0 := by unfold Str.length; rw [hs]; rfl
    have h1 : z.length = 1 := (h z List.mem_cons_self).1
    rw [h0] at ih ⊢
    rw [List.map_cons, List.sum_cons, h1, List.length_cons]
    omega
theorem good_join {sep : Str} {ys : List Str} (hs : sep.cps = #[]) (hl : ys.length ≤ 40) (h : ∀ z ∈ ys, z.cps.size = 1 ∧ goodS z = true) : goodS (Txt.join sep ys) = true := by
  have e : Txt.join sep ys = Str.join sep ys := TL.join_eq sep ys
  rw [e]
  have hc := join_cps hs ys
  have hlen : ∀ ys : List Str, (∀ z ∈ ys, z.cps.size = 1 ∧ goodS z = true) → ((ys.map fun z => z.cps.toList).flatten).length = ys.length := by
    intro ys
    induction ys with
    | nil => intro _; rfl
    | cons z r ih =>
      intro h
      have hz := (h z List.mem_cons_self).1
      rw [List.map_cons, List.flatten_cons, List.length_append, ih fun w hw => h w (List.mem_cons_of_mem _ hw), Array.length_toList, hz, List.length_cons]
      omega
  unfold goodS
  rw [Bool.and_eq_true, List.all_eq_true]
  refine ⟨decide_eq_true ?_, fun c hc' => ?_⟩
  · show (Str.join sep ys).cps.size ≤ 40
    rw [← Array.length_toList, hc, hlen ys h]
    exact hl
  · rw [hc] at hc'
    obtain ⟨l, hl', hcl⟩ := List.mem_flatten.mp hc'
    obtain ⟨z, hz, rfl⟩ := List.mem_map.mp hl'
    have hg := (h z hz).2
    unfold goodS at hg
    rw [Bool.and_eq_true, List.all_eq_true] at hg
    exact hg.2 c hcl
end Ab

set_option Elab.async false
set_option linter.all false
set_option maxRecDepth 100000
set_option  maxHeartbeats 4000000
namespace K06
open PySem PyProof.Rows L2 Ab
def topS (i : Nat) : Stmt := PySem.Challenge.pw_rulestead_k06_disk_keeps_what_was_synced.main.body.getD i (.Pass ⟨0, 0, 0, 0⟩)
abbrev s_Disk___init__ : Stmt := inClass (topS 8) 0
theorem sc_Disk___init__ : FnScope ["self", "sectors", "_"] ["self", "sectors"] (defScope s_Disk___init__) := ⟨rfl, rfl, rfl, by decide +kernel, rfl, by decide +kernel, by decide +kernel⟩
abbrev s_Disk_size : Stmt := inClass (topS 8) 1
theorem sc_Disk_size : FnScope ["self"] ["self"] (defScope s_Disk_size) := ⟨rfl, rfl, rfl, by decide +kernel, rfl, by decide +kernel, by decide +kernel⟩
abbrev s_Disk_read : Stmt := inClass (topS 8) 2
theorem sc_Disk_read : FnScope ["self", "index"] ["self", "index"] (defScope s_Disk_read) := ⟨rfl, rfl, rfl, by decide +kernel, rfl, by decide +kernel, by decide +kernel⟩
abbrev s_Disk_pending : Stmt := inClass (topS 8) 3
theorem sc_Disk_pending : FnScope ["self"] ["self"] (defScope s_Disk_pending) := ⟨rfl, rfl, rfl, by decide +kernel, rfl, by decide +kernel, by decide +kernel⟩
abbrev s_Disk_counts : Stmt := inClass (topS 8) 4
theorem sc_Disk_counts : FnScope ["self"] ["self"] (defScope s_Disk_counts) := ⟨rfl, rfl, rfl, by decide +kernel, rfl, by decide +kernel, by decide +kernel⟩
abbrev s_Disk_lose_power : Stmt := inClass (topS 8) 5
theorem sc_Disk_lose_power : FnScope ["self"] ["self"] (defScope s_Disk_lose_power) := ⟨rfl, rfl, rfl, by decide +kernel, rfl, by decide +kernel, by decide +kernel⟩
abbrev s_Disk_operate : Stmt := inClass (topS 8) 6
theorem sc_Disk_operate : FnScope ["self"] ["self"] (defScope s_Disk_operate) := ⟨rfl, rfl, rfl, by decide +kernel, rfl, by decide +kernel, by decide +kernel⟩
abbrev s_Disk_write : Stmt := inClass (topS 8) 7
theorem sc_Disk_write : FnScope ["self", "index", "data"] ["self", "index", "data"] (defScope s_Disk_write) := ⟨rfl, rfl, rfl, by decide +kernel, rfl, by decide +kernel, by decide +kernel⟩
abbrev s_Disk_sync : Stmt := inClass (topS 8) 8
theorem sc_Disk_sync : FnScope ["self"] ["self"] (defScope s_Disk_sync) := ⟨rfl, rfl, rfl, by decide +kernel, rfl, by decide +kernel, by decide +kernel⟩
abbrev s_Disk_fail_after : Stmt := inClass (topS 8) 9
theorem sc_Disk_fail_after : FnScope ["self", "operations"] ["self", "operations"] (defScope s_Disk_fail_after) := ⟨rfl, rfl, rfl, by decide +kernel, rfl, by decide +kernel, by decide +kernel⟩
abbrev s_Disk_power : Stmt := inClass (topS 8) 10
theorem sc_Disk_power : FnScope ["self", "kept", "arrives", "index", "data"] ["self", "kept"] (defScope s_Disk_power) := ⟨rfl, rfl, rfl, by decide +kernel, rfl, by decide +kernel, by decide +kernel⟩
abbrev s_Disk_is_on : Stmt := inClass (topS 8) 11
theorem sc_Disk_is_on : FnScope ["self"] ["self"] (defScope s_Disk_is_on) := ⟨rfl, rfl, rfl, by decide +kernel, rfl, by decide +kernel, by decide +kernel⟩
abbrev s_Disk_losses : Stmt := inClass (topS 8) 12
theorem sc_Disk_losses : FnScope ["self"] ["self"] (defScope s_Disk_losses) := ⟨rfl, rfl, rfl, by decide +kernel, rfl, by decide +kernel, by decide +kernel⟩
abbrev s_law_next : Stmt := topS 10
theorem sc_law_next : FnScope ["_law_state", "_law_limit", "_law_cell", "_law_value"] ["_law_state", "_law_limit"] (defScope s_law_next) := ⟨rfl, rfl, rfl, by decide +kernel, rfl, by decide +kernel, by decide +kernel⟩
abbrev s_law_same : Stmt := topS 11
theorem sc_law_same : FnScope ["_law_actual", "_law_expected", "_law_k"] ["_law_actual", "_law_expected"] (defScope s_law_same) := ⟨rfl, rfl, rfl, by decide +kernel, rfl, by decide +kernel, by decide +kernel⟩
abbrev s_law_refused : Stmt := topS 12
theorem sc_law_refused : FnScope ["_law_size", "e"] ["_law_size"] (defScope s_law_refused) := ⟨rfl, rfl, rfl, by decide +kernel, rfl, by decide +kernel, by decide +kernel⟩
abbrev s_law_operate : Stmt := topS 13
theorem sc_law_operate : FnScope ["_law_world"] ["_law_world"] (defScope s_law_operate) := ⟨rfl, rfl, rfl, by decide +kernel, rfl, by decide +kernel, by decide +kernel⟩
abbrev s_law_write : Stmt := topS 14
theorem sc_law_write : FnScope ["_law_state", "_law_world", "_law_disk", "_law_index", "_law_start", "_law_data", "_law_k", "_law_due", "_law_passed", "_law_done"] ["_law_state", "_law_world", "_law_disk"] (defScope s_law_write) := ⟨rfl, rfl, rfl, by decide +kernel, rfl, by decide +kernel, by decide +kernel⟩
abbrev s_law_sync : Stmt := topS 15
theorem sc_law_sync : FnScope ["_law_world", "_law_disk", "_law_due", "_law_done", "_law_index", "_law_data"] ["_law_world", "_law_disk"] (defScope s_law_sync) := ⟨rfl, rfl, rfl, by decide +kernel, rfl, by decide +kernel, by decide +kernel⟩
abbrev s_law_fail : Stmt := topS 16
theorem sc_law_fail : FnScope ["_law_state", "_law_world", "_law_disk", "_law_number"] ["_law_state", "_law_world", "_law_disk"] (defScope s_law_fail) := ⟨rfl, rfl, rfl, by decide +kernel, rfl, by decide +kernel, by decide +kernel⟩
abbrev s_law_power : Stmt := topS 17
theorem sc_law_power : FnScope ["_law_state", "_law_world", "_law_disk", "_law_kept", "_law_k"] ["_law_state", "_law_world", "_law_disk"] (defScope s_law_power) := ⟨rfl, rfl, rfl, by decide +kernel, rfl, by decide +kernel, by decide +kernel⟩
abbrev s_law_deed : Stmt := topS 18
theorem sc_law_deed : FnScope ["_law_state", "_law_world", "_law_disk", "_law_pick"] ["_law_state", "_law_world", "_law_disk"] (defScope s_law_deed) := ⟨rfl, rfl, rfl, by decide +kernel, rfl, by decide +kernel, by decide +kernel⟩
abbrev s_law_sector : Stmt := topS 19
theorem sc_law_sector : FnScope ["_law_world", "_law_index", "_law_data", "_law_other", "_law_written"] ["_law_world", "_law_index"] (defScope s_law_sector) := ⟨rfl, rfl, rfl, by decide +kernel, rfl, by decide +kernel, by decide +kernel⟩
abbrev s_law_is_right : Stmt := topS 20
theorem sc_law_is_right : FnScope ["_law_state", "_law_world", "_law_disk", "_law_told", "_law_due", "_law_index", "_law_place", "_law_data", "_law_sector_here"] ["_law_state", "_law_world", "_law_disk"] (defScope s_law_is_right) := ⟨rfl, rfl, rfl, by decide +kernel, rfl, by decide +kernel, by decide +kernel⟩
abbrev s_law : Stmt := topS 21
theorem sc_law : FnScope ["_law_script", "_law_state", "_law_size", "_law_disk", "_law_world", "_law_k", "_law_index"] ["_law_script"] (defScope s_law) := ⟨rfl, rfl, rfl, by decide +kernel, rfl, by decide +kernel, by decide +kernel⟩
structure AD where
  Disk___init__ : Addr
  Disk_size : Addr
  Disk_read : Addr
  Disk_pending : Addr
  Disk_counts : Addr
  Disk_lose_power : Addr
  Disk_operate : Addr
  Disk_write : Addr
  Disk_sync : Addr
  Disk_fail_after : Addr
  Disk_power : Addr
  Disk_is_on : Addr
  Disk_losses : Addr
  law_next : Addr
  law_same : Addr
  law_refused : Addr
  law_operate : Addr
  law_write : Addr
  law_sync : Addr
  law_fail : Addr
  law_power : Addr
  law_deed : Addr
  law_sector : Addr
  law_is_right : Addr
  law : Addr
  Disk : Addr
  InvalidArgument : Addr
  PowerOff : Addr
  RuleError : Addr
  t_FEWEST : Tok
  t_MOST : Tok
  t_SECTOR : Tok
structure FD where
  Disk___init__ : FuncData
  Disk_size : FuncData
  Disk_read : FuncData
  Disk_pending : FuncData
  Disk_counts : FuncData
  Disk_lose_power : FuncData
  Disk_operate : FuncData
  Disk_write : FuncData
  Disk_sync : FuncData
  Disk_fail_after : FuncData
  Disk_power : FuncData
  Disk_is_on : FuncData
  Disk_losses : FuncData
  law_next : FuncData
  law_same : FuncData
  law_refused : FuncData
  law_operate : FuncData
  law_write : FuncData
  law_sync : FuncData
  law_fail : FuncData
  law_power : FuncData
  law_deed : FuncData
  law_sector : FuncData
  law_is_right : FuncData
  law : FuncData
structure Txt (K : PySem.W.Frag) (mg : Str → Option Value) (a : AD) (d : FD) : Prop where
  F_Disk___init__ : Fun K "__init__" "Disk.__init__" s_Disk___init__ a.Disk___init__ d.Disk___init__
  m_Disk___init__ : Meth K a.Disk "__init__" a.Disk___init__
  b_Disk___init__ : Binds K d.Disk___init__ ["self", "sectors"] []
  F_Disk_size : Fun K "size" "Disk.size" s_Disk_size a.Disk_size d.Disk_size
  m_Disk_size : Meth K a.Disk "size" a.Disk_size
  b_Disk_size : Binds K d.Disk_size ["self"] []
  F_Disk_read : Fun K "read" "Disk.read" s_Disk_read a.Disk_read d.Disk_read
  m_Disk_read : Meth K a.Disk "read" a.Disk_read
  b_Disk_read : Binds K d.Disk_read ["self", "index"] []
  F_Disk_pending : Fun K "pending" "Disk.pending" s_Disk_pending a.Disk_pending d.Disk_pending
  m_Disk_pending : Meth K a.Disk "pending" a.Disk_pending
  b_Disk_pending : Binds K d.Disk_pending ["self"] []
  F_Disk_counts : Fun K "counts" "Disk.counts" s_Disk_counts a.Disk_counts d.Disk_counts
  m_Disk_counts : Meth K a.Disk "counts" a.Disk_counts
  b_Disk_counts : Binds K d.Disk_counts ["self"] []
  F_Disk_lose_power : Fun K "lose_power" "Disk.lose_power" s_Disk_lose_power a.Disk_lose_power d.Disk_lose_power
  m_Disk_lose_power : Meth K a.Disk "lose_power" a.Disk_lose_power
  b_Disk_lose_power : Binds K d.Disk_lose_power ["self"] []
  F_Disk_operate : Fun K "operate" "Disk.operate" s_Disk_operate a.Disk_operate d.Disk_operate
  m_Disk_operate : Meth K a.Disk "operate" a.Disk_operate
  b_Disk_operate : Binds K d.Disk_operate ["self"] []
  F_Disk_write : Fun K "write" "Disk.write" s_Disk_write a.Disk_write d.Disk_write
  m_Disk_write : Meth K a.Disk "write" a.Disk_write
  b_Disk_write : Binds K d.Disk_write ["self", "index", "data"] []
  F_Disk_sync : Fun K "sync" "Disk.sync" s_Disk_sync a.Disk_sync d.Disk_sync
  m_Disk_sync : Meth K a.Disk "sync" a.Disk_sync
  b_Disk_sync : Binds K d.Disk_sync ["self"] []
  F_Disk_fail_after : Fun K "fail_after" "Disk.fail_after" s_Disk_fail_after a.Disk_fail_after d.Disk_fail_after
  m_Disk_fail_after : Meth K a.Disk "fail_after" a.Disk_fail_after
  b_Disk_fail_after : Binds K d.Disk_fail_after ["self", "operations"] []
  F_Disk_power : Fun K "power" "Disk.power" s_Disk_power a.Disk_power d.Disk_power
  m_Disk_power : Meth K a.Disk "power" a.Disk_power
  b_Disk_power : Binds K d.Disk_power ["self", "kept"] []
  F_Disk_is_on : Fun K "is_on" "Disk.is_on" s_Disk_is_on a.Disk_is_on d.Disk_is_on
  m_Disk_is_on : Meth K a.Disk "is_on" a.Disk_is_on
  b_Disk_is_on : Binds K d.Disk_is_on ["self"] []
  F_Disk_losses : Fun K "losses" "Disk.losses" s_Disk_losses a.Disk_losses d.Disk_losses
  m_Disk_losses : Meth K a.Disk "losses" a.Disk_losses
  b_Disk_losses : Binds K d.Disk_losses ["self"] []
  F_law_next : Fun K "_law_next" "_law_next" s_law_next a.law_next d.law_next
  g_law_next : mg "_law_next" = some (.ref a.law_next)
  b_law_next : Binds K d.law_next ["_law_state", "_law_limit"] []
  F_law_same : Fun K "_law_same" "_law_same" s_law_same a.law_same d.law_same
  g_law_same : mg "_law_same" = some (.ref a.law_same)
  b_law_same : Binds K d.law_same ["_law_actual", "_law_expected"] []
  F_law_refused : Fun K "_law_refused" "_law_refused" s_law_refused a.law_refused d.law_refused
  g_law_refused : mg "_law_refused" = some (.ref a.law_refused)
  b_law_refused : Binds K d.law_refused ["_law_size"] []
  F_law_operate : Fun K "_law_operate" "_law_operate" s_law_operate a.law_operate d.law_operate
  g_law_operate : mg "_law_operate" = some (.ref a.law_operate)
  b_law_operate : Binds K d.law_operate ["_law_world"] []
  F_law_write : Fun K "_law_write" "_law_write" s_law_write a.law_write d.law_write
  g_law_write : mg "_law_write" = some (.ref a.law_write)
  b_law_write : Binds K d.law_write ["_law_state", "_law_world", "_law_disk"] []
  F_law_sync : Fun K "_law_sync" "_law_sync" s_law_sync a.law_sync d.law_sync
  g_law_sync : mg "_law_sync" = some (.ref a.law_sync)
  b_law_sync : Binds K d.law_sync ["_law_world", "_law_disk"] []
  F_law_fail : Fun K "_law_fail" "_law_fail" s_law_fail a.law_fail d.law_fail
  g_law_fail : mg "_law_fail" = some (.ref a.law_fail)
  b_law_fail : Binds K d.law_fail ["_law_state", "_law_world", "_law_disk"] []
  F_law_power : Fun K "_law_power" "_law_power" s_law_power a.law_power d.law_power
  g_law_power : mg "_law_power" = some (.ref a.law_power)
  b_law_power : Binds K d.law_power ["_law_state", "_law_world", "_law_disk"] []
  F_law_deed : Fun K "_law_deed" "_law_deed" s_law_deed a.law_deed d.law_deed
  g_law_deed : mg "_law_deed" = some (.ref a.law_deed)
  b_law_deed : Binds K d.law_deed ["_law_state", "_law_world", "_law_disk"] []
  F_law_sector : Fun K "_law_sector" "_law_sector" s_law_sector a.law_sector d.law_sector
  g_law_sector : mg "_law_sector" = some (.ref a.law_sector)
  b_law_sector : Binds K d.law_sector ["_law_world", "_law_index"] []
  F_law_is_right : Fun K "_law_is_right" "_law_is_right" s_law_is_right a.law_is_right d.law_is_right
  g_law_is_right : mg "_law_is_right" = some (.ref a.law_is_right)
  b_law_is_right : Binds K d.law_is_right ["_law_state", "_law_world", "_law_disk"] []
  F_law : Fun K "law" "law" s_law a.law d.law
  g_law : mg "law" = some (.ref a.law)
  b_law : Binds K d.law ["_law_script"] []
  g_Disk : mg "Disk" = some (.ref a.Disk)
  cl_Disk : Cls K a.Disk
  mk_Disk : Mk K a.Disk a.Disk___init__
  na_Disk_in_use : NoAttr K a.Disk "in_use"
  na_Disk_lasting : NoAttr K a.Disk "lasting"
  na_Disk_seen : NoAttr K a.Disk "seen"
  na_Disk_waiting : NoAttr K a.Disk "waiting"
  na_Disk_powered : NoAttr K a.Disk "powered"
  na_Disk_left : NoAttr K a.Disk "left"
  na_Disk_failures : NoAttr K a.Disk "failures"
  na_Disk_writes : NoAttr K a.Disk "writes"
  na_Disk_syncs : NoAttr K a.Disk "syncs"
  g_InvalidArgument : mg "InvalidArgument" = some (.ref a.InvalidArgument)
  x_InvalidArgument : PySem.W.excIn K a.InvalidArgument [.type "ValueError", .type "Exception", .type "BaseException", .type "object"] "ValueError.__new__" = true
  kp_InvalidArgument : PySem.W.keepIn K (.ref a.InvalidArgument) = true
  bs_InvalidArgument : PySem.W.subIn K (.ref a.InvalidArgument) (.type "BaseException") = some true
  ty_InvalidArgument : PySem.W.typeIn K (.ref a.InvalidArgument) = some (.type "type")
  hd_InvalidArgument : PySem.W.hasDictIn K a.InvalidArgument = true
  s_InvalidArgument_InvalidArgument : PySem.W.subIn K (.ref a.InvalidArgument) (.ref a.InvalidArgument) = some true
  s_InvalidArgument_PowerOff : PySem.W.subIn K (.ref a.InvalidArgument) (.ref a.PowerOff) = some false
  s_InvalidArgument_RuleError : PySem.W.subIn K (.ref a.InvalidArgument) (.ref a.RuleError) = some true
  g_PowerOff : mg "PowerOff" = some (.ref a.PowerOff)
  x_PowerOff : PySem.W.excIn K a.PowerOff [.type "ValueError", .type "Exception", .type "BaseException", .type "object"] "ValueError.__new__" = true
  kp_PowerOff : PySem.W.keepIn K (.ref a.PowerOff) = true
  bs_PowerOff : PySem.W.subIn K (.ref a.PowerOff) (.type "BaseException") = some true
  ty_PowerOff : PySem.W.typeIn K (.ref a.PowerOff) = some (.type "type")
  hd_PowerOff : PySem.W.hasDictIn K a.PowerOff = true
  s_PowerOff_InvalidArgument : PySem.W.subIn K (.ref a.PowerOff) (.ref a.InvalidArgument) = some false
  s_PowerOff_PowerOff : PySem.W.subIn K (.ref a.PowerOff) (.ref a.PowerOff) = some true
  s_PowerOff_RuleError : PySem.W.subIn K (.ref a.PowerOff) (.ref a.RuleError) = some true
  g_RuleError : mg "RuleError" = some (.ref a.RuleError)
  x_RuleError : PySem.W.excIn K a.RuleError [.type "ValueError", .type "Exception", .type "BaseException", .type "object"] "ValueError.__new__" = true
  kp_RuleError : PySem.W.keepIn K (.ref a.RuleError) = true
  bs_RuleError : PySem.W.subIn K (.ref a.RuleError) (.type "BaseException") = some true
  ty_RuleError : PySem.W.typeIn K (.ref a.RuleError) = some (.type "type")
  hd_RuleError : PySem.W.hasDictIn K a.RuleError = true
  s_RuleError_InvalidArgument : PySem.W.subIn K (.ref a.RuleError) (.ref a.InvalidArgument) = some false
  s_RuleError_PowerOff : PySem.W.subIn K (.ref a.RuleError) (.ref a.PowerOff) = some false
  s_RuleError_RuleError : PySem.W.subIn K (.ref a.RuleError) (.ref a.RuleError) = some true
  xc_InvalidArgument : ExcC K a.InvalidArgument
  ki_InvalidArgument_InvalidArgument : PySem.W.kitOne K (.ref a.InvalidArgument) (.ref a.InvalidArgument) = some true
  ki_InvalidArgument_ValueError : PySem.W.kitOne K (.ref a.InvalidArgument) (.type "ValueError") = some true
  n_ValueError : mg "ValueError" = none
  n_bool : mg "bool" = none
  n_int : mg "int" = none
  n_isinstance : mg "isinstance" = none
  n_len : mg "len" = none
  n_list : mg "list" = none
  n_min : mg "min" = none
  n_range : mg "range" = none
  n_str : mg "str" = none
  n_tuple : mg "tuple" = none
  n_zip : mg "zip" = none
  c_FEWEST : mg "FEWEST" = some (.int 60 a.t_FEWEST)
  c_MOST : mg "MOST" = some (.int 400 a.t_MOST)
  c_SECTOR : mg "SECTOR" = some (.int 64 a.t_SECTOR)
local macro_rules | `(tactic| walk_at "len") => `(tactic| first | decide | omega | (simp only [List.length_append, List.length_map, List.length_replicate, List.length_cons, List.length_nil, List.length_take, List.length_drop, List.length_reverse, List.length_range]; omega))
local macro_rules | `(tactic| walk_at "str") => `(tactic| first | decide +kernel | exact goodS_ok (by assumption) | assumption)
local macro_rules | `(tactic| walk_at "1") => `(tactic| (first
  | (with_reducible refine ws_set ?_)
  | (with_reducible refine ws_ret ?_)
  | (with_reducible refine ws_if ?_)
  | (with_reducible refine ws_drop ?_)
  | (with_reducible refine w_op ?_)
  | (with_reducible refine w_un ?_)
  | (with_reducible refine w_int ?_)
  | (with_reducible refine w_bl ?_)
  | (with_reducible refine w_non ?_)
  | (with_reducible refine w_str ?_)
  | (with_reducible refine w_cb ?_)
  | (with_reducible refine w_call ?_)
  | (with_reducible refine w_sl ?_)
  | (with_reducible refine w_tupD ?_)
  | (with_reducible refine w_chain ?_)
  | (with_reducible refine w_andV ?_)
  | (with_reducible refine w_orV ?_)
  | (with_reducible refine w_notV ?_)
  | (with_reducible refine wo_none ?_)
  | (with_reducible refine wo_some ?_)
  | (with_reducible refine wa_cons ?_)
  | (with_reducible refine wa_nil ?_)
  | (with_reducible refine wt_test ?_)
  | (with_reducible refine wt_B ?_)
  | (with_reducible refine wt_and ?_)
  | (with_reducible refine wt_or ?_)
  | (with_reducible refine wt_not ?_)
  | (with_reducible refine wt_yes ?_)
  | (with_reducible refine w2_i0 ?_)
  | (with_reducible refine w2_b0 ?_)
  | (with_reducible refine w1_neg ?_)
  | ((with_reducible refine w2_i ?hc ?_); (case hc => first | decide | exact ⟨by decide, by decide⟩ | exact Or.inl ⟨by decide, by decide⟩ | exact Or.inr ⟨by decide, by decide⟩ | exact ⟨by decide, by decide, by decide⟩ | omega); skip)
  | ((with_reducible refine' w_var ?hv ?_); (case hv => exact rfl); skip)
  | ((with_reducible show W2 _ (rEqD _) (Sl.dat (PyData.int _)) (Sl.dat (PyData.int _)) _ _); (refine w2_eqI ?_))
  | ((with_reducible show W2 _ (rNeD _) (Sl.dat (PyData.int _)) (Sl.dat (PyData.int _)) _ _); (refine w2_neI ?_))
  | ((with_reducible show W2 _ (rEqD _) (Sl.dat (PyData.str _)) (Sl.dat (PyData.str _)) _ _); (refine' w2_eqS ?h1 ?h2 ?_); (case h1 => walk_at "str"); (case h2 => walk_at "str"); skip)
  | ((with_reducible show W2 _ (rNeD _) (Sl.dat (PyData.str _)) (Sl.dat (PyData.str _)) _ _); (refine' w2_neS ?h1 ?h2 ?_); (case h1 => walk_at "str"); (case h2 => walk_at "str"); skip)
  | ((with_reducible show W2 _ (rEqD _) _ _ _ _); (refine w2_eq ?ha ?hb ?_); (case ha => first | exact shaped_int _ | exact shaped_bool _ | exact shaped_none); (case hb => first | exact shaped_int _ | exact shaped_bool _ | exact shaped_none); skip)
  | ((with_reducible show W2 _ (rNeD _) _ _ _ _); (refine w2_ne ?ha ?hb ?_); (case ha => first | exact shaped_int _ | exact shaped_bool _ | exact shaped_none); (case hb => first | exact shaped_int _ | exact shaped_bool _ | exact shaped_none); skip)
  | ((with_reducible show W2 _ _ _ _ _ _); (refine w2_isN ?_))
  | ((with_reducible show W2 _ rIsB _ _ _ _); (refine w2_isB ?_))
  | ((with_reducible show W2 _ rNotB _ _ _ _); (refine w2_notB ?_))
  | ((with_reducible show W2 _ _ _ _ _ _); (refine w2_notN ?_))
  | (with_reducible refine wl_lenE ?_)
  | (with_reducible refine wl_lenD ?_)
  | (with_reducible refine wl_lenTD ?_)
  | (with_reducible refine wl_listE ?_)
  | (with_reducible refine wsl_E ?_)
  | ((with_reducible refine' w2_catE ?hl ?_); (try (case hl => walk_at "len")); skip)
  | ((with_reducible refine' w2_rep1 ?h1 ?h2 ?_); (try (case h1 => first | decide | omega)); (try (case h2 => first | decide | omega)); skip)
  | ((with_reducible show WL _ _ [_] _ _); (refine' wl_len ?hl ?_); (case hl => first | exact lsv_dat | exact lsv_ref um_same | exact lsv_ref (by assumption)); skip)
  | ((with_reducible show WL _ _ [_] _ _); (refine' wl_list ?hl ?_); (case hl => first | exact .inl lsv_dat | exact .inl (lsv_ref (by assumption))); skip)
  | ((with_reducible show WSl _ (rSlL _) _ _ _ _ _); (refine' wsl_lst ?hl ?_); (case hl => first | exact lsv_dat | exact lsv_ref um_same | exact lsv_ref (by assumption)); skip)
  | ((with_reducible show WL _ _ [_] _ _); (refine wl_int ?_))
  | ((with_reducible show WL _ _ [_] _ _); (refine wl_intb ?_))
  | ((with_reducible show WL _ _ [_, _] _ _); (refine wl_min ?_))
  | ((with_reducible first | show W2 _ (rIxL _) (Sl.dat (PyData.list (List.cons _ _))) (Sl.dat (PyData.int _)) _ _ | show W2 _ (rIxL _) (Sl.dat (PyData.list (List.map PyData.int (List.cons _ _)))) (Sl.dat (PyData.int _)) _ _); (refine' w2_ixAny ?h0 ?h1 ?_); (case h0 => omega); (case h1 => first | omega | (simp only [List.length_cons, List.length_nil, List.length_map]; omega)); skip)
  | ((with_reducible show W2 _ (rIxL _) _ _ _ _); (refine' w2_ixL ?hs ?hx ?_); (case hs => first | exact lsv_dat | exact lsv_ref um_same | exact lsv_ref (by assumption)); (try (case hx => exact rfl)); skip)
  | ((with_reducible show W2 _ (rIxT _) _ _ _ _); (refine' w2_ixT ?hx ?_); (case hx => exact rfl); skip)
  | ((with_reducible show WL _ (rIsi _) [_, _] _ _); (refine' wl_isi ?hb ?_); (case hb => first | exact isi_bool _ | exact isi_int _ | exact isi_str _ | exact isi_tuple _ | exact isi_list _); skip)
  | ((with_reducible show W _ (tC (V.ty _)) _ _ _); (refine w_raw ?_))
  | ((with_reducible show W _ (tC (V.ref _)) _ _ _); (refine w_raw ?_))
  | ((with_reducible show WSl _ (rSlA _) _ _ _ _ _); (refine wsl_tup ?_))
  | ((with_reducible show WL _ (rTupS _) [Sl.dat (PyData.list _)] _ _); (refine wl_tuple lsv_dat ?_))
  | ((with_reducible show W2 _ (rCatA _) _ _ _ _); (refine' w2_catT ?hl ?_); (try (case hl => walk_at "len")); skip)
  | ((with_reducible show WL _ _ [_] _ _); (refine' wl_lenT ?hl ?_); (case hl => exact tpv_dat); skip)
  | ((with_reducible refine' w_fldI ?hv ?hM ?c ?n ?l ?_); (case hv => exact rfl); (case hM => first | assumption | exact um_same); (case c => assumption); (case n => assumption); (case l => walk_at "fl"); skip)
  | ((with_reducible refine' w_dgetI ?hv ?hM ?hx ?_); (case hv => exact rfl); (case hM => first | assumption | exact um_same); (case hx => walk_at "wg"); skip)
  | ((with_reducible refine' ws_fldI ?hv ?c ?n ?_); (case hv => exact rfl); (case c => assumption); (case n => assumption); skip)
  | (with_reducible refine ws_next ?_)
  | (with_reducible refine ite_t rfl ?_)
  | (with_reducible refine ite_f rfl ?_)
  | ((with_reducible refine' ite_t ?hb ?_); (case hb => decide +kernel); skip)
  | ((with_reducible refine' ite_f ?hb ?_); (case hb => decide +kernel); skip)
  | ((with_reducible show ∃ b : Bool, _ = Sl.bl b ∧ _); (with_reducible refine ⟨_, rfl, ?_⟩))
  | ((with_reducible show ∃ i : Int, _ = Sl.int i ∧ _); (with_reducible refine ⟨_, rfl, ?_⟩))
  | ((with_reducible show List.length _ ≤ 100000 ∧ _); (refine ⟨(by simp), ?_⟩))
  | ((with_reducible show ∃ ds : List PyData, datsOf _ = some ds ∧ _); (refine ⟨_, rfl, ?_⟩))))
local macro_rules | `(tactic| walk_at "e") => `(tactic| repeat (first | (with_reducible refine ws_seq ?_) | (walk_at "1")))
local macro_rules | `(tactic| walk_at "g") => `(tactic| repeat (first | (walk_at "1") | ((with_reducible refine w_lstI (wa_cons ?_)); (repeat (walk_at "1")); (with_reducible show ∃ ns : List Int, itemsI _ = some ns ∧ _); (refine ⟨_, rfl, ?_⟩)) | (with_reducible refine w_lstD ?_)))
local macro_rules | `(tactic| walk_at "f") => `(tactic| repeat (first | (with_reducible refine ws_seq ?_) | (walk_at "1") | ((with_reducible refine w_lstI (wa_cons ?_)); (repeat (walk_at "1")); (with_reducible show ∃ ns : List Int, itemsI _ = some ns ∧ _); (refine ⟨_, rfl, ?_⟩)) | (with_reducible refine w_lstD ?_)))
local macro_rules | `(tactic| walk_at "k") => `(tactic| first | dsimp only [cxOf, Cx.nox, Cx.wish] | skip)

structure Dk where
  use : Bool
  lasting : List (List Int)
  seen : List (List Int)
  waiting : List (Int × List Int)
  on : Bool
  left : Option Int
  failures : Int
  writes : Int
  syncs : Int
structure DA where
  o : Addr
  dx : Addr
  l : Addr
  s : Addr
  w : Addr
def Dk.sUse (t : Dk) (x : Bool) : Dk := { t with use := x }
def Dk.sOn (t : Dk) (x : Bool) : Dk := { t with on := x }
def Dk.sLeft (t : Dk) (x : Option Int) : Dk := { t with left := x }
def Dk.sFail (t : Dk) (x : Int) : Dk := { t with failures := x }
def Dk.sWr (t : Dk) (x : Int) : Dk := { t with writes := x }
def Dk.sSy (t : Dk) (x : Int) : Dk := { t with syncs := x }
def Dk.sLa (t : Dk) (x : List (List Int)) : Dk := { t with lasting := x }
def Dk.sSe (t : Dk) (x : List (List Int)) : Dk := { t with seen := x }
def Dk.sWa (t : Dk) (x : List (Int × List Int)) : Dk := { t with waiting := x }
def DA.sL (A : DA) (x : Addr) : DA := { A with l := x }
def DA.sS (A : DA) (x : Addr) : DA := { A with s := x }
def DA.sW (A : DA) (x : Addr) : DA := { A with w := x }
def leftS : Option Int → Sl
  | none => .non
  | some i => .int i
def rowsS (xs : List (List Int)) : MO := .lst (xs.map fun d => lsm .int d)
def waitS (xs : List (Int × List Int)) : MO := .lst (xs.map fun p => .dat (.tuple [.int p.1, .list (p.2.map .int)]))
def fldS (A : DA) (t : Dk) : List (Str × Sl) := [("in_use", .bl t.use), ("lasting", .raw (.ref A.l)), ("seen", .raw (.ref A.s)), ("waiting", .raw (.ref A.w)), ("powered", .bl t.on), ("left", leftS t.left), ("failures", .int t.failures), ("writes", .int t.writes), ("syncs", .int t.syncs)]
def dkS (C : Addr) (A : DA) (t : Dk) : MO := .ins C A.dx (fldS A t)
theorem fl_use (A : DA) (t : Dk) : (fldS A t).lookup ("in_use" : Str) = some (.bl t.use : Sl) := by kernel_rfl
theorem fl_l (A : DA) (t : Dk) : (fldS A t).lookup ("lasting" : Str) = some (.raw (.ref A.l) : Sl) := by kernel_rfl
theorem fl_s (A : DA) (t : Dk) : (fldS A t).lookup ("seen" : Str) = some (.raw (.ref A.s) : Sl) := by kernel_rfl
theorem fl_w (A : DA) (t : Dk) : (fldS A t).lookup ("waiting" : Str) = some (.raw (.ref A.w) : Sl) := by kernel_rfl
theorem fl_on (A : DA) (t : Dk) : (fldS A t).lookup ("powered" : Str) = some (.bl t.on : Sl) := by kernel_rfl
theorem fl_left (A : DA) (t : Dk) : (fldS A t).lookup ("left" : Str) = some (leftS t.left : Sl) := by kernel_rfl
theorem fl_failures (A : DA) (t : Dk) : (fldS A t).lookup ("failures" : Str) = some (.int t.failures : Sl) := by kernel_rfl
theorem fl_writes (A : DA) (t : Dk) : (fldS A t).lookup ("writes" : Str) = some (.int t.writes : Sl) := by kernel_rfl
theorem fl_syncs (A : DA) (t : Dk) : (fldS A t).lookup ("syncs" : Str) = some (.int t.syncs : Sl) := by kernel_rfl
theorem pf_use (A : DA) (t : Dk) (x : Bool) : putS "in_use" (.bl x) (fldS A t) = fldS A (t.sUse x) := by kernel_rfl
theorem pf_on (A : DA) (t : Dk) (x : Bool) : putS "powered" (.bl x) (fldS A t) = fldS A (t.sOn x) := by kernel_rfl
theorem pf_left (A : DA) (t : Dk) (x : Option Int) : putS "left" (leftS x) (fldS A t) = fldS A (t.sLeft x) := by kernel_rfl
theorem pf_failures (A : DA) (t : Dk) (x : Int) : putS "failures" (.int x) (fldS A t) = fldS A (t.sFail x) := by kernel_rfl
theorem pf_writes (A : DA) (t : Dk) (x : Int) : putS "writes" (.int x) (fldS A t) = fldS A (t.sWr x) := by kernel_rfl
theorem pf_syncs (A : DA) (t : Dk) (x : Int) : putS "syncs" (.int x) (fldS A t) = fldS A (t.sSy x) := by kernel_rfl
theorem pf_l (A : DA) (t : Dk) (x : Addr) : putS "lasting" (.raw (.ref x)) (fldS A t) = fldS (A.sL x) t := by kernel_rfl
theorem pf_s (A : DA) (t : Dk) (x : Addr) : putS "seen" (.raw (.ref x)) (fldS A t) = fldS (A.sS x) t := by kernel_rfl
theorem pf_w (A : DA) (t : Dk) (x : Addr) : putS "waiting" (.raw (.ref x)) (fldS A t) = fldS (A.sW x) t := by kernel_rfl
theorem pf_leftN (A : DA) (t : Dk) : putS "left" .non (fldS A t) = fldS A (t.sLeft none) := by kernel_rfl
theorem pf_leftI (A : DA) (t : Dk) (i : Int) : putS "left" (.int i) (fldS A t) = fldS A (t.sLeft (some i)) := by kernel_rfl
theorem fl_len (A : DA) (t : Dk) : (fldS A t).length < 1000 := by show 9 < 1000; decide
local macro_rules | `(tactic| walk_at "fl") => `(tactic| with_reducible first | exact fl_use _ _ | exact fl_l _ _ | exact fl_s _ _ | exact fl_w _ _ | exact fl_on _ _ | exact fl_left _ _ | exact fl_failures _ _ | exact fl_writes _ _ | exact fl_syncs _ _)

structure DkAt (C : Addr) (M : MH) (A : DA) (t : Dk) : Prop where
  ho : M A.o = some (dkS C A t)
  hl : M A.l = some (rowsS t.lasting)
  hs : M A.s = some (rowsS t.seen)
  hw : M A.w = some (waitS t.waiting)
  n1 : A.l ≠ A.s
  n2 : A.l ≠ A.w
  n3 : A.s ≠ A.w
def DA.own (A : DA) (a : Addr) : Prop := a = A.o ∨ a = A.l ∨ a = A.s ∨ a = A.w
/-- all but the disk's own stands as it stood, and is none of the disk's new own -/
def Fr (M M' : MH) (A A' : DA) : Prop := A'.o = A.o ∧ ∀ a u, M a = some u → ¬ A.own a → M' a = some u ∧ ¬ A'.own a
section
variable {P : Program} {w : World} {K : PySem.W.Frag} {mg : Str → Option Value} {base : Heap} {a : AD} {d : FD}
section
variable {C : Addr} {A : DA} {t : Dk} {M : MH}
theorem lsv_rows {xs : List (List Int)} {p : Addr} (h : M p = some (rowsS xs)) : LsV K (.raw (.ref p)) M (xs.map fun d => lsm .int d) := lsv_ref h
end
def A_size (C : Addr) : ASp := fun ss M Q => ∃ A t, ss = [.raw (.ref A.o)] ∧ DkAt C M A t ∧ Q (.int t.lasting.length) M
theorem ok_size (T : Txt K mg a d) : FnOk P w K mg base CX0 1 a.Disk_size d.Disk_size ["self"] (conc K (A_size a.Disk)) := by
  have cl := T.cl_Disk
  have n1 := T.na_Disk_lasting
  refine ab_ok T.F_Disk_size sc_Disk_size (fun ss M Q ⟨A, t, e, _⟩ => by subst e; rfl) fun cdv Ar outer s H E hr => ⟨_, (pss_one (ps_ret (pe_callB (r := rLenS K) call_len_seq (by rfl) T.n_len PySem.boot_len (pa_cons (pe_fld (pv 0) rfl) pa_nil)))), ?_⟩
  rintro ss M Q ⟨A, t, rfl, h, q⟩
  have ho := h.ho
  unfold dkS at ho
  walk_at "k"
  show WS K _ [some (.raw (.ref A.o))] M _
  walk_at "e"
  refine wl_len (lsv_ref h.hl) ?_
  rw [List.length_map]
  exact q
theorem DkAt.put {C : Addr} {A : DA} {t t' : Dk} {M : MH} (h : DkAt C M A t) (e1 : t'.lasting = t.lasting) (e2 : t'.seen = t.seen) (e3 : t'.waiting = t.waiting) : DkAt C (um M A.o (dkS C A t')) A t' := by
  have n : ∀ b x, M b = some (.lst x) → b ≠ A.o := fun b x hb e => by rw [e, h.ho] at hb; cases hb
  refine ⟨um_same, ?_, ?_, ?_, h.n1, h.n2, h.n3⟩
  · rw [um_ne (n _ _ h.hl), e1]; exact h.hl
  · rw [um_ne (n _ _ h.hs), e2]; exact h.hs
  · rw [um_ne (n _ _ h.hw), e3]; exact h.hw
theorem Fr.put {A : DA} {M : MH} {x : MO} : Fr M (um M A.o x) A A := ⟨rfl, fun b u hb hn => ⟨by rw [um_ne fun e => hn (.inl e)]; exact hb, hn⟩⟩
theorem Fr.refl {A : DA} {M : MH} : Fr M M A A := ⟨rfl, fun b u hb hn => ⟨hb, hn⟩⟩
theorem Fr.trans {A A' A2 : DA} {M M' M2 : MH} (h : Fr M M' A A') (h' : Fr M' M2 A' A2) : Fr M M2 A A2 := ⟨h'.1.trans h.1, fun b u hb hn => by
  obtain ⟨h1, h2⟩ := h.2 b u hb hn
  exact h'.2 b u h1 h2⟩
def A_read (C : Addr) : ASp := fun ss M Q => ∃ A t i, ss = [.raw (.ref A.o), .int i] ∧ DkAt C M A t ∧ 0 ≤ i ∧ i < t.seen.length ∧ ∀ p, M p = none → Q (.raw (.ref p)) (um M p (.lst (((t.seen.getD i.toNat []).map PyData.int).map .dat)))
theorem ok_read (T : Txt K mg a d) : FnOk P w K mg base CX0 1 a.Disk_read d.Disk_read ["self", "index"] (conc K (A_read a.Disk)) := by
  have cl := T.cl_Disk
  have n1 := T.na_Disk_seen
  refine ab_ok T.F_Disk_read sc_Disk_read (fun ss M Q ⟨A, t, i, e, _⟩ => by subst e; rfl) fun cdv Ar outer s H E hr => ⟨_, (pss_one (ps_ret (pe_callTy (r := rListS K) call_list_of (by rfl) T.n_list (by decide +kernel) (pa_cons (pe_ix (r := rIxL K) ix_list (pe_fld (pv 0) rfl) (pv 1) (fun _ _ => rfl)) pa_nil)))), ?_⟩
  rintro ss M Q ⟨A, t, i, rfl, h, i0, i1, q⟩
  have ho := h.ho
  unfold dkS at ho
  have hi : i.toNat < t.seen.length := by omega
  walk_at "k"
  show WS K _ [some (.raw (.ref A.o)), some (.int i)] M _
  walk_at "e"
  refine w2_ixL (x := lsm .int (t.seen.getD i.toNat [])) (lsv_ref h.hs) (atI_ok i0 ?_) ?_
  · rw [List.getElem?_map, List.getElem?_eq_getElem hi, List.getD_eq_getElem?_getD, List.getElem?_eq_getElem hi]
    rfl
  refine wa_nil ?_
  refine wl_listM (.inl lsv_dat) q
def A_pending (C : Addr) : ASp := fun ss M Q => ∃ A t, ss = [.raw (.ref A.o)] ∧ DkAt C M A t ∧ Q (.int t.waiting.length) M
theorem ok_pending (T : Txt K mg a d) : FnOk P w K mg base CX0 1 a.Disk_pending d.Disk_pending ["self"] (conc K (A_pending a.Disk)) := by
  have cl := T.cl_Disk
  have n1 := T.na_Disk_waiting
  refine ab_ok T.F_Disk_pending sc_Disk_pending (fun ss M Q ⟨A, t, e, _⟩ => by subst e; rfl) fun cdv Ar outer s H E hr => ⟨_, (pss_one (ps_ret (pe_callB (r := rLenS K) call_len_seq (by rfl) T.n_len PySem.boot_len (pa_cons (pe_fld (pv 0) rfl) pa_nil)))), ?_⟩
  rintro ss M Q ⟨A, t, rfl, h, q⟩
  have ho := h.ho
  unfold dkS at ho
  walk_at "k"
  show WS K _ [some (.raw (.ref A.o))] M _
  walk_at "e"
  refine wl_len (lsv_ref h.hw) ?_
  rw [List.length_map]
  exact q
def A_counts (C : Addr) : ASp := fun ss M Q => ∃ A t, ss = [.raw (.ref A.o)] ∧ DkAt C M A t ∧ Q (.dat (.tuple [.int t.writes, .int t.syncs])) M
theorem ok_counts (T : Txt K mg a d) : FnOk P w K mg base CX0 1 a.Disk_counts d.Disk_counts ["self"] (conc K (A_counts a.Disk)) := by
  have cl := T.cl_Disk
  have n1 := T.na_Disk_writes
  have n2 := T.na_Disk_syncs
  refine ab_ok T.F_Disk_counts sc_Disk_counts (fun ss M Q ⟨A, t, e, _⟩ => by subst e; rfl) fun cdv Ar outer s H E hr => ⟨_, (pss_one (ps_ret (pe_tup (pa_cons (pe_fld (pv 0) rfl) (pa_cons (pe_fld (pv 0) rfl) pa_nil))))), ?_⟩
  rintro ss M Q ⟨A, t, rfl, h, q⟩
  have ho := h.ho
  unfold dkS at ho
  walk_at "k"
  show WS K _ [some (.raw (.ref A.o))] M _
  walk_at "e"
  exact q
def A_is_on (C : Addr) : ASp := fun ss M Q => ∃ A t, ss = [.raw (.ref A.o)] ∧ DkAt C M A t ∧ Q (.bl t.on) M
theorem ok_is_on (T : Txt K mg a d) : FnOk P w K mg base CX0 1 a.Disk_is_on d.Disk_is_on ["self"] (conc K (A_is_on a.Disk)) := by
  have cl := T.cl_Disk
  have n1 := T.na_Disk_powered
  refine ab_ok T.F_Disk_is_on sc_Disk_is_on (fun ss M Q ⟨A, t, e, _⟩ => by subst e; rfl) fun cdv Ar outer s H E hr => ⟨_, (pss_one (ps_ret (pe_fld (pv 0) rfl))), ?_⟩
  rintro ss M Q ⟨A, t, rfl, h, q⟩
  have ho := h.ho
  unfold dkS at ho
  walk_at "k"
  show WS K _ [some (.raw (.ref A.o))] M _
  walk_at "e"
  exact q
def A_losses (C : Addr) : ASp := fun ss M Q => ∃ A t, ss = [.raw (.ref A.o)] ∧ DkAt C M A t ∧ Q (.int t.failures) M
theorem ok_losses (T : Txt K mg a d) : FnOk P w K mg base CX0 1 a.Disk_losses d.Disk_losses ["self"] (conc K (A_losses a.Disk)) := by
  have cl := T.cl_Disk
  have n1 := T.na_Disk_failures
  refine ab_ok T.F_Disk_losses sc_Disk_losses (fun ss M Q ⟨A, t, e, _⟩ => by subst e; rfl) fun cdv Ar outer s H E hr => ⟨_, (pss_one (ps_ret (pe_fld (pv 0) rfl))), ?_⟩
  rintro ss M Q ⟨A, t, rfl, h, q⟩
  have ho := h.ho
  unfold dkS at ho
  walk_at "k"
  show WS K _ [some (.raw (.ref A.o))] M _
  walk_at "e"
  exact q
def lost (t : Dk) : Dk := (((t.sOn false).sUse false).sLeft none).sFail (t.failures + 1)
def A_lose (C : Addr) : ASp := fun ss M Q => ∃ A t, ss = [.raw (.ref A.o)] ∧ DkAt C M A t ∧ Q .non (um M A.o (dkS C A (lost t)))
theorem ok_lose (T : Txt K mg a d) : FnOk P w K mg base CX0 1 a.Disk_lose_power d.Disk_lose_power ["self"] (conc K (A_lose a.Disk)) := by
  have cl := T.cl_Disk
  have n1 := T.na_Disk_powered
  have n2 := T.na_Disk_in_use
  have n3 := T.na_Disk_left
  have n4 := T.na_Disk_failures
  refine ab_ok T.F_Disk_lose_power sc_Disk_lose_power (fun ss M Q ⟨A, t, e, _⟩ => by subst e; rfl) fun cdv Ar outer s H E hr => ⟨_, (pss_cons (ps_fld (pv 0) pe_bl rfl)
  (pss_cons (ps_fld (pv 0) pe_bl rfl)
  (pss_cons (ps_fld (pv 0) pe_non rfl)
  (pss_one (ps_fldaug (pv 0) pe_int in_add))))), ?_⟩
  rintro ss M Q ⟨A, t, rfl, h, q⟩
  have ho := h.ho
  unfold dkS at ho
  walk_at "k"
  show WS K _ [some (.raw (.ref A.o))] M _
  walk_at "e"
  refine ⟨_, _, ho, fl_len _ _, ?_⟩
  rw [pf_on]
  walk_at "e"
  refine ⟨_, _, um_same, fl_len _ _, ?_⟩
  rw [pf_use, um_um]
  walk_at "e"
  refine ⟨_, _, um_same, fl_len _ _, ?_⟩
  rw [pf_leftN, um_um]
  walk_at "e"
  refine ws_fldaug rd_add (w_var rfl ⟨_, _, _, _, t.failures, rfl, um_same, cl, n4, fl_failures _ _, ?_⟩)
  walk_at "e"
  refine ⟨um_same, fl_len _ _, ?_⟩
  rw [pf_failures, um_um]
  exact q
end
end K06


set_option Elab.async false
set_option linter.all false
set_option maxRecDepth 100000
set_option  maxHeartbeats 4000000
namespace K06
open PySem PyProof.Rows L2 Ab
local macro_rules | `(tactic| walk_at "len") => `(tactic| first | decide | omega | (simp only [List.length_append, List.length_map, List.length_replicate, List.length_cons, List.length_nil, List.length_take, List.length_drop, List.length_reverse, List.length_range]; omega))
local macro_rules | `(tactic| walk_at "str") => `(tactic| first | decide +kernel | exact goodS_ok (by assumption) | assumption)
local macro_rules | `(tactic| walk_at "1") => `(tactic| (first
  | (with_reducible refine ws_set ?_)
  | (with_reducible refine ws_ret ?_)
  | (with_reducible refine ws_if ?_)
  | (with_reducible refine ws_drop ?_)
  | (with_reducible refine w_op ?_)
  | (with_reducible refine w_un ?_)
  | (with_reducible refine w_int ?_)
  | (with_reducible refine w_bl ?_)
  | (with_reducible refine w_non ?_)
  | (with_reducible refine w_str ?_)
  | (with_reducible refine w_cb ?_)
  | (with_reducible refine w_call ?_)
  | (with_reducible refine w_sl ?_)
  | (with_reducible refine w_tupD ?_)
  | (with_reducible refine w_chain ?_)
  | (with_reducible refine w_andV ?_)
  | (with_reducible refine w_orV ?_)
  | (with_reducible refine w_notV ?_)
  | (with_reducible refine wo_none ?_)
  | (with_reducible refine wo_some ?_)
  | (with_reducible refine wa_cons ?_)
  | (with_reducible refine wa_nil ?_)
  | (with_reducible refine wt_test ?_)
  | (with_reducible refine wt_B ?_)
  | (with_reducible refine wt_and ?_)
  | (with_reducible refine wt_or ?_)
  | (with_reducible refine wt_not ?_)
  | (with_reducible refine wt_yes ?_)
  | (with_reducible refine w2_i0 ?_)
  | (with_reducible refine w2_b0 ?_)
  | (with_reducible refine w1_neg ?_)
  | ((with_reducible refine w2_i ?hc ?_); (case hc => first | decide | exact ⟨by decide, by decide⟩ | exact Or.inl ⟨by decide, by decide⟩ | exact Or.inr ⟨by decide, by decide⟩ | exact ⟨by decide, by decide, by decide⟩ | omega); skip)
  | ((with_reducible refine' w_var ?hv ?_); (case hv => exact rfl); skip)
  | ((with_reducible show W2 _ (rEqD _) (Sl.dat (PyData.int _)) (Sl.dat (PyData.int _)) _ _); (refine w2_eqI ?_))
  | ((with_reducible show W2 _ (rNeD _) (Sl.dat (PyData.int _)) (Sl.dat (PyData.int _)) _ _); (refine w2_neI ?_))
  | ((with_reducible show W2 _ (rEqD _) (Sl.dat (PyData.str _)) (Sl.dat (PyData.str _)) _ _); (refine' w2_eqS ?h1 ?h2 ?_); (case h1 => walk_at "str"); (case h2 => walk_at "str"); skip)
  | ((with_reducible show W2 _ (rNeD _) (Sl.dat (PyData.str _)) (Sl.dat (PyData.str _)) _ _); (refine' w2_neS ?h1 ?h2 ?_); (case h1 => walk_at "str"); (case h2 => walk_at "str"); skip)
  | ((with_reducible show W2 _ (rEqD _) _ _ _ _); (refine w2_eq ?ha ?hb ?_); (case ha => first | exact shaped_int _ | exact shaped_bool _ | exact shaped_none); (case hb => first | exact shaped_int _ | exact shaped_bool _ | exact shaped_none); skip)
  | ((with_reducible show W2 _ (rNeD _) _ _ _ _); (refine w2_ne ?ha ?hb ?_); (case ha => first | exact shaped_int _ | exact shaped_bool _ | exact shaped_none); (case hb => first | exact shaped_int _ | exact shaped_bool _ | exact shaped_none); skip)
  | ((with_reducible show W2 _ _ _ _ _ _); (refine w2_isN ?_))
  | ((with_reducible show W2 _ rIsB _ _ _ _); (refine w2_isB ?_))
  | ((with_reducible show W2 _ rNotB _ _ _ _); (refine w2_notB ?_))
  | ((with_reducible show W2 _ _ _ _ _ _); (refine w2_notN ?_))
  | (with_reducible refine wl_lenE ?_)
  | (with_reducible refine wl_lenD ?_)
  | (with_reducible refine wl_lenTD ?_)
  | (with_reducible refine wl_listE ?_)
  | (with_reducible refine wsl_E ?_)
  | ((with_reducible refine' w2_catE ?hl ?_); (try (case hl => walk_at "len")); skip)
  | ((with_reducible refine' w2_rep1 ?h1 ?h2 ?_); (try (case h1 => first | decide | omega)); (try (case h2 => first | decide | omega)); skip)
  | ((with_reducible show WL _ _ [_] _ _); (refine' wl_len ?hl ?_); (case hl => first | exact lsv_dat | exact lsv_ref um_same | exact lsv_ref (by assumption)); skip)
  | ((with_reducible show WL _ _ [_] _ _); (refine' wl_list ?hl ?_); (case hl => first | exact .inl lsv_dat | exact .inl (lsv_ref (by assumption))); skip)
  | ((with_reducible show WSl _ (rSlL _) _ _ _ _ _); (refine' wsl_lst ?hl ?_); (case hl => first | exact lsv_dat | exact lsv_ref um_same | exact lsv_ref (by assumption)); skip)
  | ((with_reducible show WL _ _ [_] _ _); (refine wl_int ?_))
  | ((with_reducible show WL _ _ [_] _ _); (refine wl_intb ?_))
  | ((with_reducible show WL _ _ [_, _] _ _); (refine wl_min ?_))
  | ((with_reducible first | show W2 _ (rIxL _) (Sl.dat (PyData.list (List.cons _ _))) (Sl.dat (PyData.int _)) _ _ | show W2 _ (rIxL _) (Sl.dat (PyData.list (List.map PyData.int (List.cons _ _)))) (Sl.dat (PyData.int _)) _ _); (refine' w2_ixAny ?h0 ?h1 ?_); (case h0 => omega); (case h1 => first | omega | (simp only [List.length_cons, List.length_nil, List.length_map]; omega)); skip)
  | ((with_reducible show W2 _ (rIxL _) _ _ _ _); (refine' w2_ixL ?hs ?hx ?_); (case hs => first | exact lsv_dat | exact lsv_ref um_same | exact lsv_ref (by assumption)); (try (case hx => exact rfl)); skip)
  | ((with_reducible show W2 _ (rIxT _) _ _ _ _); (refine' w2_ixT ?hx ?_); (case hx => exact rfl); skip)
  | ((with_reducible show WL _ (rIsi _) [_, _] _ _); (refine' wl_isi ?hb ?_); (case hb => first | exact isi_bool _ | exact isi_int _ | exact isi_str _ | exact isi_tuple _ | exact isi_list _); skip)
  | ((with_reducible show W _ (tC (V.ty _)) _ _ _); (refine w_raw ?_))
  | ((with_reducible show W _ (tC (V.ref _)) _ _ _); (refine w_raw ?_))
  | ((with_reducible show WSl _ (rSlA _) _ _ _ _ _); (refine wsl_tup ?_))
  | ((with_reducible show WL _ (rTupS _) [Sl.dat (PyData.list _)] _ _); (refine wl_tuple lsv_dat ?_))
  | ((with_reducible show W2 _ (rCatA _) _ _ _ _); (refine' w2_catT ?hl ?_); (try (case hl => walk_at "len")); skip)
  | ((with_reducible show WL _ _ [_] _ _); (refine' wl_lenT ?hl ?_); (case hl => exact tpv_dat); skip)
  | ((with_reducible refine' w_fldI ?hv ?hM ?c ?n ?l ?_); (case hv => exact rfl); (case hM => first | assumption | exact um_same); (case c => assumption); (case n => assumption); (case l => walk_at "fl"); skip)
  | ((with_reducible refine' w_dgetI ?hv ?hM ?hx ?_); (case hv => exact rfl); (case hM => first | assumption | exact um_same); (case hx => walk_at "wg"); skip)
  | ((with_reducible refine' ws_fldI ?hv ?c ?n ?_); (case hv => exact rfl); (case c => assumption); (case n => assumption); skip)
  | (with_reducible refine ws_next ?_)
  | (with_reducible refine ite_t rfl ?_)
  | (with_reducible refine ite_f rfl ?_)
  | ((with_reducible refine' ite_t ?hb ?_); (case hb => decide +kernel); skip)
  | ((with_reducible refine' ite_f ?hb ?_); (case hb => decide +kernel); skip)
  | ((with_reducible show ∃ b : Bool, _ = Sl.bl b ∧ _); (with_reducible refine ⟨_, rfl, ?_⟩))
  | ((with_reducible show ∃ i : Int, _ = Sl.int i ∧ _); (with_reducible refine ⟨_, rfl, ?_⟩))
  | ((with_reducible show List.length _ ≤ 100000 ∧ _); (refine ⟨(by simp), ?_⟩))
  | ((with_reducible show ∃ ds : List PyData, datsOf _ = some ds ∧ _); (refine ⟨_, rfl, ?_⟩))))
local macro_rules | `(tactic| walk_at "e") => `(tactic| repeat (first | (with_reducible refine ws_seq ?_) | (walk_at "1")))
local macro_rules | `(tactic| walk_at "g") => `(tactic| repeat (first | (walk_at "1") | ((with_reducible refine w_lstI (wa_cons ?_)); (repeat (walk_at "1")); (with_reducible show ∃ ns : List Int, itemsI _ = some ns ∧ _); (refine ⟨_, rfl, ?_⟩)) | (with_reducible refine w_lstD ?_)))
local macro_rules | `(tactic| walk_at "f") => `(tactic| repeat (first | (with_reducible refine ws_seq ?_) | (walk_at "1") | ((with_reducible refine w_lstI (wa_cons ?_)); (repeat (walk_at "1")); (with_reducible show ∃ ns : List Int, itemsI _ = some ns ∧ _); (refine ⟨_, rfl, ?_⟩)) | (with_reducible refine w_lstD ?_)))
local macro_rules | `(tactic| walk_at "k") => `(tactic| first | dsimp only [cxOf, Cx.nox, Cx.wish] | skip)

local macro_rules | `(tactic| walk_at "fl") => `(tactic| with_reducible first | exact fl_use _ _ | exact fl_l _ _ | exact fl_s _ _ | exact fl_w _ _ | exact fl_on _ _ | exact fl_left _ _ | exact fl_failures _ _ | exact fl_writes _ _ | exact fl_syncs _ _)

section
variable {P : Program} {w : World} {K : PySem.W.Frag} {mg : Str → Option Value} {base : Heap} {a : AD} {d : FD}
def cut (t : Dk) : Dk := if t.on = true ∧ t.left = some 0 then lost t else t
def stp (t : Dk) : Dk := match t.left with
  | none => t
  | some i => t.sLeft (some (i - 1))
theorem cut_same (t : Dk) : (cut t).lasting = t.lasting ∧ (cut t).seen = t.seen ∧ (cut t).waiting = t.waiting := by
  unfold cut
  split <;> exact ⟨rfl, rfl, rfl⟩
theorem stp_same (t : Dk) : (stp t).lasting = t.lasting ∧ (stp t).seen = t.seen ∧ (stp t).waiting = t.waiting := by
  unfold stp
  split <;> exact ⟨rfl, rfl, rfl⟩
theorem ok_left (x : Option Int) : okD 0 (match x with | none => PyData.none | some i => .int i) = true := by cases x <;> rfl
def A_operate (C Ex : Addr) : ASpX := fun ss M Q X => ∃ A t, ss = [.raw (.ref A.o)] ∧ DkAt C M A t ∧ (∀ M', DkAt C M' A (cut t) → Fr M M' A A → (cut t).on = false → X (.ref Ex) none M') ∧ ∀ M', DkAt C M' A (stp (cut t)) → Fr M M' A A → (cut t).on = true → Q .non M'
theorem ok_operate (T : Txt K mg a d) : FnOk P w K mg base (L2.CX P w) 2 a.Disk_operate d.Disk_operate ["self"] (concX K (A_operate a.Disk a.PowerOff)) := by
  have cl := T.cl_Disk
  have n1 := T.na_Disk_powered
  have n3 := T.na_Disk_left
  have G_Disk_lose_power : FnOk P w K mg base CX0 1 a.Disk_lose_power d.Disk_lose_power ["self"] (conc K (A_lose a.Disk)) := ok_lose T
  refine ab_okX T.F_Disk_operate sc_Disk_operate (fun ss M Q X ⟨A, t, e, _⟩ => by subst e; rfl) fun cdv Ar outer s H E hr => ?_
  have hu64 := hr.units
  refine ⟨_, (pss_cons (ps_if (PW.pt (pw_and (pt_val (pe_fld (pv 0) rfl)) (pw_and1 (pt_cmpR (r := rEqD K) (op_eqD hu64) (pe_fld (pv 0) rfl) pe_int (nomark _))))) (pss_one (ps_expr (pe_meth0 (pv 0) T.cl_Disk T.m_Disk_lose_power G_Disk_lose_power (hr.mono (by omega)) T.b_Disk_lose_power .nil pass0))) pss_nil)
  (pss_cons (ps_if (pt_not (pt_val (pe_fld (pv 0) rfl))) (pss_one (ps_raise rfl (takes_of rfl rfl rfl rfl) (pmk_own PySem.F.excBase_ValueError T.x_PowerOff T.g_PowerOff T.kp_PowerOff (raises_own T.bs_PowerOff T.ty_PowerOff) rfl))) pss_nil)
  (pss_one (ps_if (pt_cmpR op_notN (pe_fld (pv 0) rfl) pe_non (nomark _)) (pss_one (ps_fld (pv 0) (pe_op op_sub (pe_fld (pv 0) rfl) pe_int) rfl)) pss_nil)))), ?_⟩
  rintro ss M Q X ⟨A, t, rfl, h, qx, q⟩
  have ho := h.ho
  unfold dkS at ho
  walk_at "k"
  show WS _ _ [some (.raw (.ref A.o))] M _
  refine ws_mid (fun ρ' M' => ρ' = [some (.raw (.ref A.o))] ∧ DkAt a.Disk M' A (cut t) ∧ Fr M M' A A) ?_ ?_
  · walk_at "f"
    refine ite_b (fun hon => ?_) (fun hon => ?_)
    · cases hl : t.left with
      | none =>
        have hc : cut t = t := if_neg (by rw [hl]; simp)
        walk_at "f"
        rw [hl]
        unfold leftS
        walk_at "f"
        exact ⟨rfl, by rw [hc]; exact h, Fr.refl⟩
      | some i =>
        walk_at "f"
        rw [hl]
        unfold leftS
        walk_at "f"
        refine ite_d (fun h0 => ?_) (fun h0 => ?_)
        · have hc : cut t = lost t := if_pos ⟨hon, by rw [hl, h0]⟩
          walk_at "f"
          refine w_meth (w_var rfl ⟨A.o, A.dx, fldS A t, rfl, ho, by kernel_rfl, wa_nil ⟨A, t, rfl, h, ?_⟩⟩)
          exact ⟨rfl, by rw [hc]; exact h.put rfl rfl rfl, Fr.put⟩
        · have hc : cut t = t := if_neg (by rw [hl]; rintro ⟨_, e⟩; exact h0 (Option.some.inj e))
          walk_at "f"
          exact ⟨rfl, by rw [hc]; exact h, Fr.refl⟩
    · have hc : cut t = t := if_neg (by rw [hon]; simp)
      walk_at "f"
      exact ⟨rfl, by rw [hc]; exact h, Fr.refl⟩
  · rintro ρ' M' ⟨rfl, h', f⟩
    have ho' := h'.ho
    unfold dkS at ho'
    walk_at "f"
    refine ite_b (fun h1 => ws_raise (qx _ h' f (by simpa using h1))) (fun h1 => ?_)
    have hon : (cut t).on = true := by simpa using h1
    walk_at "f"
    cases hl : (cut t).left with
    | none =>
      have hs : stp (cut t) = cut t := by unfold stp; rw [hl]
      unfold leftS
      walk_at "f"
      exact q _ (by rw [hs]; exact h') f hon
    | some i =>
      have hs : stp (cut t) = (cut t).sLeft (some (i - 1)) := by unfold stp; rw [hl]
      unfold leftS
      walk_at "f"
      rw [hl]
      unfold leftS
      walk_at "f"
      refine ⟨_, _, ho', fl_len _ _, ?_⟩
      rw [pf_leftI, ← hs]
      exact q _ (h'.put (stp_same _).1 (stp_same _).2.1 (stp_same _).2.2) (f.trans Fr.put) hon
end
end K06


set_option Elab.async false
set_option linter.all false
set_option maxRecDepth 100000
set_option  maxHeartbeats 4000000
namespace K06
open PySem PyProof.Rows L2 Ab
local macro_rules | `(tactic| walk_at "len") => `(tactic| first | decide | omega | (simp only [List.length_append, List.length_map, List.length_replicate, List.length_cons, List.length_nil, List.length_take, List.length_drop, List.length_reverse, List.length_range]; omega))
local macro_rules | `(tactic| walk_at "str") => `(tactic| first | decide +kernel | exact goodS_ok (by assumption) | assumption)
local macro_rules | `(tactic| walk_at "1") => `(tactic| (first
  | (with_reducible refine ws_set ?_)
  | (with_reducible refine ws_ret ?_)
  | (with_reducible refine ws_if ?_)
  | (with_reducible refine ws_drop ?_)
  | (with_reducible refine w_op ?_)
  | (with_reducible refine w_un ?_)
  | (with_reducible refine w_int ?_)
  | (with_reducible refine w_bl ?_)
  | (with_reducible refine w_non ?_)
  | (with_reducible refine w_str ?_)
  | (with_reducible refine w_cb ?_)
  | (with_reducible refine w_call ?_)
  | (with_reducible refine w_sl ?_)
  | (with_reducible refine w_tupD ?_)
  | (with_reducible refine w_chain ?_)
  | (with_reducible refine w_andV ?_)
  | (with_reducible refine w_orV ?_)
  | (with_reducible refine w_notV ?_)
  | (with_reducible refine wo_none ?_)
  | (with_reducible refine wo_some ?_)
  | (with_reducible refine wa_cons ?_)
  | (with_reducible refine wa_nil ?_)
  | (with_reducible refine wt_test ?_)
  | (with_reducible refine wt_B ?_)
  | (with_reducible refine wt_and ?_)
  | (with_reducible refine wt_or ?_)
  | (with_reducible refine wt_not ?_)
  | (with_reducible refine wt_yes ?_)
  | (with_reducible refine w2_i0 ?_)
  | (with_reducible refine w2_b0 ?_)
  | (with_reducible refine w1_neg ?_)
  | ((with_reducible refine w2_i ?hc ?_); (case hc => first | decide | exact ⟨by decide, by decide⟩ | exact Or.inl ⟨by decide, by decide⟩ | exact Or.inr ⟨by decide, by decide⟩ | exact ⟨by decide, by decide, by decide⟩ | omega); skip)
  | ((with_reducible refine' w_var ?hv ?_); (case hv => exact rfl); skip)
  | ((with_reducible show W2 _ (rEqD _) (Sl.dat (PyData.int _)) (Sl.dat (PyData.int _)) _ _); (refine w2_eqI ?_))
  | ((with_reducible show W2 _ (rNeD _) (Sl.dat (PyData.int _)) (Sl.dat (PyData.int _)) _ _); (refine w2_neI ?_))
  | ((with_reducible show W2 _ (rEqD _) (Sl.dat (PyData.str _)) (Sl.dat (PyData.str _)) _ _); (refine' w2_eqS ?h1 ?h2 ?_); (case h1 => walk_at "str"); (case h2 => walk_at "str"); skip)
  | ((with_reducible show W2 _ (rNeD _) (Sl.dat (PyData.str _)) (Sl.dat (PyData.str _)) _ _); (refine' w2_neS ?h1 ?h2 ?_); (case h1 => walk_at "str"); (case h2 => walk_at "str"); skip)
  | ((with_reducible show W2 _ (rEqD _) _ _ _ _); (refine w2_eq ?ha ?hb ?_); (case ha => first | exact shaped_int _ | exact shaped_bool _ | exact shaped_none); (case hb => first | exact shaped_int _ | exact shaped_bool _ | exact shaped_none); skip)
  | ((with_reducible show W2 _ (rNeD _) _ _ _ _); (refine w2_ne ?ha ?hb ?_); (case ha => first | exact shaped_int _ | exact shaped_bool _ | exact shaped_none); (case hb => first | exact shaped_int _ | exact shaped_bool _ | exact shaped_none); skip)
  | ((with_reducible show W2 _ _ _ _ _ _); (refine w2_isN ?_))
  | ((with_reducible show W2 _ rIsB _ _ _ _); (refine w2_isB ?_))
  | ((with_reducible show W2 _ rNotB _ _ _ _); (refine w2_notB ?_))
  | ((with_reducible show W2 _ _ _ _ _ _); (refine w2_notN ?_))
  | (with_reducible refine wl_lenE ?_)
  | (with_reducible refine wl_lenD ?_)
  | (with_reducible refine wl_lenTD ?_)
  | (with_reducible refine wl_listE ?_)
  | (with_reducible refine wsl_E ?_)
  | ((with_reducible refine' w2_catE ?hl ?_); (try (case hl => walk_at "len")); skip)
  | ((with_reducible refine' w2_rep1 ?h1 ?h2 ?_); (try (case h1 => first | decide | omega)); (try (case h2 => first | decide | omega)); skip)
  | ((with_reducible show WL _ _ [_] _ _); (refine' wl_len ?hl ?_); (case hl => first | exact lsv_dat | exact lsv_ref um_same | exact lsv_ref (by assumption)); skip)
  | ((with_reducible show WL _ _ [_] _ _); (refine' wl_list ?hl ?_); (case hl => first | exact .inl lsv_dat | exact .inl (lsv_ref (by assumption))); skip)
  | ((with_reducible show WSl _ (rSlL _) _ _ _ _ _); (refine' wsl_lst ?hl ?_); (case hl => first | exact lsv_dat | exact lsv_ref um_same | exact lsv_ref (by assumption)); skip)
  | ((with_reducible show WL _ _ [_] _ _); (refine wl_int ?_))
  | ((with_reducible show WL _ _ [_] _ _); (refine wl_intb ?_))
  | ((with_reducible show WL _ _ [_, _] _ _); (refine wl_min ?_))
  | ((with_reducible first | show W2 _ (rIxL _) (Sl.dat (PyData.list (List.cons _ _))) (Sl.dat (PyData.int _)) _ _ | show W2 _ (rIxL _) (Sl.dat (PyData.list (List.map PyData.int (List.cons _ _)))) (Sl.dat (PyData.int _)) _ _); (refine' w2_ixAny ?h0 ?h1 ?_); (case h0 => omega); (case h1 => first | omega | (simp only [List.length_cons, List.length_nil, List.length_map]; omega)); skip)
  | ((with_reducible show W2 _ (rIxL _) _ _ _ _); (refine' w2_ixL ?hs ?hx ?_); (case hs => first | exact lsv_dat | exact lsv_ref um_same | exact lsv_ref (by assumption)); (try (case hx => exact rfl)); skip)
  | ((with_reducible show W2 _ (rIxT _) _ _ _ _); (refine' w2_ixT ?hx ?_); (case hx => exact rfl); skip)
  | ((with_reducible show WL _ (rIsi _) [_, _] _ _); (refine' wl_isi ?hb ?_); (case hb => first | exact isi_bool _ | exact isi_int _ | exact isi_str _ | exact isi_tuple _ | exact isi_list _); skip)
  | ((with_reducible show W _ (tC (V.ty _)) _ _ _); (refine w_raw ?_))
  | ((with_reducible show W _ (tC (V.ref _)) _ _ _); (refine w_raw ?_))
  | ((with_reducible show WSl _ (rSlA _) _ _ _ _ _); (refine wsl_tup ?_))
  | ((with_reducible show WL _ (rTupS _) [Sl.dat (PyData.list _)] _ _); (refine wl_tuple lsv_dat ?_))
  | ((with_reducible show W2 _ (rCatA _) _ _ _ _); (refine' w2_catT ?hl ?_); (try (case hl => walk_at "len")); skip)
  | ((with_reducible show WL _ _ [_] _ _); (refine' wl_lenT ?hl ?_); (case hl => exact tpv_dat); skip)
  | ((with_reducible refine' w_fldI ?hv ?hM ?c ?n ?l ?_); (case hv => exact rfl); (case hM => first | assumption | exact um_same); (case c => assumption); (case n => assumption); (case l => walk_at "fl"); skip)
  | ((with_reducible refine' w_dgetI ?hv ?hM ?hx ?_); (case hv => exact rfl); (case hM => first | assumption | exact um_same); (case hx => walk_at "wg"); skip)
  | ((with_reducible refine' ws_fldI ?hv ?c ?n ?_); (case hv => exact rfl); (case c => assumption); (case n => assumption); skip)
  | (with_reducible refine ws_next ?_)
  | (with_reducible refine ite_t rfl ?_)
  | (with_reducible refine ite_f rfl ?_)
  | ((with_reducible refine' ite_t ?hb ?_); (case hb => decide +kernel); skip)
  | ((with_reducible refine' ite_f ?hb ?_); (case hb => decide +kernel); skip)
  | ((with_reducible show ∃ b : Bool, _ = Sl.bl b ∧ _); (with_reducible refine ⟨_, rfl, ?_⟩))
  | ((with_reducible show ∃ i : Int, _ = Sl.int i ∧ _); (with_reducible refine ⟨_, rfl, ?_⟩))
  | ((with_reducible show List.length _ ≤ 100000 ∧ _); (refine ⟨(by simp), ?_⟩))
  | ((with_reducible show ∃ ds : List PyData, datsOf _ = some ds ∧ _); (refine ⟨_, rfl, ?_⟩))))
local macro_rules | `(tactic| walk_at "e") => `(tactic| repeat (first | (with_reducible refine ws_seq ?_) | (walk_at "1")))
local macro_rules | `(tactic| walk_at "g") => `(tactic| repeat (first | (walk_at "1") | ((with_reducible refine w_lstI (wa_cons ?_)); (repeat (walk_at "1")); (with_reducible show ∃ ns : List Int, itemsI _ = some ns ∧ _); (refine ⟨_, rfl, ?_⟩)) | (with_reducible refine w_lstD ?_)))
local macro_rules | `(tactic| walk_at "f") => `(tactic| repeat (first | (with_reducible refine ws_seq ?_) | (walk_at "1") | ((with_reducible refine w_lstI (wa_cons ?_)); (repeat (walk_at "1")); (with_reducible show ∃ ns : List Int, itemsI _ = some ns ∧ _); (refine ⟨_, rfl, ?_⟩)) | (with_reducible refine w_lstD ?_)))
local macro_rules | `(tactic| walk_at "k") => `(tactic| first | dsimp only [cxOf, Cx.nox, Cx.wish] | skip)

local macro_rules | `(tactic| walk_at "fl") => `(tactic| with_reducible first | exact fl_use _ _ | exact fl_l _ _ | exact fl_s _ _ | exact fl_w _ _ | exact fl_on _ _ | exact fl_left _ _ | exact fl_failures _ _ | exact fl_writes _ _ | exact fl_syncs _ _)

section
variable {P : Program} {w : World} {K : PySem.W.Frag} {mg : Str → Option Value} {base : Heap} {a : AD} {d : FD}
theorem DkAt.no {C : Addr} {A : DA} {t : Dk} {M : MH} (h : DkAt C M A t) : A.l ≠ A.o ∧ A.s ≠ A.o ∧ A.w ≠ A.o := by
  have n : ∀ b x, M b = some (.lst x) → b ≠ A.o := fun b x hb e => by rw [e, h.ho] at hb; cases hb
  exact ⟨n _ _ h.hl, n _ _ h.hs, n _ _ h.hw⟩
theorem DkAt.putLa {C : Addr} {A : DA} {t : Dk} {M : MH} (h : DkAt C M A t) (x : List (List Int)) : DkAt C (um M A.l (rowsS x)) A (t.sLa x) := by
  obtain ⟨o1, o2, o3⟩ := h.no
  exact ⟨by rw [um_ne o1.symm]; exact h.ho, um_same, by rw [um_ne h.n1.symm]; exact h.hs, by rw [um_ne h.n2.symm]; exact h.hw, h.n1, h.n2, h.n3⟩
theorem DkAt.putSe {C : Addr} {A : DA} {t : Dk} {M : MH} (h : DkAt C M A t) (x : List (List Int)) : DkAt C (um M A.s (rowsS x)) A (t.sSe x) := by
  obtain ⟨o1, o2, o3⟩ := h.no
  exact ⟨by rw [um_ne o2.symm]; exact h.ho, by rw [um_ne h.n1]; exact h.hl, um_same, by rw [um_ne h.n3.symm]; exact h.hw, h.n1, h.n2, h.n3⟩
theorem DkAt.putWa {C : Addr} {A : DA} {t : Dk} {M : MH} (h : DkAt C M A t) (x : List (Int × List Int)) : DkAt C (um M A.w (waitS x)) A (t.sWa x) := by
  obtain ⟨o1, o2, o3⟩ := h.no
  exact ⟨by rw [um_ne o3.symm]; exact h.ho, by rw [um_ne h.n2]; exact h.hl, by rw [um_ne h.n3]; exact h.hs, um_same, h.n1, h.n2, h.n3⟩
theorem Fr.own {A : DA} {M : MH} {x : MO} {b : Addr} (hb : A.own b) : Fr M (um M b x) A A := ⟨rfl, fun c u hc hn => ⟨by rw [um_ne fun e => hn (by rw [e]; exact hb)]; exact hc, hn⟩⟩
def wr (t : Dk) (i : Int) (x : List Int) : Dk := ((t.sSe (t.seen.set i.toNat x)).sWa (t.waiting ++ [(i, x)])).sWr (t.writes + 1)
def A_write (C Ex : Addr) : ASpX := fun ss M Q X => ∃ A t i p x, ss = [.raw (.ref A.o), .int i, .raw (.ref p)] ∧ DkAt C M A t ∧ 0 ≤ i ∧ i < t.seen.length ∧ t.waiting.length < 1000 ∧ M p = some (.lst ((List.map PyData.int x).map .dat)) ∧ ¬ A.own p ∧
  (∀ M', DkAt C M' A (cut t) → Fr M M' A A → (cut t).on = false → X (.ref Ex) none M') ∧ ∀ M', DkAt C M' A (wr (stp (cut t)) i x) → Fr M M' A A → (cut t).on = true → Q .non M'
theorem ok_write (T : Txt K mg a d) : FnOk P w K mg base (L2.CX P w) 3 a.Disk_write d.Disk_write ["self", "index", "data"] (concX K (A_write a.Disk a.PowerOff)) := by
  have cl := T.cl_Disk
  have n1 := T.na_Disk_seen
  have n2 := T.na_Disk_waiting
  have n3 := T.na_Disk_writes
  have G_Disk_operate : FnOk P w K mg base (L2.CX P w) 2 a.Disk_operate d.Disk_operate ["self"] (concX K (A_operate a.Disk a.PowerOff)) := ok_operate T
  refine ab_okX T.F_Disk_write sc_Disk_write (fun ss M Q X ⟨A, t, i, p, x, e, _⟩ => by subst e; rfl) fun cdv Ar outer s H E hr => ?_
  have hu64 := hr.units
  refine ⟨_, (pss_cons (ps_expr (pe_methD0 (pv 0) T.cl_Disk T.m_Disk_operate G_Disk_operate (hr.mono (by omega)) T.b_Disk_operate .nil (fun σ => passAt (takes_of rfl rfl rfl rfl) σ)))
  (pss_cons (ps_asg (pe_callTy (r := rListS K) call_list_of (by rfl) T.n_list (by decide +kernel) (pa_cons (pv 2) pa_nil)) (pg_sub (pe_fld (pv 0) rfl) (pv 1) set_list))
  (pss_cons (ps_expr (pe_bm PySem.F.plainAttrs_list PySem.F.slot_list_append PySem.F.type_list_append mt_append (pe_fld (pv 0) rfl) (pa_cons (pe_tup (pa_cons (pv 1) (pa_cons (pe_callTy (r := rListS K) call_list_of (by rfl) T.n_list (by decide +kernel) (pa_cons (pv 2) pa_nil)) pa_nil))) pa_nil)))
  (pss_one (ps_fldaug (pv 0) pe_int in_add))))), ?_⟩
  rintro ss M Q X ⟨A, t, i, p, x, rfl, h, i0, i1, hwl, hp, hnp, qx, q⟩
  have ho := h.ho
  unfold dkS at ho
  walk_at "k"
  show WS _ _ [some (.raw (.ref A.o)), some (.int i), some (.raw (.ref p))] M _
  walk_at "f"
  refine w_methX (w_var rfl ⟨A.o, A.dx, fldS A t, rfl, ho, by kernel_rfl, wa_nil ⟨A, t, rfl, h, fun M' h' f hon => qx M' h' f hon, fun M' h' f hon => ?_⟩⟩)
  have hp' := (f.2 p _ hp hnp).1
  have e1 : (stp (cut t)).seen = t.seen := (stp_same _).2.1.trans (cut_same t).2.1
  have e2 : (stp (cut t)).waiting = t.waiting := (stp_same _).2.2.trans (cut_same t).2.2
  generalize stp (cut t) = t2 at h' q e1 e2
  have ho' := h'.ho
  unfold dkS at ho'
  refine ws_seq (ws_setL ?_)
  walk_at "f"
  refine ⟨A.s, _, i, i.toNat, rfl, rfl, h'.hs, ?_, ?_⟩
  · unfold ixN
    rw [List.length_map, e1, if_pos i0, if_pos (by omega)]
  have h2 := h'.putSe (t2.seen.set i.toNat x)
  have f2 : Fr M' (um M' A.s (rowsS (t2.seen.set i.toNat x))) A A := Fr.own (.inr (.inr (.inl rfl)))
  rw [show MO.lst ((t2.seen.map fun d => lsm .int d).set i.toNat (.dat (.list (x.map .int)))) = rowsS (t2.seen.set i.toNat x) by unfold rowsS; rw [List.map_set]]
  have hpp := (f2.2 p _ hp' hnp).1
  generalize um M' A.s (rowsS (t2.seen.set i.toNat x)) = M2 at h2 f2 hpp
  have ho2 := h2.ho
  unfold dkS at ho2
  walk_at "f"
  refine w_bm ?_
  walk_at "f"
  refine ⟨ty_lst (lsv_ref h2.hw), ?_⟩
  walk_at "f"
  refine wm_append h2.hw (by rw [List.length_map]; show t2.waiting.length < 100000; rw [e2]; omega) ?_
  have h3 := h2.putWa (t2.waiting ++ [(i, x)])
  rw [show MO.lst (((t2.sSe (t2.seen.set i.toNat x)).waiting.map fun p => Sl.dat (.tuple [.int p.1, .list (p.2.map .int)])) ++ [Sl.dat (.tuple [.int i, .list (x.map .int)])]) = waitS (t2.waiting ++ [(i, x)]) by unfold waitS; rw [List.map_append]; rfl]
  have f3 : Fr M2 (um M2 A.w (waitS (t2.waiting ++ [(i, x)]))) A A := Fr.own (.inr (.inr (.inr rfl)))
  generalize um M2 A.w (waitS (t2.waiting ++ [(i, x)])) = M3 at h3 f3
  have ho3 := h3.ho
  unfold dkS at ho3
  refine ws_fldaug rd_add (w_var rfl ⟨_, _, _, _, _, rfl, ho3, cl, n3, fl_writes _ _, ?_⟩)
  walk_at "f"
  refine ⟨ho3, fl_len _ _, ?_⟩
  rw [pf_writes]
  exact q _ (h3.put (t' := ((t2.sSe (t2.seen.set i.toNat x)).sWa (t2.waiting ++ [(i, x)])).sWr (t2.writes + 1)) rfl rfl rfl) (((f.trans f2).trans f3).trans Fr.put) hon
end
end K06


set_option Elab.async false
set_option linter.all false
set_option maxRecDepth 100000
set_option  maxHeartbeats 4000000
namespace K06
open PySem PyProof.Rows L2 Ab
local macro_rules | `(tactic| walk_at "len") => `(tactic| first | decide | omega | (simp only [List.length_append, List.length_map, List.length_replicate, List.length_cons, List.length_nil, List.length_take, List.length_drop, List.length_reverse, List.length_range]; omega))
local macro_rules | `(tactic| walk_at "str") => `(tactic| first | decide +kernel | exact goodS_ok (by assumption) | assumption)
local macro_rules | `(tactic| walk_at "1") => `(tactic| (first
  | (with_reducible refine ws_set ?_)
  | (with_reducible refine ws_ret ?_)
  | (with_reducible refine ws_if ?_)
  | (with_reducible refine ws_drop ?_)
  | (with_reducible refine w_op ?_)
  | (with_reducible refine w_un ?_)
  | (with_reducible refine w_int ?_)
  | (with_reducible refine w_bl ?_)
  | (with_reducible refine w_non ?_)
  | (with_reducible refine w_str ?_)
  | (with_reducible refine w_cb ?_)
  | (with_reducible refine w_call ?_)
  | (with_reducible refine w_sl ?_)
  | (with_reducible refine w_tupD ?_)
  | (with_reducible refine w_chain ?_)
  | (with_reducible refine w_andV ?_)
  | (with_reducible refine w_orV ?_)
  | (with_reducible refine w_notV ?_)
  | (with_reducible refine wo_none ?_)
  | (with_reducible refine wo_some ?_)
  | (with_reducible refine wa_cons ?_)
  | (with_reducible refine wa_nil ?_)
  | (with_reducible refine wt_test ?_)
  | (with_reducible refine wt_B ?_)
  | (with_reducible refine wt_and ?_)
  | (with_reducible refine wt_or ?_)
  | (with_reducible refine wt_not ?_)
  | (with_reducible refine wt_yes ?_)
  | (with_reducible refine w2_i0 ?_)
  | (with_reducible refine w2_b0 ?_)
  | (with_reducible refine w1_neg ?_)
  | ((with_reducible refine w2_i ?hc ?_); (case hc => first | decide | exact ⟨by decide, by decide⟩ | exact Or.inl ⟨by decide, by decide⟩ | exact Or.inr ⟨by decide, by decide⟩ | exact ⟨by decide, by decide, by decide⟩ | omega); skip)
  | ((with_reducible refine' w_var ?hv ?_); (case hv => exact rfl); skip)
  | ((with_reducible show W2 _ (rEqD _) (Sl.dat (PyData.int _)) (Sl.dat (PyData.int _)) _ _); (refine w2_eqI ?_))
  | ((with_reducible show W2 _ (rNeD _) (Sl.dat (PyData.int _)) (Sl.dat (PyData.int _)) _ _); (refine w2_neI ?_))
  | ((with_reducible show W2 _ (rEqD _) (Sl.dat (PyData.str _)) (Sl.dat (PyData.str _)) _ _); (refine' w2_eqS ?h1 ?h2 ?_); (case h1 => walk_at "str"); (case h2 => walk_at "str"); skip)
  | ((with_reducible show W2 _ (rNeD _) (Sl.dat (PyData.str _)) (Sl.dat (PyData.str _)) _ _); (refine' w2_neS ?h1 ?h2 ?_); (case h1 => walk_at "str"); (case h2 => walk_at "str"); skip)
  | ((with_reducible show W2 _ (rEqD _) _ _ _ _); (refine w2_eq ?ha ?hb ?_); (case ha => first | exact shaped_int _ | exact shaped_bool _ | exact shaped_none); (case hb => first | exact shaped_int _ | exact shaped_bool _ | exact shaped_none); skip)
  | ((with_reducible show W2 _ (rNeD _) _ _ _ _); (refine w2_ne ?ha ?hb ?_); (case ha => first | exact shaped_int _ | exact shaped_bool _ | exact shaped_none); (case hb => first | exact shaped_int _ | exact shaped_bool _ | exact shaped_none); skip)
  | ((with_reducible show W2 _ _ _ _ _ _); (refine w2_isN ?_))
  | ((with_reducible show W2 _ rIsB _ _ _ _); (refine w2_isB ?_))
  | ((with_reducible show W2 _ rNotB _ _ _ _); (refine w2_notB ?_))
  | ((with_reducible show W2 _ _ _ _ _ _); (refine w2_notN ?_))
  | (with_reducible refine wl_lenE ?_)
  | (with_reducible refine wl_lenD ?_)
  | (with_reducible refine wl_lenTD ?_)
  | (with_reducible refine wl_listE ?_)
  | (with_reducible refine wsl_E ?_)
  | ((with_reducible refine' w2_catE ?hl ?_); (try (case hl => walk_at "len")); skip)
  | ((with_reducible refine' w2_rep1 ?h1 ?h2 ?_); (try (case h1 => first | decide | omega)); (try (case h2 => first | decide | omega)); skip)
  | ((with_reducible show WL _ _ [_] _ _); (refine' wl_len ?hl ?_); (case hl => first | exact lsv_dat | exact lsv_ref um_same | exact lsv_ref (by assumption)); skip)
  | ((with_reducible show WL _ _ [_] _ _); (refine' wl_list ?hl ?_); (case hl => first | exact .inl lsv_dat | exact .inl (lsv_ref (by assumption))); skip)
  | ((with_reducible show WSl _ (rSlL _) _ _ _ _ _); (refine' wsl_lst ?hl ?_); (case hl => first | exact lsv_dat | exact lsv_ref um_same | exact lsv_ref (by assumption)); skip)
  | ((with_reducible show WL _ _ [_] _ _); (refine wl_int ?_))
  | ((with_reducible show WL _ _ [_] _ _); (refine wl_intb ?_))
  | ((with_reducible show WL _ _ [_, _] _ _); (refine wl_min ?_))
  | ((with_reducible first | show W2 _ (rIxL _) (Sl.dat (PyData.list (List.cons _ _))) (Sl.dat (PyData.int _)) _ _ | show W2 _ (rIxL _) (Sl.dat (PyData.list (List.map PyData.int (List.cons _ _)))) (Sl.dat (PyData.int _)) _ _); (refine' w2_ixAny ?h0 ?h1 ?_); (case h0 => omega); (case h1 => first | omega | (simp only [List.length_cons, List.length_nil, List.length_map]; omega)); skip)
  | ((with_reducible show W2 _ (rIxL _) _ _ _ _); (refine' w2_ixL ?hs ?hx ?_); (case hs => first | exact lsv_dat | exact lsv_ref um_same | exact lsv_ref (by assumption)); (try (case hx => exact rfl)); skip)
  | ((with_reducible show W2 _ (rIxT _) _ _ _ _); (refine' w2_ixT ?hx ?_); (case hx => exact rfl); skip)
  | ((with_reducible show WL _ (rIsi _) [_, _] _ _); (refine' wl_isi ?hb ?_); (case hb => first | exact isi_bool _ | exact isi_int _ | exact isi_str _ | exact isi_tuple _ | exact isi_list _); skip)
  | ((with_reducible show W _ (tC (V.ty _)) _ _ _); (refine w_raw ?_))
  | ((with_reducible show W _ (tC (V.ref _)) _ _ _); (refine w_raw ?_))
  | ((with_reducible show WSl _ (rSlA _) _ _ _ _ _); (refine wsl_tup ?_))
  | ((with_reducible show WL _ (rTupS _) [Sl.dat (PyData.list _)] _ _); (refine wl_tuple lsv_dat ?_))
  | ((with_reducible show W2 _ (rCatA _) _ _ _ _); (refine' w2_catT ?hl ?_); (try (case hl => walk_at "len")); skip)
  | ((with_reducible show WL _ _ [_] _ _); (refine' wl_lenT ?hl ?_); (case hl => exact tpv_dat); skip)
  | ((with_reducible refine' w_fldI ?hv ?hM ?c ?n ?l ?_); (case hv => exact rfl); (case hM => first | assumption | exact um_same); (case c => assumption); (case n => assumption); (case l => walk_at "fl"); skip)
  | ((with_reducible refine' w_dgetI ?hv ?hM ?hx ?_); (case hv => exact rfl); (case hM => first | assumption | exact um_same); (case hx => walk_at "wg"); skip)
  | ((with_reducible refine' ws_fldI ?hv ?c ?n ?_); (case hv => exact rfl); (case c => assumption); (case n => assumption); skip)
  | (with_reducible refine ws_next ?_)
  | (with_reducible refine ite_t rfl ?_)
  | (with_reducible refine ite_f rfl ?_)
  | ((with_reducible refine' ite_t ?hb ?_); (case hb => decide +kernel); skip)
  | ((with_reducible refine' ite_f ?hb ?_); (case hb => decide +kernel); skip)
  | ((with_reducible show ∃ b : Bool, _ = Sl.bl b ∧ _); (with_reducible refine ⟨_, rfl, ?_⟩))
  | ((with_reducible show ∃ i : Int, _ = Sl.int i ∧ _); (with_reducible refine ⟨_, rfl, ?_⟩))
  | ((with_reducible show List.length _ ≤ 100000 ∧ _); (refine ⟨(by simp), ?_⟩))
  | ((with_reducible show ∃ ds : List PyData, datsOf _ = some ds ∧ _); (refine ⟨_, rfl, ?_⟩))))
local macro_rules | `(tactic| walk_at "e") => `(tactic| repeat (first | (with_reducible refine ws_seq ?_) | (walk_at "1")))
local macro_rules | `(tactic| walk_at "g") => `(tactic| repeat (first | (walk_at "1") | ((with_reducible refine w_lstI (wa_cons ?_)); (repeat (walk_at "1")); (with_reducible show ∃ ns : List Int, itemsI _ = some ns ∧ _); (refine ⟨_, rfl, ?_⟩)) | (with_reducible refine w_lstD ?_)))
local macro_rules | `(tactic| walk_at "f") => `(tactic| repeat (first | (with_reducible refine ws_seq ?_) | (walk_at "1") | ((with_reducible refine w_lstI (wa_cons ?_)); (repeat (walk_at "1")); (with_reducible show ∃ ns : List Int, itemsI _ = some ns ∧ _); (refine ⟨_, rfl, ?_⟩)) | (with_reducible refine w_lstD ?_)))
local macro_rules | `(tactic| walk_at "k") => `(tactic| first | dsimp only [cxOf, Cx.nox, Cx.wish] | skip)

local macro_rules | `(tactic| walk_at "fl") => `(tactic| with_reducible first | exact fl_use _ _ | exact fl_l _ _ | exact fl_s _ _ | exact fl_w _ _ | exact fl_on _ _ | exact fl_left _ _ | exact fl_failures _ _ | exact fl_writes _ _ | exact fl_syncs _ _)

section
variable {P : Program} {w : World} {K : PySem.W.Frag} {mg : Str → Option Value} {base : Heap} {a : AD} {d : FD}
theorem DkAt.newLa {C : Addr} {A : DA} {t : Dk} {M : MH} {p : Addr} (h : DkAt C M A t) (hp : M p = none) (x : List (List Int)) : DkAt C (um (um M p (rowsS x)) A.o (dkS C (A.sL p) (t.sLa x))) (A.sL p) (t.sLa x) := by
  obtain ⟨o1, o2, o3⟩ := h.no
  have po : p ≠ A.o := fun e => by rw [e, h.ho] at hp; cases hp
  have ps : p ≠ A.s := fun e => by rw [e, h.hs] at hp; cases hp
  have pw : p ≠ A.w := fun e => by rw [e, h.hw] at hp; cases hp
  exact ⟨um_same, by show (um (um M p _) A.o _) p = _; rw [um_ne po]; exact um_same, by show (um (um M p _) A.o _) A.s = _; rw [um_ne o2, um_ne ps.symm]; exact h.hs, by show (um (um M p _) A.o _) A.w = _; rw [um_ne o3, um_ne pw.symm]; exact h.hw, ps, pw, h.n3⟩
theorem DkAt.newSe {C : Addr} {A : DA} {t : Dk} {M : MH} {p : Addr} (h : DkAt C M A t) (hp : M p = none) (x : List (List Int)) : DkAt C (um (um M p (rowsS x)) A.o (dkS C (A.sS p) (t.sSe x))) (A.sS p) (t.sSe x) := by
  obtain ⟨o1, o2, o3⟩ := h.no
  have po : p ≠ A.o := fun e => by rw [e, h.ho] at hp; cases hp
  have pl : p ≠ A.l := fun e => by rw [e, h.hl] at hp; cases hp
  have pw : p ≠ A.w := fun e => by rw [e, h.hw] at hp; cases hp
  exact ⟨um_same, by show (um (um M p _) A.o _) A.l = _; rw [um_ne o1, um_ne pl.symm]; exact h.hl, by show (um (um M p _) A.o _) p = _; rw [um_ne po]; exact um_same, by show (um (um M p _) A.o _) A.w = _; rw [um_ne o3, um_ne pw.symm]; exact h.hw, pl.symm, h.n2, pw⟩
theorem DkAt.newWa {C : Addr} {A : DA} {t : Dk} {M : MH} {p : Addr} (h : DkAt C M A t) (hp : M p = none) (x : List (Int × List Int)) : DkAt C (um (um M p (waitS x)) A.o (dkS C (A.sW p) (t.sWa x))) (A.sW p) (t.sWa x) := by
  obtain ⟨o1, o2, o3⟩ := h.no
  have po : p ≠ A.o := fun e => by rw [e, h.ho] at hp; cases hp
  have pl : p ≠ A.l := fun e => by rw [e, h.hl] at hp; cases hp
  have ps : p ≠ A.s := fun e => by rw [e, h.hs] at hp; cases hp
  exact ⟨um_same, by show (um (um M p _) A.o _) A.l = _; rw [um_ne o1, um_ne pl.symm]; exact h.hl, by show (um (um M p _) A.o _) A.s = _; rw [um_ne o2, um_ne ps.symm]; exact h.hs, by show (um (um M p _) A.o _) p = _; rw [um_ne po]; exact um_same, h.n1, pl.symm, ps.symm⟩
theorem Fr.new {A A' : DA} {M : MH} {p : Addr} {x y : MO} (ho : A'.o = A.o) (hp : M p = none) (ho' : ∀ b, A'.own b → b = p ∨ A.own b) : Fr M (um (um M p x) A.o y) A A' := ⟨ho, fun b u hb hn => by
  have bp : b ≠ p := fun e => by rw [e, hp] at hb; cases hb
  refine ⟨by rw [um_ne fun e => hn (.inl e), um_ne bp]; exact hb, fun h => ?_⟩
  rcases ho' b h with e | e
  · exact bp e
  · exact hn e⟩
theorem own_l {A : DA} {p : Addr} : ∀ b, (A.sL p).own b → b = p ∨ A.own b := fun b h => by
  rcases h with h | h | h | h
  · exact .inr (.inl h)
  · exact .inl h
  · exact .inr (.inr (.inr (.inl h)))
  · exact .inr (.inr (.inr (.inr h)))
theorem own_s {A : DA} {p : Addr} : ∀ b, (A.sS p).own b → b = p ∨ A.own b := fun b h => by
  rcases h with h | h | h | h
  · exact .inr (.inl h)
  · exact .inr (.inr (.inl h))
  · exact .inl h
  · exact .inr (.inr (.inr (.inr h)))
theorem own_w {A : DA} {p : Addr} : ∀ b, (A.sW p).own b → b = p ∨ A.own b := fun b h => by
  rcases h with h | h | h | h
  · exact .inr (.inl h)
  · exact .inr (.inr (.inl h))
  · exact .inr (.inr (.inr (.inl h)))
  · exact .inl h
def syn (t : Dk) : Dk := ((t.sLa t.seen).sWa []).sSy (t.syncs + 1)
def A_sync (C Ex : Addr) : ASpX := fun ss M Q X => ∃ A t, ss = [.raw (.ref A.o)] ∧ DkAt C M A t ∧
  (∀ M', DkAt C M' A (cut t) → Fr M M' A A → (cut t).on = false → X (.ref Ex) none M') ∧ ∀ M' A', DkAt C M' A' (syn (stp (cut t))) → Fr M M' A A' → (cut t).on = true → Q .non M'
theorem ok_sync (T : Txt K mg a d) : FnOk P w K mg base (L2.CX P w) 3 a.Disk_sync d.Disk_sync ["self"] (concX K (A_sync a.Disk a.PowerOff)) := by
  have cl := T.cl_Disk
  have n1 := T.na_Disk_seen
  have n2 := T.na_Disk_waiting
  have n3 := T.na_Disk_syncs
  have n4 := T.na_Disk_lasting
  have G_Disk_operate : FnOk P w K mg base (L2.CX P w) 2 a.Disk_operate d.Disk_operate ["self"] (concX K (A_operate a.Disk a.PowerOff)) := ok_operate T
  refine ab_okX T.F_Disk_sync sc_Disk_sync (fun ss M Q X ⟨A, t, e, _⟩ => by subst e; rfl) fun cdv Ar outer s H E hr => ?_
  have hu64 := hr.units
  refine ⟨_, (pss_cons (ps_expr (pe_methD0 (pv 0) T.cl_Disk T.m_Disk_operate G_Disk_operate (hr.mono (by omega)) T.b_Disk_operate .nil (fun σ => passAt (takes_of rfl rfl rfl rfl) σ)))
  (pss_cons (ps_fld (pv 0) (pe_callTy (r := rListS K) call_list_of (by rfl) T.n_list (by decide +kernel) (pa_cons (pe_fld (pv 0) rfl) pa_nil)) rfl)
  (pss_cons (ps_fld (pv 0) (pe_lst pa_nil) rfl)
  (pss_one (ps_fldaug (pv 0) pe_int in_add))))), ?_⟩
  rintro ss M Q X ⟨A, t, rfl, h, qx, q⟩
  have ho := h.ho
  unfold dkS at ho
  walk_at "k"
  show WS _ _ [some (.raw (.ref A.o))] M _
  walk_at "f"
  refine w_methX (w_var rfl ⟨A.o, A.dx, fldS A t, rfl, ho, by kernel_rfl, wa_nil ⟨A, t, rfl, h, fun M' h' f hon => qx M' h' f hon, fun M' h' f hon => ?_⟩⟩)
  generalize stp (cut t) = t2 at h' q
  have ho' := h'.ho
  unfold dkS at ho'
  refine ws_seq (ws_fldI rfl cl n4 ?_)
  walk_at "f"
  refine wl_listM (.inl (lsv_ref h'.hs)) fun p hp => ?_
  have po : p ≠ A.o := fun e => by rw [e, h'.ho] at hp; cases hp
  refine ⟨A.dx, fldS A t2, by rw [um_ne po.symm]; exact ho', fl_len _ _, ?_⟩
  rw [pf_l]
  have h2 := h'.newLa hp t2.seen
  have f2 := Fr.new (A := A) (A' := A.sL p) (M := M') (x := rowsS t2.seen) (y := dkS a.Disk (A.sL p) (t2.sLa t2.seen)) rfl hp own_l
  show WS _ _ [some (.raw (.ref A.o))] (um (um M' p (rowsS t2.seen)) A.o (dkS a.Disk (A.sL p) (t2.sLa t2.seen))) _
  generalize um (um M' p (rowsS t2.seen)) A.o (dkS a.Disk (A.sL p) (t2.sLa t2.seen)) = M2 at h2 f2
  have ho2 := h2.ho
  unfold dkS at ho2
  refine ws_seq (ws_fldI rfl cl n2 ?_)
  refine w_lstM (wa_nil ⟨by simp, fun p2 hp2 => ?_⟩)
  have po2 : p2 ≠ A.o := fun e => by rw [e] at hp2; rw [show A.o = (A.sL p).o from rfl, h2.ho] at hp2; cases hp2
  refine ⟨A.dx, fldS (A.sL p) (t2.sLa t2.seen), by rw [um_ne po2.symm]; exact ho2, fl_len _ _, ?_⟩
  rw [pf_w]
  have h3 : DkAt a.Disk (um (um M2 p2 (waitS [])) A.o (dkS a.Disk ((A.sL p).sW p2) ((t2.sLa t2.seen).sWa []))) ((A.sL p).sW p2) ((t2.sLa t2.seen).sWa []) := h2.newWa hp2 []
  have f3 : Fr M2 (um (um M2 p2 (waitS [])) A.o (dkS a.Disk ((A.sL p).sW p2) ((t2.sLa t2.seen).sWa []))) (A.sL p) ((A.sL p).sW p2) := Fr.new (A := A.sL p) (A' := (A.sL p).sW p2) (M := M2) (x := waitS []) (y := dkS a.Disk ((A.sL p).sW p2) ((t2.sLa t2.seen).sWa [])) rfl hp2 own_w
  show WS _ _ [some (.raw (.ref A.o))] (um (um M2 p2 (waitS [])) A.o (dkS a.Disk ((A.sL p).sW p2) ((t2.sLa t2.seen).sWa []))) _
  generalize um (um M2 p2 (waitS [])) A.o (dkS a.Disk ((A.sL p).sW p2) ((t2.sLa t2.seen).sWa [])) = M3 at h3 f3
  have ho3 : M3 A.o = some (.ins a.Disk A.dx (fldS ((A.sL p).sW p2) ((t2.sLa t2.seen).sWa []))) := h3.ho
  refine ws_fldaug rd_add (w_var rfl ⟨_, _, _, _, _, rfl, ho3, cl, n3, fl_syncs _ _, ?_⟩)
  walk_at "f"
  refine ⟨ho3, fl_len _ _, ?_⟩
  rw [pf_syncs]
  exact q _ _ (h3.put (t' := ((t2.sLa t2.seen).sWa []).sSy (t2.syncs + 1)) rfl rfl rfl) (((f.trans f2).trans f3).trans Fr.put) hon
def A_fail (C Ex : Addr) : ASpX := fun ss M Q X => ∃ A t n, ss = [.raw (.ref A.o), .int n] ∧ DkAt C M A t ∧ (t.on = false → X (.ref Ex) none M) ∧ ∀ M', DkAt C M' A (t.sLeft (some n)) → Fr M M' A A → t.on = true → Q .non M'
theorem ok_fail (T : Txt K mg a d) : FnOk P w K mg base (L2.CX P w) 1 a.Disk_fail_after d.Disk_fail_after ["self", "operations"] (concX K (A_fail a.Disk a.PowerOff)) := by
  have cl := T.cl_Disk
  have n1 := T.na_Disk_powered
  have n2 := T.na_Disk_left
  refine ab_okX T.F_Disk_fail_after sc_Disk_fail_after (fun ss M Q X ⟨A, t, n, e, _⟩ => by subst e; rfl) fun cdv Ar outer s H E hr => ?_
  refine ⟨_, (pss_cons (ps_if (pt_not (pt_val (pe_fld (pv 0) rfl))) (pss_one (ps_raise rfl (takes_of rfl rfl rfl rfl) (pmk_own PySem.F.excBase_ValueError T.x_PowerOff T.g_PowerOff T.kp_PowerOff (raises_own T.bs_PowerOff T.ty_PowerOff) rfl))) pss_nil)
  (pss_one (ps_fld (pv 0) (pv 1) rfl))), ?_⟩
  rintro ss M Q X ⟨A, t, n, rfl, h, qx, q⟩
  have ho := h.ho
  unfold dkS at ho
  walk_at "k"
  show WS _ _ [some (.raw (.ref A.o)), some (.int n)] M _
  walk_at "f"
  refine ite_b (fun h1 => ws_raise (qx (by simpa using h1))) (fun h1 => ?_)
  walk_at "f"
  refine ⟨_, _, ho, fl_len _ _, ?_⟩
  rw [pf_leftI]
  exact q _ (h.put rfl rfl rfl) Fr.put (by simpa using h1)
end
end K06


set_option Elab.async false
set_option linter.all false
set_option maxRecDepth 100000
set_option  maxHeartbeats 4000000
namespace K06
open PySem PyProof.Rows L2 Ab
local macro_rules | `(tactic| walk_at "len") => `(tactic| first | decide | omega | (simp only [List.length_append, List.length_map, List.length_replicate, List.length_cons, List.length_nil, List.length_take, List.length_drop, List.length_reverse, List.length_range]; omega))
local macro_rules | `(tactic| walk_at "str") => `(tactic| first | decide +kernel | exact goodS_ok (by assumption) | assumption)
local macro_rules | `(tactic| walk_at "1") => `(tactic| (first
  | (with_reducible refine ws_set ?_)
  | (with_reducible refine ws_ret ?_)
  | (with_reducible refine ws_if ?_)
  | (with_reducible refine ws_drop ?_)
  | (with_reducible refine w_op ?_)
  | (with_reducible refine w_un ?_)
  | (with_reducible refine w_int ?_)
  | (with_reducible refine w_bl ?_)
  | (with_reducible refine w_non ?_)
  | (with_reducible refine w_str ?_)
  | (with_reducible refine w_cb ?_)
  | (with_reducible refine w_call ?_)
  | (with_reducible refine w_sl ?_)
  | (with_reducible refine w_tupD ?_)
  | (with_reducible refine w_chain ?_)
  | (with_reducible refine w_andV ?_)
  | (with_reducible refine w_orV ?_)
  | (with_reducible refine w_notV ?_)
  | (with_reducible refine wo_none ?_)
  | (with_reducible refine wo_some ?_)
  | (with_reducible refine wa_cons ?_)
  | (with_reducible refine wa_nil ?_)
  | (with_reducible refine wt_test ?_)
  | (with_reducible refine wt_B ?_)
  | (with_reducible refine wt_and ?_)
  | (with_reducible refine wt_or ?_)
  | (with_reducible refine wt_not ?_)
  | (with_reducible refine wt_yes ?_)
  | (with_reducible refine w2_i0 ?_)
  | (with_reducible refine w2_b0 ?_)
  | (with_reducible refine w1_neg ?_)
  | ((with_reducible refine w2_i ?hc ?_); (case hc => first | decide | exact ⟨by decide, by decide⟩ | exact Or.inl ⟨by decide, by decide⟩ | exact Or.inr ⟨by decide, by decide⟩ | exact ⟨by decide, by decide, by decide⟩ | omega); skip)
  | ((with_reducible refine' w_var ?hv ?_); (case hv => exact rfl); skip)
  | ((with_reducible show W2 _ (rEqD _) (Sl.dat (PyData.int _)) (Sl.dat (PyData.int _)) _ _); (refine w2_eqI ?_))
  | ((with_reducible show W2 _ (rNeD _) (Sl.dat (PyData.int _)) (Sl.dat (PyData.int _)) _ _); (refine w2_neI ?_))
  | ((with_reducible show W2 _ (rEqD _) (Sl.dat (PyData.str _)) (Sl.dat (PyData.str _)) _ _); (refine' w2_eqS ?h1 ?h2 ?_); (case h1 => walk_at "str"); (case h2 => walk_at "str"); skip)
  | ((with_reducible show W2 _ (rNeD _) (Sl.dat (PyData.str _)) (Sl.dat (PyData.str _)) _ _); (refine' w2_neS ?h1 ?h2 ?_); (case h1 => walk_at "str"); (case h2 => walk_at "str"); skip)
  | ((with_reducible show W2 _ (rEqD _) _ _ _ _); (refine w2_eq ?ha ?hb ?_); (case ha => first | exact shaped_int _ | exact shaped_bool _ | exact shaped_none); (case hb => first | exact shaped_int _ | exact shaped_bool _ | exact shaped_none); skip)
  | ((with_reducible show W2 _ (rNeD _) _ _ _ _); (refine w2_ne ?ha ?hb ?_); (case ha => first | exact shaped_int _ | exact shaped_bool _ | exact shaped_none); (case hb => first | exact shaped_int _ | exact shaped_bool _ | exact shaped_none); skip)
  | ((with_reducible show W2 _ _ _ _ _ _); (refine w2_isN ?_))
  | ((with_reducible show W2 _ rIsB _ _ _ _); (refine w2_isB ?_))
  | ((with_reducible show W2 _ rNotB _ _ _ _); (refine w2_notB ?_))
  | ((with_reducible show W2 _ _ _ _ _ _); (refine w2_notN ?_))
  | (with_reducible refine wl_lenE ?_)
  | (with_reducible refine wl_lenD ?_)
  | (with_reducible refine wl_lenTD ?_)
  | (with_reducible refine wl_listE ?_)
  | (with_reducible refine wsl_E ?_)
  | ((with_reducible refine' w2_catE ?hl ?_); (try (case hl => walk_at "len")); skip)
  | ((with_reducible refine' w2_rep1 ?h1 ?h2 ?_); (try (case h1 => first | decide | omega)); (try (case h2 => first | decide | omega)); skip)
  | ((with_reducible show WL _ _ [_] _ _); (refine' wl_len ?hl ?_); (case hl => first | exact lsv_dat | exact lsv_ref um_same | exact lsv_ref (by assumption)); skip)
  | ((with_reducible show WL _ _ [_] _ _); (refine' wl_list ?hl ?_); (case hl => first | exact .inl lsv_dat | exact .inl (lsv_ref (by assumption))); skip)
  | ((with_reducible show WSl _ (rSlL _) _ _ _ _ _); (refine' wsl_lst ?hl ?_); (case hl => first | exact lsv_dat | exact lsv_ref um_same | exact lsv_ref (by assumption)); skip)
  | ((with_reducible show WL _ _ [_] _ _); (refine wl_int ?_))
  | ((with_reducible show WL _ _ [_] _ _); (refine wl_intb ?_))
  | ((with_reducible show WL _ _ [_, _] _ _); (refine wl_min ?_))
  | ((with_reducible first | show W2 _ (rIxL _) (Sl.dat (PyData.list (List.cons _ _))) (Sl.dat (PyData.int _)) _ _ | show W2 _ (rIxL _) (Sl.dat (PyData.list (List.map PyData.int (List.cons _ _)))) (Sl.dat (PyData.int _)) _ _); (refine' w2_ixAny ?h0 ?h1 ?_); (case h0 => omega); (case h1 => first | omega | (simp only [List.length_cons, List.length_nil, List.length_map]; omega)); skip)
  | ((with_reducible show W2 _ (rIxL _) _ _ _ _); (refine' w2_ixL ?hs ?hx ?_); (case hs => first | exact lsv_dat | exact lsv_ref um_same | exact lsv_ref (by assumption)); (try (case hx => exact rfl)); skip)
  | ((with_reducible show W2 _ (rIxT _) _ _ _ _); (refine' w2_ixT ?hx ?_); (case hx => exact rfl); skip)
  | ((with_reducible show WL _ (rIsi _) [_, _] _ _); (refine' wl_isi ?hb ?_); (case hb => first | exact isi_bool _ | exact isi_int _ | exact isi_str _ | exact isi_tuple _ | exact isi_list _); skip)
  | ((with_reducible show W _ (tC (V.ty _)) _ _ _); (refine w_raw ?_))
  | ((with_reducible show W _ (tC (V.ref _)) _ _ _); (refine w_raw ?_))
  | ((with_reducible show WSl _ (rSlA _) _ _ _ _ _); (refine wsl_tup ?_))
  | ((with_reducible show WL _ (rTupS _) [Sl.dat (PyData.list _)] _ _); (refine wl_tuple lsv_dat ?_))
  | ((with_reducible show W2 _ (rCatA _) _ _ _ _); (refine' w2_catT ?hl ?_); (try (case hl => walk_at "len")); skip)
  | ((with_reducible show WL _ _ [_] _ _); (refine' wl_lenT ?hl ?_); (case hl => exact tpv_dat); skip)
  | ((with_reducible refine' w_fldI ?hv ?hM ?c ?n ?l ?_); (case hv => exact rfl); (case hM => first | assumption | exact um_same); (case c => assumption); (case n => assumption); (case l => walk_at "fl"); skip)
  | ((with_reducible refine' w_dgetI ?hv ?hM ?hx ?_); (case hv => exact rfl); (case hM => first | assumption | exact um_same); (case hx => walk_at "wg"); skip)
  | ((with_reducible refine' ws_fldI ?hv ?c ?n ?_); (case hv => exact rfl); (case c => assumption); (case n => assumption); skip)
  | (with_reducible refine ws_next ?_)
  | (with_reducible refine ite_t rfl ?_)
  | (with_reducible refine ite_f rfl ?_)
  | ((with_reducible refine' ite_t ?hb ?_); (case hb => decide +kernel); skip)
  | ((with_reducible refine' ite_f ?hb ?_); (case hb => decide +kernel); skip)
  | ((with_reducible show ∃ b : Bool, _ = Sl.bl b ∧ _); (with_reducible refine ⟨_, rfl, ?_⟩))
  | ((with_reducible show ∃ i : Int, _ = Sl.int i ∧ _); (with_reducible refine ⟨_, rfl, ?_⟩))
  | ((with_reducible show List.length _ ≤ 100000 ∧ _); (refine ⟨(by simp), ?_⟩))
  | ((with_reducible show ∃ ds : List PyData, datsOf _ = some ds ∧ _); (refine ⟨_, rfl, ?_⟩))))
local macro_rules | `(tactic| walk_at "e") => `(tactic| repeat (first | (with_reducible refine ws_seq ?_) | (walk_at "1")))
local macro_rules | `(tactic| walk_at "g") => `(tactic| repeat (first | (walk_at "1") | ((with_reducible refine w_lstI (wa_cons ?_)); (repeat (walk_at "1")); (with_reducible show ∃ ns : List Int, itemsI _ = some ns ∧ _); (refine ⟨_, rfl, ?_⟩)) | (with_reducible refine w_lstD ?_)))
local macro_rules | `(tactic| walk_at "f") => `(tactic| repeat (first | (with_reducible refine ws_seq ?_) | (walk_at "1") | ((with_reducible refine w_lstI (wa_cons ?_)); (repeat (walk_at "1")); (with_reducible show ∃ ns : List Int, itemsI _ = some ns ∧ _); (refine ⟨_, rfl, ?_⟩)) | (with_reducible refine w_lstD ?_)))
local macro_rules | `(tactic| walk_at "k") => `(tactic| first | dsimp only [cxOf, Cx.nox, Cx.wish] | skip)

local macro_rules | `(tactic| walk_at "fl") => `(tactic| with_reducible first | exact fl_use _ _ | exact fl_l _ _ | exact fl_s _ _ | exact fl_w _ _ | exact fl_on _ _ | exact fl_left _ _ | exact fl_failures _ _ | exact fl_writes _ _ | exact fl_syncs _ _)

section
variable {P : Program} {w : World} {K : PySem.W.Frag} {mg : Str → Option Value} {base : Heap} {a : AD} {d : FD}
def okSz : PyData → Bool
  | .int n => decide (60 ≤ n) && decide (n ≤ 400)
  | _ => false
def newD (n : Int) : Dk := ⟨false, List.replicate n.toNat (List.replicate 64 0), List.replicate n.toNat (List.replicate 64 0), [], true, none, 0, 0, 0⟩
theorem pi_1 (x0 x : Sl) : putS "lasting" x [("in_use", x0)] = ([("in_use", x0), ("lasting", x)] : List (Str × Sl)) := by kernel_rfl
theorem pi_2 (x0 x1 x : Sl) : putS "seen" x [("in_use", x0), ("lasting", x1)] = ([("in_use", x0), ("lasting", x1), ("seen", x)] : List (Str × Sl)) := by kernel_rfl
theorem pi_3 (x0 x1 x2 x : Sl) : putS "waiting" x [("in_use", x0), ("lasting", x1), ("seen", x2)] = ([("in_use", x0), ("lasting", x1), ("seen", x2), ("waiting", x)] : List (Str × Sl)) := by kernel_rfl
theorem pi_4 (x0 x1 x2 x3 x : Sl) : putS "powered" x [("in_use", x0), ("lasting", x1), ("seen", x2), ("waiting", x3)] = ([("in_use", x0), ("lasting", x1), ("seen", x2), ("waiting", x3), ("powered", x)] : List (Str × Sl)) := by kernel_rfl
theorem pi_5 (x0 x1 x2 x3 x4 x : Sl) : putS "left" x [("in_use", x0), ("lasting", x1), ("seen", x2), ("waiting", x3), ("powered", x4)] = ([("in_use", x0), ("lasting", x1), ("seen", x2), ("waiting", x3), ("powered", x4), ("left", x)] : List (Str × Sl)) := by kernel_rfl
theorem pi_6 (x0 x1 x2 x3 x4 x5 x : Sl) : putS "failures" x [("in_use", x0), ("lasting", x1), ("seen", x2), ("waiting", x3), ("powered", x4), ("left", x5)] = ([("in_use", x0), ("lasting", x1), ("seen", x2), ("waiting", x3), ("powered", x4), ("left", x5), ("failures", x)] : List (Str × Sl)) := by kernel_rfl
theorem pi_7 (x0 x1 x2 x3 x4 x5 x6 x : Sl) : putS "writes" x [("in_use", x0), ("lasting", x1), ("seen", x2), ("waiting", x3), ("powered", x4), ("left", x5), ("failures", x6)] = ([("in_use", x0), ("lasting", x1), ("seen", x2), ("waiting", x3), ("powered", x4), ("left", x5), ("failures", x6), ("writes", x)] : List (Str × Sl)) := by kernel_rfl
theorem pi_8 (x0 x1 x2 x3 x4 x5 x6 x7 x : Sl) : putS "syncs" x [("in_use", x0), ("lasting", x1), ("seen", x2), ("waiting", x3), ("powered", x4), ("left", x5), ("failures", x6), ("writes", x7)] = ([("in_use", x0), ("lasting", x1), ("seen", x2), ("waiting", x3), ("powered", x4), ("left", x5), ("failures", x6), ("writes", x7), ("syncs", x)] : List (Str × Sl)) := by kernel_rfl
structure IAt (C o dx : Addr) (M : MH) (fs : List (Str × Sl)) (N : MH) : Prop where
  ho : N o = some (.ins C dx fs)
  fr : ∀ b u, M b = some u → b ≠ o → N b = some u
theorem IAt.put {C o dx : Addr} {M N : MH} {fs : List (Str × Sl)} (h : IAt C o dx M fs N) (fs' : List (Str × Sl)) : IAt C o dx M fs' (um N o (.ins C dx fs')) := ⟨um_same, fun b u hb hn => by rw [um_ne hn]; exact h.fr b u hb hn⟩
theorem IAt.new {C o dx : Addr} {M N : MH} {fs : List (Str × Sl)} (h : IAt C o dx M fs N) {p : Addr} {x : MO} (hp : N p = none) : IAt C o dx M fs (um N p x) ∧ p ≠ o ∧ ∀ b u, N b = some u → um N p x b = some u := by
  have k : ∀ b u, N b = some u → um N p x b = some u := fun b u hb => by rw [um_ne fun e => by rw [e, hp] at hb; cases hb]; exact hb
  exact ⟨⟨k _ _ h.ho, fun b u hb hn => k _ _ (h.fr b u hb hn)⟩, (fun e => by rw [e, h.ho] at hp; cases hp), k⟩
def A_init (C Ex : Addr) : ASpX := fun ss M Q X => ∃ o dx v, ss = [.raw (.ref o), .dat v] ∧ M o = some (.ins C dx []) ∧ (okSz v = false → X (.ref Ex) none M) ∧
  ∀ n M' A, v = .int n → okSz v = true → A.o = o → DkAt C M' A (newD n) → (∀ b u, M b = some u → b ≠ o → M' b = some u ∧ ¬ A.own b) → Q .non M'
theorem ok_init (T : Txt K mg a d) : FnOk P w K mg base (L2.CX P w) 1 a.Disk___init__ d.Disk___init__ ["self", "sectors"] (concX K (A_init a.Disk a.InvalidArgument)) := by
  have cl := T.cl_Disk
  have n1 := T.na_Disk_powered
  have n2 := T.na_Disk_left
  have n3 := T.na_Disk_in_use
  have n4 := T.na_Disk_lasting
  have n5 := T.na_Disk_seen
  have n6 := T.na_Disk_waiting
  have n7 := T.na_Disk_failures
  have n8 := T.na_Disk_writes
  have n9 := T.na_Disk_syncs
  refine ab_okX T.F_Disk___init__ sc_Disk___init__ (fun ss M Q X ⟨o, dx, v, e, _⟩ => by subst e; rfl) fun cdv Ar outer s H E hr => ?_
  refine ⟨_, (pss_cons (ps_if (PW.pt (pw_or (pt_not (pt_val (pe_callB (r := rIsi K) call_isi (by rfl) T.n_isinstance (by decide +kernel) (pa_cons (pv 1) (pa_cons (pe_bltn (v := .ty "int") (u := .type "int") (by rfl) T.n_int (by decide +kernel) rfl) pa_nil))))) (pw_or (pt_val (pe_callB (r := rIsi K) call_isi (by rfl) T.n_isinstance (by decide +kernel) (pa_cons (pv 1) (pa_cons (pe_bltn (v := .ty "bool") (u := .type "bool") (by rfl) T.n_bool (by decide +kernel) rfl) pa_nil)))) (pw_or1 (pt_not (pt_chain op_le op_le (pe_glob (v := .int 60) (by rfl) T.c_FEWEST ⟨_, rfl⟩) (pv 1) (pe_glob (v := .int 400) (by rfl) T.c_MOST ⟨_, rfl⟩))))))) (pss_one (ps_raise rfl (takes_of rfl rfl rfl rfl) (pmk_own PySem.F.excBase_ValueError T.x_InvalidArgument T.g_InvalidArgument T.kp_InvalidArgument (raises_own T.bs_InvalidArgument T.ty_InvalidArgument) rfl))) pss_nil)
  (pss_cons (ps_fld (pv 0) pe_bl rfl)
  (pss_cons (ps_fld (pv 0) (pe_lc (own := [("_", 2)]) rfl sc_Disk___init__.nd (pi_range1 rfl T.n_range (pa_cons (pv 1) pa_nil)) (blkOk_by (own := [("_", 2)]) (N := ["self", "sectors", "_"]) (sc := (defScope s_Disk___init__)) (by decide +kernel)) (fun _ _ _ _ _ => (pg_name (i := 2) sc_Disk___init__.nd rfl (Or.inl rfl))) (fun _ _ _ _ _ => pts_nil) (fun _ _ _ _ _ => (pe_op op_repL (pe_lst (pa_cons pe_int pa_nil)) (pe_glob (v := .int 64) (by rfl) T.c_SECTOR ⟨_, rfl⟩)))) rfl)
  (pss_cons (ps_fld (pv 0) (pe_callTy (r := rListS K) call_list_of (by rfl) T.n_list (by decide +kernel) (pa_cons (pe_fld (pv 0) rfl) pa_nil)) rfl)
  (pss_cons (ps_fld (pv 0) (pe_lst pa_nil) rfl)
  (pss_cons (ps_fld (pv 0) pe_bl rfl)
  (pss_cons (ps_fld (pv 0) pe_non rfl)
  (pss_cons (ps_fld (pv 0) pe_int rfl)
  (pss_cons (ps_fld (pv 0) pe_int rfl)
  (pss_one (ps_fld (pv 0) pe_int rfl))))))))))), ?_⟩
  rintro ss M Q X ⟨o, dx, v, rfl, ho, qx, q⟩
  walk_at "k"
  show WS _ _ [some (.raw (.ref o)), some (.dat v), none] M _
  cases v with
  | int n =>
    walk_at "f"
    refine ite_d (fun h1 => ?_) (fun h1 => ?_)
    · walk_at "f"
      refine ite_n (fun h2 => ws_raise (qx (by show (decide (60 ≤ n) && decide (n ≤ 400)) = false; rw [decide_eq_false h2, Bool.and_false]))) (fun h2 => ?_)
      walk_at "f"
      refine ⟨dx, [], ho, by decide, ?_⟩
      have I0 : IAt a.Disk o dx M [] M := ⟨ho, fun _ _ h _ => h⟩
      have I1 := I0.put [("in_use", .bl false)]
      show WS _ _ _ (um M o (.ins a.Disk dx [("in_use", .bl false)])) _
      generalize um M o (.ins a.Disk dx [("in_use", .bl false)]) = N1 at I1
      walk_at "f"
      refine w_lcM (by decide) (wi_r1 ?_)
      walk_at "f"
      refine ⟨n, rfl, by omega, by omega, fun i acc M' => M' = N1 ∧ acc = List.replicate i (PyData.list ((List.replicate 64 (0 : Int)).map .int)), ⟨rfl, rfl⟩, fun _ _ _ _ _ _ _ _ => trivial, ?_, ?_⟩
      · rintro i acc M' D hi ⟨rfl, rfl⟩ hD
        refine wt_yes ?_
        walk_at "f"
        exact ⟨_, M', rfl, rfl, hD, by rw [List.length_replicate]; omega, rfl, (List.replicate_succ' (n := i) (a := PyData.list ((List.replicate 64 (0 : Int)).map .int))).symm⟩
      rintro acc M' D ⟨rfl, rfl⟩ hD
      obtain ⟨I2, nD, k2⟩ := I1.new (x := .lst ((List.replicate n.toNat (PyData.list ((List.replicate 64 (0 : Int)).map .int))).map .dat)) hD
      have hDl : um M' D (.lst ((List.replicate n.toNat (PyData.list ((List.replicate 64 (0 : Int)).map .int))).map .dat)) D = some (rowsS (List.replicate n.toNat (List.replicate 64 0))) := by
        rw [um_same]
        unfold rowsS
        simp only [List.map_replicate, lsm]
      generalize um M' D (.lst ((List.replicate n.toNat (PyData.list ((List.replicate 64 (0 : Int)).map .int))).map .dat)) = N2 at I2 k2 hDl
      refine ⟨dx, _, I2.ho, by decide, ?_⟩
      rw [pi_1]
      have I3 := I2.put [("in_use", .bl false), ("lasting", .raw (.ref D))]
      have d3 : um N2 o (.ins a.Disk dx [("in_use", .bl false), ("lasting", .raw (.ref D))]) D = some (rowsS (List.replicate n.toNat (List.replicate 64 0))) := by rw [um_ne nD]; exact hDl
      show WS _ _ _ (um N2 o (.ins a.Disk dx [("in_use", .bl false), ("lasting", .raw (.ref D))])) _
      generalize um N2 o (.ins a.Disk dx [("in_use", .bl false), ("lasting", .raw (.ref D))]) = N3 at I3 d3
      have ho3 := I3.ho
      refine ws_seq (ws_fldI rfl cl n5 ?_)
      refine w_cb (wa_cons (w_fldI (x := .raw (.ref D)) rfl ho3 cl n4 (by kernel_rfl) (wa_nil ?_)))
      refine wl_listM (.inl (lsv_ref d3)) fun p2 hp2 => ?_
      obtain ⟨I4, nP, k4⟩ := I3.new (x := rowsS (List.replicate n.toNat (List.replicate 64 0))) hp2
      have d4 := k4 _ _ d3
      have s4 : um N3 p2 (rowsS (List.replicate n.toNat (List.replicate 64 0))) p2 = some (rowsS (List.replicate n.toNat (List.replicate 64 0))) := um_same
      have nDP : D ≠ p2 := fun e => by rw [← e, d3] at hp2; cases hp2
      refine ⟨dx, _, I4.ho, by simp, ?_⟩
      rw [pi_2]
      have I5 := I4.put [("in_use", .bl false), ("lasting", .raw (.ref D)), ("seen", .raw (.ref p2))]
      have d5 : um (um N3 p2 (rowsS (List.replicate n.toNat (List.replicate 64 0)))) o (.ins a.Disk dx [("in_use", .bl false), ("lasting", .raw (.ref D)), ("seen", .raw (.ref p2))]) D = some (rowsS (List.replicate n.toNat (List.replicate 64 0))) := by rw [um_ne nD]; exact d4
      have s5 : um (um N3 p2 (rowsS (List.replicate n.toNat (List.replicate 64 0)))) o (.ins a.Disk dx [("in_use", .bl false), ("lasting", .raw (.ref D)), ("seen", .raw (.ref p2))]) p2 = some (rowsS (List.replicate n.toNat (List.replicate 64 0))) := by rw [um_ne nP]; exact s4
      show WS _ _ _ (um (um N3 p2 (rowsS (List.replicate n.toNat (List.replicate 64 0)))) o (.ins a.Disk dx [("in_use", .bl false), ("lasting", .raw (.ref D)), ("seen", .raw (.ref p2))])) _
      generalize um (um N3 p2 (rowsS (List.replicate n.toNat (List.replicate 64 0)))) o (.ins a.Disk dx [("in_use", .bl false), ("lasting", .raw (.ref D)), ("seen", .raw (.ref p2))]) = N5 at I5 d5 s5
      refine ws_seq (ws_fldI rfl cl n6 ?_)
      refine w_lstM (wa_nil ⟨by simp, fun p3 hp3 => ?_⟩)
      obtain ⟨I6, nW, k6⟩ := I5.new (x := waitS []) hp3
      have d6 := k6 _ _ d5
      have s6 := k6 _ _ s5
      have w6 : um N5 p3 (waitS []) p3 = some (waitS []) := um_same
      have nDW : D ≠ p3 := fun e => by rw [← e, d5] at hp3; cases hp3
      have nPW : p2 ≠ p3 := fun e => by rw [← e, s5] at hp3; cases hp3
      have fD : ∀ u, M D = some u → False := fun u hu => by
        have := I1.fr D u hu nD
        rw [hD] at this
        cases this
      have fP : ∀ u, M p2 = some u → False := fun u hu => by
        have := I3.fr p2 u hu nP
        rw [hp2] at this
        cases this
      have fW : ∀ u, M p3 = some u → False := fun u hu => by
        have := I5.fr p3 u hu nW
        rw [hp3] at this
        cases this
      refine ⟨dx, _, I6.ho, by simp, ?_⟩
      rw [pi_3]
      have fin : ∀ N, N o = some (.ins a.Disk dx (fldS ⟨o, dx, D, p2, p3⟩ (newD n))) → N D = some (rowsS (List.replicate n.toNat (List.replicate 64 0))) → N p2 = some (rowsS (List.replicate n.toNat (List.replicate 64 0))) → N p3 = some (waitS []) → (∀ b u, M b = some u → b ≠ o → N b = some u) → Q .non N := fun N e1 e2 e3 e4 e5 => by
        refine q n N ⟨o, dx, D, p2, p3⟩ rfl (by show (decide (60 ≤ n) && decide (n ≤ 400)) = true; rw [decide_eq_true h1, decide_eq_true h2]; rfl) rfl ⟨e1, e2, e3, e4, nDP, nDW, nPW⟩ fun b u hb hn => ⟨e5 b u hb hn, fun h => ?_⟩
        rcases h with h | h | h | h
        · exact hn h
        · exact fD u (by rw [show D = b from h.symm]; exact hb)
        · exact fP u (by rw [show p2 = b from h.symm]; exact hb)
        · exact fW u (by rw [show p3 = b from h.symm]; exact hb)
      refine ws_seq (ws_fldI rfl cl n1 (w_bl ⟨dx, _, um_same, by simp, ?_⟩))
      rw [pi_4, um_um]
      refine ws_seq (ws_fldI rfl cl n2 (w_non ⟨dx, _, um_same, by simp, ?_⟩))
      rw [pi_5, um_um]
      refine ws_seq (ws_fldI rfl cl n7 (w_int ⟨dx, _, um_same, by simp, ?_⟩))
      rw [pi_6, um_um]
      refine ws_seq (ws_fldI rfl cl n8 (w_int ⟨dx, _, um_same, by simp, ?_⟩))
      rw [pi_7, um_um]
      refine ws_fldI rfl cl n9 (w_int ⟨dx, _, um_same, by simp, ?_⟩)
      rw [pi_8, um_um]
      refine fin _ um_same ?_ ?_ ?_ fun b u hb hn => ?_
      · rw [um_ne nD]; exact d6
      · rw [um_ne nP]; exact s6
      · rw [um_ne nW]; exact w6
      · rw [um_ne hn]; exact I6.fr b u hb hn
    · walk_at "f"
      exact ws_raise (qx (by show (decide (60 ≤ n) && decide (n ≤ 400)) = false; rw [decide_eq_false h1, Bool.false_and]))
  | bool b =>
    walk_at "f"
    exact ws_raise (qx rfl)
  | none =>
    walk_at "f"
    exact ws_raise (qx rfl)
  | str z =>
    walk_at "f"
    exact ws_raise (qx rfl)
  | list z =>
    walk_at "f"
    exact ws_raise (qx rfl)
  | tuple z =>
    walk_at "f"
    exact ws_raise (qx rfl)
  | dict z =>
    walk_at "f"
    exact ws_raise (qx rfl)
end
end K06


set_option Elab.async false
set_option linter.all false
set_option maxRecDepth 100000
set_option  maxHeartbeats 4000000
namespace K06
open PySem PyProof.Rows L2 Ab
local macro_rules | `(tactic| walk_at "len") => `(tactic| first | decide | omega | (simp only [List.length_append, List.length_map, List.length_replicate, List.length_cons, List.length_nil, List.length_take, List.length_drop, List.length_reverse, List.length_range]; omega))
local macro_rules | `(tactic| walk_at "str") => `(tactic| first | decide +kernel | exact goodS_ok (by assumption) | assumption)
local macro_rules | `(tactic| walk_at "1") => `(tactic| (first
  | (with_reducible refine ws_set ?_)
  | (with_reducible refine ws_ret ?_)
  | (with_reducible refine ws_if ?_)
  | (with_reducible refine ws_drop ?_)
  | (with_reducible refine w_op ?_)
  | (with_reducible refine w_un ?_)
  | (with_reducible refine w_int ?_)
  | (with_reducible refine w_bl ?_)
  | (with_reducible refine w_non ?_)
  | (with_reducible refine w_str ?_)
  | (with_reducible refine w_cb ?_)
  | (with_reducible refine w_call ?_)
  | (with_reducible refine w_sl ?_)
  | (with_reducible refine w_tupD ?_)
  | (with_reducible refine w_chain ?_)
  | (with_reducible refine w_andV ?_)
  | (with_reducible refine w_orV ?_)
  | (with_reducible refine w_notV ?_)
  | (with_reducible refine wo_none ?_)
  | (with_reducible refine wo_some ?_)
  | (with_reducible refine wa_cons ?_)
  | (with_reducible refine wa_nil ?_)
  | (with_reducible refine wt_test ?_)
  | (with_reducible refine wt_B ?_)
  | (with_reducible refine wt_and ?_)
  | (with_reducible refine wt_or ?_)
  | (with_reducible refine wt_not ?_)
  | (with_reducible refine wt_yes ?_)
  | (with_reducible refine w2_i0 ?_)
  | (with_reducible refine w2_b0 ?_)
  | (with_reducible refine w1_neg ?_)
  | ((with_reducible refine w2_i ?hc ?_); (case hc => first | decide | exact ⟨by decide, by decide⟩ | exact Or.inl ⟨by decide, by decide⟩ | exact Or.inr ⟨by decide, by decide⟩ | exact ⟨by decide, by decide, by decide⟩ | omega); skip)
  | ((with_reducible refine' w_var ?hv ?_); (case hv => exact rfl); skip)
  | ((with_reducible show W2 _ (rEqD _) (Sl.dat (PyData.int _)) (Sl.dat (PyData.int _)) _ _); (refine w2_eqI ?_))
  | ((with_reducible show W2 _ (rNeD _) (Sl.dat (PyData.int _)) (Sl.dat (PyData.int _)) _ _); (refine w2_neI ?_))
  | ((with_reducible show W2 _ (rEqD _) (Sl.dat (PyData.str _)) (Sl.dat (PyData.str _)) _ _); (refine' w2_eqS ?h1 ?h2 ?_); (case h1 => walk_at "str"); (case h2 => walk_at "str"); skip)
  | ((with_reducible show W2 _ (rNeD _) (Sl.dat (PyData.str _)) (Sl.dat (PyData.str _)) _ _); (refine' w2_neS ?h1 ?h2 ?_); (case h1 => walk_at "str"); (case h2 => walk_at "str"); skip)
  | ((with_reducible show W2 _ (rEqD _) _ _ _ _); (refine w2_eq ?ha ?hb ?_); (case ha => first | exact shaped_int _ | exact shaped_bool _ | exact shaped_none); (case hb => first | exact shaped_int _ | exact shaped_bool _ | exact shaped_none); skip)
  | ((with_reducible show W2 _ (rNeD _) _ _ _ _); (refine w2_ne ?ha ?hb ?_); (case ha => first | exact shaped_int _ | exact shaped_bool _ | exact shaped_none); (case hb => first | exact shaped_int _ | exact shaped_bool _ | exact shaped_none); skip)
  | ((with_reducible show W2 _ _ _ _ _ _); (refine w2_isN ?_))
  | ((with_reducible show W2 _ rIsB _ _ _ _); (refine w2_isB ?_))
  | ((with_reducible show W2 _ rNotB _ _ _ _); (refine w2_notB ?_))
  | ((with_reducible show W2 _ _ _ _ _ _); (refine w2_notN ?_))
  | (with_reducible refine wl_lenE ?_)
  | (with_reducible refine wl_lenD ?_)
  | (with_reducible refine wl_lenTD ?_)
  | (with_reducible refine wl_listE ?_)
  | (with_reducible refine wsl_E ?_)
  | ((with_reducible refine' w2_catE ?hl ?_); (try (case hl => walk_at "len")); skip)
  | ((with_reducible refine' w2_rep1 ?h1 ?h2 ?_); (try (case h1 => first | decide | omega)); (try (case h2 => first | decide | omega)); skip)
  | ((with_reducible show WL _ _ [_] _ _); (refine' wl_len ?hl ?_); (case hl => first | exact lsv_dat | exact lsv_ref um_same | exact lsv_ref (by assumption)); skip)
  | ((with_reducible show WL _ _ [_] _ _); (refine' wl_list ?hl ?_); (case hl => first | exact .inl lsv_dat | exact .inl (lsv_ref (by assumption))); skip)
  | ((with_reducible show WSl _ (rSlL _) _ _ _ _ _); (refine' wsl_lst ?hl ?_); (case hl => first | exact lsv_dat | exact lsv_ref um_same | exact lsv_ref (by assumption)); skip)
  | ((with_reducible show WL _ _ [_] _ _); (refine wl_int ?_))
  | ((with_reducible show WL _ _ [_] _ _); (refine wl_intb ?_))
  | ((with_reducible show WL _ _ [_, _] _ _); (refine wl_min ?_))
  | ((with_reducible first | show W2 _ (rIxL _) (Sl.dat (PyData.list (List.cons _ _))) (Sl.dat (PyData.int _)) _ _ | show W2 _ (rIxL _) (Sl.dat (PyData.list (List.map PyData.int (List.cons _ _)))) (Sl.dat (PyData.int _)) _ _); (refine' w2_ixAny ?h0 ?h1 ?_); (case h0 => omega); (case h1 => first | omega | (simp only [List.length_cons, List.length_nil, List.length_map]; omega)); skip)
  | ((with_reducible show W2 _ (rIxL _) _ _ _ _); (refine' w2_ixL ?hs ?hx ?_); (case hs => first | exact lsv_dat | exact lsv_ref um_same | exact lsv_ref (by assumption)); (try (case hx => exact rfl)); skip)
  | ((with_reducible show W2 _ (rIxT _) _ _ _ _); (refine' w2_ixT ?hx ?_); (case hx => exact rfl); skip)
  | ((with_reducible show WL _ (rIsi _) [_, _] _ _); (refine' wl_isi ?hb ?_); (case hb => first | exact isi_bool _ | exact isi_int _ | exact isi_str _ | exact isi_tuple _ | exact isi_list _); skip)
  | ((with_reducible show W _ (tC (V.ty _)) _ _ _); (refine w_raw ?_))
  | ((with_reducible show W _ (tC (V.ref _)) _ _ _); (refine w_raw ?_))
  | ((with_reducible show WSl _ (rSlA _) _ _ _ _ _); (refine wsl_tup ?_))
  | ((with_reducible show WL _ (rTupS _) [Sl.dat (PyData.list _)] _ _); (refine wl_tuple lsv_dat ?_))
  | ((with_reducible show W2 _ (rCatA _) _ _ _ _); (refine' w2_catT ?hl ?_); (try (case hl => walk_at "len")); skip)
  | ((with_reducible show WL _ _ [_] _ _); (refine' wl_lenT ?hl ?_); (case hl => exact tpv_dat); skip)
  | ((with_reducible refine' w_fldI ?hv ?hM ?c ?n ?l ?_); (case hv => exact rfl); (case hM => first | assumption | exact um_same); (case c => assumption); (case n => assumption); (case l => walk_at "fl"); skip)
  | ((with_reducible refine' w_dgetI ?hv ?hM ?hx ?_); (case hv => exact rfl); (case hM => first | assumption | exact um_same); (case hx => walk_at "wg"); skip)
  | ((with_reducible refine' ws_fldI ?hv ?c ?n ?_); (case hv => exact rfl); (case c => assumption); (case n => assumption); skip)
  | (with_reducible refine ws_next ?_)
  | (with_reducible refine ite_t rfl ?_)
  | (with_reducible refine ite_f rfl ?_)
  | ((with_reducible refine' ite_t ?hb ?_); (case hb => decide +kernel); skip)
  | ((with_reducible refine' ite_f ?hb ?_); (case hb => decide +kernel); skip)
  | ((with_reducible show ∃ b : Bool, _ = Sl.bl b ∧ _); (with_reducible refine ⟨_, rfl, ?_⟩))
  | ((with_reducible show ∃ i : Int, _ = Sl.int i ∧ _); (with_reducible refine ⟨_, rfl, ?_⟩))
  | ((with_reducible show List.length _ ≤ 100000 ∧ _); (refine ⟨(by simp), ?_⟩))
  | ((with_reducible show ∃ ds : List PyData, datsOf _ = some ds ∧ _); (refine ⟨_, rfl, ?_⟩))))
local macro_rules | `(tactic| walk_at "e") => `(tactic| repeat (first | (with_reducible refine ws_seq ?_) | (walk_at "1")))
local macro_rules | `(tactic| walk_at "g") => `(tactic| repeat (first | (walk_at "1") | ((with_reducible refine w_lstI (wa_cons ?_)); (repeat (walk_at "1")); (with_reducible show ∃ ns : List Int, itemsI _ = some ns ∧ _); (refine ⟨_, rfl, ?_⟩)) | (with_reducible refine w_lstD ?_)))
local macro_rules | `(tactic| walk_at "f") => `(tactic| repeat (first | (with_reducible refine ws_seq ?_) | (walk_at "1") | ((with_reducible refine w_lstI (wa_cons ?_)); (repeat (walk_at "1")); (with_reducible show ∃ ns : List Int, itemsI _ = some ns ∧ _); (refine ⟨_, rfl, ?_⟩)) | (with_reducible refine w_lstD ?_)))
local macro_rules | `(tactic| walk_at "k") => `(tactic| first | dsimp only [cxOf, Cx.nox, Cx.wish] | skip)

local macro_rules | `(tactic| walk_at "fl") => `(tactic| with_reducible first | exact fl_use _ _ | exact fl_l _ _ | exact fl_s _ _ | exact fl_w _ _ | exact fl_on _ _ | exact fl_left _ _ | exact fl_failures _ _ | exact fl_writes _ _ | exact fl_syncs _ _)

section
variable {P : Program} {w : World} {K : PySem.W.Frag} {mg : Str → Option Value} {base : Heap} {a : AD} {d : FD}
/-- what arrives of what waits -/
def apk (la : List (List Int)) : List Bool → List (Int × List Int) → List (List Int)
  | b :: bs, (i, x) :: r => apk (if b then la.set i.toNat x else la) bs r
  | _, _ => la
theorem apk_take : ∀ (ks : List Bool) (ws : List (Int × List Int)) (la : List (List Int)) (i : Nat) (b : Bool) (p : Int × List Int), ks[i]? = some b → ws[i]? = some p →
    apk la (ks.take (i + 1)) (ws.take (i + 1)) = if b then (apk la (ks.take i) (ws.take i)).set p.1.toNat p.2 else apk la (ks.take i) (ws.take i)
  | k :: ks, (j, x) :: ws, la, 0, b, p, h1, h2 => by
    cases h1
    cases h2
    simp [apk]
  | k :: ks, (j, x) :: ws, la, i + 1, b, p, h1, h2 => by
    have := apk_take ks ws (if k then la.set j.toNat x else la) i b p (by simpa using h1) (by simpa using h2)
    simpa [apk] using this
  | [], _, _, _, _, _, h1, _ => by simp at h1
  | _ :: _, [], _, _, _, _, _, h2 => by simp at h2
theorem apk_len : ∀ (ks : List Bool) (ws : List (Int × List Int)) (la : List (List Int)), (apk la ks ws).length = la.length
  | [], _, _ => by simp [apk]
  | _ :: _, [], _ => by simp [apk]
  | k :: ks, (j, x) :: ws, la => by
    simp only [apk]
    rw [apk_len ks ws]
    split <;> simp
theorem apk_all (ks : List Bool) (ws : List (Int × List Int)) (la : List (List Int)) : apk la (ks.take (min ks.length ws.length)) (ws.take (min ks.length ws.length)) = apk la ks ws := by
  induction ks generalizing ws la with
  | nil => simp [apk]
  | cons k ks ih =>
    cases ws with
    | nil => simp [apk]
    | cons p ws =>
      obtain ⟨j, x⟩ := p
      rw [List.length_cons, List.length_cons, Nat.succ_min_succ, List.take_succ_cons, List.take_succ_cons]
      simp only [apk]
      exact ih ws _
def dark (t : Dk) : Dk := if t.on then lost t else t
def pwr (t : Dk) (ks : List Bool) : Dk := ((((dark t).sLa (apk t.lasting ks t.waiting)).sSe (apk t.lasting ks t.waiting)).sWa []).sOn true
def A_power (C : Addr) : ASp := fun ss M Q => ∃ A t ks, ss = [.raw (.ref A.o), lsm .bool ks] ∧ DkAt C M A t ∧ (∀ p ∈ t.waiting, 0 ≤ p.1 ∧ p.1 < t.lasting.length) ∧ ∀ M' A', DkAt C M' A' (pwr t ks) → Fr M M' A A' → Q .non M'
theorem ok_power (T : Txt K mg a d) : FnOk P w K mg base CX0 2 a.Disk_power d.Disk_power ["self", "kept"] (conc K (A_power a.Disk)) := by
  have cl := T.cl_Disk
  have n1 := T.na_Disk_powered
  have n4 := T.na_Disk_lasting
  have n5 := T.na_Disk_seen
  have n6 := T.na_Disk_waiting
  have G_Disk_lose_power : FnOk P w K mg base CX0 1 a.Disk_lose_power d.Disk_lose_power ["self"] (conc K (A_lose a.Disk)) := ok_lose T
  refine ab_ok T.F_Disk_power sc_Disk_power (fun ss M Q ⟨A, t, ks, e, _⟩ => by subst e; rfl) fun cdv Ar outer s H E hr => ?_
  have hu64 := hr.units
  refine ⟨_, (pss_cons (ps_if (pt_val (pe_fld (pv 0) rfl)) (pss_one (ps_expr (pe_meth0 (pv 0) T.cl_Disk T.m_Disk_lose_power G_Disk_lose_power (hr.mono (by omega)) T.b_Disk_lose_power .nil pass0))) pss_nil)
  (pss_cons (ps_for PassesOwn.never rfl (pi_zip rfl T.n_zip (pa_cons (pv 1) (pa_cons (pe_fld (pv 0) rfl) pa_nil))) (pg_tup (by rfl) (pgs_cons (pg_name (i := 2) sc_Disk_power.nd rfl (Or.inl rfl)) (pgs_cons (pg_tup (by rfl) (pgs_cons (pg_name (i := 3) sc_Disk_power.nd rfl (Or.inl rfl)) (pgs_cons (pg_name (i := 4) sc_Disk_power.nd rfl (Or.inl rfl)) pgs_nil))) pgs_nil))) (pss_one (ps_if (pt_val (pv 2)) (pss_one (ps_asg (pv 4) (pg_sub (pe_fld (pv 0) rfl) (pv 3) set_list))) pss_nil)))
  (pss_cons (ps_fld (pv 0) (pe_callTy (r := rListS K) call_list_of (by rfl) T.n_list (by decide +kernel) (pa_cons (pe_fld (pv 0) rfl) pa_nil)) rfl)
  (pss_cons (ps_fld (pv 0) (pe_lst pa_nil) rfl)
  (pss_one (ps_fld (pv 0) pe_bl rfl)))))), ?_⟩
  rintro ss M Q ⟨A, t, ks, rfl, h, hw, q⟩
  have ho := h.ho
  unfold dkS at ho
  walk_at "k"
  show WS K _ [some (.raw (.ref A.o)), some (lsm .bool ks), none, none, none] M _
  refine ws_mid (fun ρ' M' => ρ' = [some (.raw (.ref A.o)), some (lsm .bool ks), none, none, none] ∧ DkAt a.Disk M' A (dark t) ∧ Fr M M' A A) ?_ ?_
  · walk_at "f"
    refine ite_b (fun hon => ?_) (fun hon => ?_)
    · have hc : dark t = lost t := by unfold dark; rw [if_pos hon]
      walk_at "f"
      refine w_meth (w_var rfl ⟨A.o, A.dx, fldS A t, rfl, ho, by kernel_rfl, wa_nil ⟨A, t, rfl, h, ?_⟩⟩)
      exact ⟨rfl, by rw [hc]; exact h.put rfl rfl rfl, Fr.put⟩
    · have hc : dark t = t := by unfold dark; rw [if_neg (by rw [hon]; exact Bool.false_ne_true)]
      walk_at "f"
      exact ⟨rfl, by rw [hc]; exact h, Fr.refl⟩
  rintro ρ' M1 ⟨rfl, h1, f1⟩
  have el : (dark t).lasting = t.lasting := by unfold dark; split <;> rfl
  have ew : (dark t).waiting = t.waiting := by unfold dark; split <;> rfl
  have ho1 := h1.ho
  unfold dkS at ho1
  refine ws_seq (ws_for (wi_zip ?_))
  walk_at "f"
  refine ⟨_, _, _, _, rfl, lsv_dat, lsv_ref h1.hw, fun i ρ' M' => (∃ y2 y3 y4, ρ' = [some (.raw (.ref A.o)), some (lsm .bool ks), y2, y3, y4]) ∧ DkAt a.Disk M' A ((dark t).sLa (apk t.lasting (ks.take i) (t.waiting.take i))) ∧ Fr M M' A A,
    ⟨⟨none, none, none, rfl⟩, by rw [List.take_zero, show apk t.lasting [] (t.waiting.take 0) = t.lasting by simp [apk], ← el]; exact h1, f1⟩, fun i ρ' M' _ ⟨_, hh, _⟩ => ⟨lsv_dat, lsv_ref hh.hw⟩, ?_, ?_⟩
  · rintro i ρ' M' hi ⟨⟨y2, y3, y4, rfl⟩, hh, ff⟩
    have hi1 : i < ks.length := by simp only [List.length_map] at hi; omega
    have hi2 : i < t.waiting.length := by simp only [List.length_map, ew] at hi; omega
    have hi3 : i < (dark t).waiting.length := by rw [ew]; exact hi2
    have g1 : ((ks.map PyData.bool).map Sl.dat).getD i .non = .bl ks[i] := getD_map hi1
    have g2 : ((dark t).waiting.map fun p => Sl.dat (.tuple [.int p.1, .list (p.2.map .int)])).getD i .non = .dat (.tuple [.int t.waiting[i].1, .list (t.waiting[i].2.map .int)]) := by
      rw [List.getD_eq_getElem?_getD, List.getElem?_map, ew, List.getElem?_eq_getElem hi2]
      rfl
    show WG _ _ (tupS K [((ks.map PyData.bool).map Sl.dat).getD i .non, ((dark t).waiting.map fun p => Sl.dat (.tuple [.int p.1, .list (p.2.map .int)])).getD i .non]) _ _ _
    rw [g1, g2]
    have hat := apk_take ks t.waiting t.lasting i ks[i] t.waiting[i] (List.getElem?_eq_getElem hi1) (List.getElem?_eq_getElem hi2)
    have hp := hw _ (List.getElem_mem hi2)
    refine wg_tupS rfl (wgs_cons (wg_name (wgs_cons (wg_tup rfl rfl (wgs_cons (wg_name (wgs_cons (wg_name (wgs_nil (wgs_nil ?_))))))))))
    have hho := hh.ho
    unfold dkS at hho
    walk_at "f"
    refine ite_b (fun hb => ?_) (fun hb => ?_)
    · refine ws_setL ?_
      walk_at "f"
      refine ⟨A.l, _, t.waiting[i].1, t.waiting[i].1.toNat, rfl, rfl, hh.hl, ?_, ?_⟩
      · unfold ixN
        have e3 : (((dark t).sLa (apk t.lasting (ks.take i) (t.waiting.take i))).lasting.map fun d => lsm .int d).length = t.lasting.length := by
          rw [List.length_map]
          exact apk_len _ _ _
        rw [e3, if_pos hp.1, if_pos (by omega)]
      have h2 := hh.putLa ((apk t.lasting (ks.take i) (t.waiting.take i)).set t.waiting[i].1.toNat t.waiting[i].2)
      rw [hb, if_pos rfl] at hat
      refine ⟨⟨_, _, _, rfl⟩, ?_, ff.trans (Fr.own (.inr (.inl rfl)))⟩
      rw [hat, show MO.lst ((((dark t).sLa (apk t.lasting (ks.take i) (t.waiting.take i))).lasting.map fun d => lsm .int d).set t.waiting[i].1.toNat (.dat (.list (t.waiting[i].2.map .int)))) = rowsS ((apk t.lasting (ks.take i) (t.waiting.take i)).set t.waiting[i].1.toNat t.waiting[i].2) by unfold rowsS; rw [List.map_set]; rfl]
      exact h2
    · rw [hb, if_neg Bool.false_ne_true] at hat
      walk_at "f"
      exact ⟨⟨_, _, _, rfl⟩, by rw [hat]; exact hh, ff⟩
  rintro ρ' M2 ⟨⟨y2, y3, y4, rfl⟩, h2, f2⟩
  have hall := apk_all ks t.waiting t.lasting
  simp only [List.length_map, ew] at h2
  rw [hall] at h2
  generalize hL : apk t.lasting ks t.waiting = L at h2
  have ho2 := h2.ho
  unfold dkS at ho2
  refine ws_seq (ws_fldI rfl cl n5 ?_)
  walk_at "f"
  refine wl_listM (.inl (lsv_ref h2.hl)) fun p hp => ?_
  have po : p ≠ A.o := fun e => by rw [e, h2.ho] at hp; cases hp
  refine ⟨A.dx, fldS A ((dark t).sLa L), by rw [um_ne po.symm]; exact ho2, fl_len _ _, ?_⟩
  rw [pf_s]
  have h3 := h2.newSe hp L
  have f3 := Fr.new (A := A) (A' := A.sS p) (M := M2) (x := rowsS L) (y := dkS a.Disk (A.sS p) (((dark t).sLa L).sSe L)) rfl hp own_s
  show WS _ _ [some (.raw (.ref A.o)), some (lsm .bool ks), y2, y3, y4] (um (um M2 p (rowsS L)) A.o (dkS a.Disk (A.sS p) (((dark t).sLa L).sSe L))) _
  generalize um (um M2 p (rowsS L)) A.o (dkS a.Disk (A.sS p) (((dark t).sLa L).sSe L)) = M3 at h3 f3
  have ho3 : M3 A.o = some (.ins a.Disk A.dx (fldS (A.sS p) (((dark t).sLa L).sSe L))) := h3.ho
  refine ws_seq (ws_fldI rfl cl n6 ?_)
  refine w_lstM (wa_nil ⟨by simp, fun p2 hp2 => ?_⟩)
  have po2 : p2 ≠ A.o := fun e => by rw [e, ho3] at hp2; cases hp2
  refine ⟨A.dx, _, by rw [um_ne po2.symm]; exact ho3, fl_len _ _, ?_⟩
  rw [pf_w]
  have h4 : DkAt a.Disk (um (um M3 p2 (waitS [])) A.o (dkS a.Disk ((A.sS p).sW p2) ((((dark t).sLa L).sSe L).sWa []))) ((A.sS p).sW p2) ((((dark t).sLa L).sSe L).sWa []) := h3.newWa hp2 []
  have f4 : Fr M3 (um (um M3 p2 (waitS [])) A.o (dkS a.Disk ((A.sS p).sW p2) ((((dark t).sLa L).sSe L).sWa []))) (A.sS p) ((A.sS p).sW p2) := Fr.new (A := A.sS p) (A' := (A.sS p).sW p2) rfl hp2 own_w
  show WS _ _ [some (.raw (.ref A.o)), some (lsm .bool ks), y2, y3, y4] (um (um M3 p2 (waitS [])) A.o (dkS a.Disk ((A.sS p).sW p2) ((((dark t).sLa L).sSe L).sWa []))) _
  generalize um (um M3 p2 (waitS [])) A.o (dkS a.Disk ((A.sS p).sW p2) ((((dark t).sLa L).sSe L).sWa [])) = M4 at h4 f4
  have ho4 : M4 A.o = some (.ins a.Disk A.dx (fldS ((A.sS p).sW p2) ((((dark t).sLa L).sSe L).sWa []))) := h4.ho
  refine ws_fldI rfl cl n1 (w_bl ⟨A.dx, _, ho4, fl_len _ _, ?_⟩)
  rw [pf_on]
  have h5 := h4.put (t' := ((((dark t).sLa L).sSe L).sWa []).sOn true) rfl rfl rfl
  subst hL
  exact q _ _ h5 (((f2.trans f3).trans f4).trans Fr.put)
end
end K06


set_option Elab.async false
set_option linter.all false
set_option maxRecDepth 100000
set_option  maxHeartbeats 4000000
namespace K06
open PySem PyProof.Rows L2 Ab
local macro_rules | `(tactic| walk_at "len") => `(tactic| first | decide | omega | (simp only [List.length_append, List.length_map, List.length_replicate, List.length_cons, List.length_nil, List.length_take, List.length_drop, List.length_reverse, List.length_range]; omega))
local macro_rules | `(tactic| walk_at "str") => `(tactic| first | decide +kernel | exact goodS_ok (by assumption) | assumption)
local macro_rules | `(tactic| walk_at "1") => `(tactic| (first
  | (with_reducible refine ws_set ?_)
  | (with_reducible refine ws_ret ?_)
  | (with_reducible refine ws_if ?_)
  | (with_reducible refine ws_drop ?_)
  | (with_reducible refine w_op ?_)
  | (with_reducible refine w_un ?_)
  | (with_reducible refine w_int ?_)
  | (with_reducible refine w_bl ?_)
  | (with_reducible refine w_non ?_)
  | (with_reducible refine w_str ?_)
  | (with_reducible refine w_cb ?_)
  | (with_reducible refine w_call ?_)
  | (with_reducible refine w_sl ?_)
  | (with_reducible refine w_tupD ?_)
  | (with_reducible refine w_chain ?_)
  | (with_reducible refine w_andV ?_)
  | (with_reducible refine w_orV ?_)
  | (with_reducible refine w_notV ?_)
  | (with_reducible refine wo_none ?_)
  | (with_reducible refine wo_some ?_)
  | (with_reducible refine wa_cons ?_)
  | (with_reducible refine wa_nil ?_)
  | (with_reducible refine wt_test ?_)
  | (with_reducible refine wt_B ?_)
  | (with_reducible refine wt_and ?_)
  | (with_reducible refine wt_or ?_)
  | (with_reducible refine wt_not ?_)
  | (with_reducible refine wt_yes ?_)
  | (with_reducible refine w2_i0 ?_)
  | (with_reducible refine w2_b0 ?_)
  | (with_reducible refine w1_neg ?_)
  | ((with_reducible refine w2_i ?hc ?_); (case hc => first | decide | exact ⟨by decide, by decide⟩ | exact Or.inl ⟨by decide, by decide⟩ | exact Or.inr ⟨by decide, by decide⟩ | exact ⟨by decide, by decide, by decide⟩ | omega); skip)
  | ((with_reducible refine' w_var ?hv ?_); (case hv => exact rfl); skip)
  | ((with_reducible show W2 _ (rEqD _) (Sl.dat (PyData.int _)) (Sl.dat (PyData.int _)) _ _); (refine w2_eqI ?_))
  | ((with_reducible show W2 _ (rNeD _) (Sl.dat (PyData.int _)) (Sl.dat (PyData.int _)) _ _); (refine w2_neI ?_))
  | ((with_reducible show W2 _ (rEqD _) (Sl.dat (PyData.str _)) (Sl.dat (PyData.str _)) _ _); (refine' w2_eqS ?h1 ?h2 ?_); (case h1 => walk_at "str"); (case h2 => walk_at "str"); skip)
  | ((with_reducible show W2 _ (rNeD _) (Sl.dat (PyData.str _)) (Sl.dat (PyData.str _)) _ _); (refine' w2_neS ?h1 ?h2 ?_); (case h1 => walk_at "str"); (case h2 => walk_at "str"); skip)
  | ((with_reducible show W2 _ (rEqD _) _ _ _ _); (refine w2_eq ?ha ?hb ?_); (case ha => first | exact shaped_int _ | exact shaped_bool _ | exact shaped_none); (case hb => first | exact shaped_int _ | exact shaped_bool _ | exact shaped_none); skip)
  | ((with_reducible show W2 _ (rNeD _) _ _ _ _); (refine w2_ne ?ha ?hb ?_); (case ha => first | exact shaped_int _ | exact shaped_bool _ | exact shaped_none); (case hb => first | exact shaped_int _ | exact shaped_bool _ | exact shaped_none); skip)
  | ((with_reducible show W2 _ _ _ _ _ _); (refine w2_isN ?_))
  | ((with_reducible show W2 _ rIsB _ _ _ _); (refine w2_isB ?_))
  | ((with_reducible show W2 _ rNotB _ _ _ _); (refine w2_notB ?_))
  | ((with_reducible show W2 _ _ _ _ _ _); (refine w2_notN ?_))
  | (with_reducible refine wl_lenE ?_)
  | (with_reducible refine wl_lenD ?_)
  | (with_reducible refine wl_lenTD ?_)
  | (with_reducible refine wl_listE ?_)
  | (with_reducible refine wsl_E ?_)
  | ((with_reducible refine' w2_catE ?hl ?_); (try (case hl => walk_at "len")); skip)
  | ((with_reducible refine' w2_rep1 ?h1 ?h2 ?_); (try (case h1 => first | decide | omega)); (try (case h2 => first | decide | omega)); skip)
  | ((with_reducible show WL _ _ [_] _ _); (refine' wl_len ?hl ?_); (case hl => first | exact lsv_dat | exact lsv_ref um_same | exact lsv_ref (by assumption)); skip)
  | ((with_reducible show WL _ _ [_] _ _); (refine' wl_list ?hl ?_); (case hl => first | exact .inl lsv_dat | exact .inl (lsv_ref (by assumption))); skip)
  | ((with_reducible show WSl _ (rSlL _) _ _ _ _ _); (refine' wsl_lst ?hl ?_); (case hl => first | exact lsv_dat | exact lsv_ref um_same | exact lsv_ref (by assumption)); skip)
  | ((with_reducible show WL _ _ [_] _ _); (refine wl_int ?_))
  | ((with_reducible show WL _ _ [_] _ _); (refine wl_intb ?_))
  | ((with_reducible show WL _ _ [_, _] _ _); (refine wl_min ?_))
  | ((with_reducible first | show W2 _ (rIxL _) (Sl.dat (PyData.list (List.cons _ _))) (Sl.dat (PyData.int _)) _ _ | show W2 _ (rIxL _) (Sl.dat (PyData.list (List.map PyData.int (List.cons _ _)))) (Sl.dat (PyData.int _)) _ _); (refine' w2_ixAny ?h0 ?h1 ?_); (case h0 => omega); (case h1 => first | omega | (simp only [List.length_cons, List.length_nil, List.length_map]; omega)); skip)
  | ((with_reducible show W2 _ (rIxL _) _ _ _ _); (refine' w2_ixL ?hs ?hx ?_); (case hs => first | exact lsv_dat | exact lsv_ref um_same | exact lsv_ref (by assumption)); (try (case hx => exact rfl)); skip)
  | ((with_reducible show W2 _ (rIxT _) _ _ _ _); (refine' w2_ixT ?hx ?_); (case hx => exact rfl); skip)
  | ((with_reducible show WL _ (rIsi _) [_, _] _ _); (refine' wl_isi ?hb ?_); (case hb => first | exact isi_bool _ | exact isi_int _ | exact isi_str _ | exact isi_tuple _ | exact isi_list _); skip)
  | ((with_reducible show W _ (tC (V.ty _)) _ _ _); (refine w_raw ?_))
  | ((with_reducible show W _ (tC (V.ref _)) _ _ _); (refine w_raw ?_))
  | ((with_reducible show WSl _ (rSlA _) _ _ _ _ _); (refine wsl_tup ?_))
  | ((with_reducible show WL _ (rTupS _) [Sl.dat (PyData.list _)] _ _); (refine wl_tuple lsv_dat ?_))
  | ((with_reducible show W2 _ (rCatA _) _ _ _ _); (refine' w2_catT ?hl ?_); (try (case hl => walk_at "len")); skip)
  | ((with_reducible show WL _ _ [_] _ _); (refine' wl_lenT ?hl ?_); (case hl => exact tpv_dat); skip)
  | ((with_reducible refine' w_fldI ?hv ?hM ?c ?n ?l ?_); (case hv => exact rfl); (case hM => first | assumption | exact um_same); (case c => assumption); (case n => assumption); (case l => walk_at "fl"); skip)
  | ((with_reducible refine' w_dgetI ?hv ?hM ?hx ?_); (case hv => exact rfl); (case hM => first | assumption | exact um_same); (case hx => walk_at "wg"); skip)
  | ((with_reducible refine' ws_fldI ?hv ?c ?n ?_); (case hv => exact rfl); (case c => assumption); (case n => assumption); skip)
  | (with_reducible refine ws_next ?_)
  | (with_reducible refine ite_t rfl ?_)
  | (with_reducible refine ite_f rfl ?_)
  | ((with_reducible refine' ite_t ?hb ?_); (case hb => decide +kernel); skip)
  | ((with_reducible refine' ite_f ?hb ?_); (case hb => decide +kernel); skip)
  | ((with_reducible show ∃ b : Bool, _ = Sl.bl b ∧ _); (with_reducible refine ⟨_, rfl, ?_⟩))
  | ((with_reducible show ∃ i : Int, _ = Sl.int i ∧ _); (with_reducible refine ⟨_, rfl, ?_⟩))
  | ((with_reducible show List.length _ ≤ 100000 ∧ _); (refine ⟨(by simp), ?_⟩))
  | ((with_reducible show ∃ ds : List PyData, datsOf _ = some ds ∧ _); (refine ⟨_, rfl, ?_⟩))))
local macro_rules | `(tactic| walk_at "e") => `(tactic| repeat (first | (with_reducible refine ws_seq ?_) | (walk_at "1")))
local macro_rules | `(tactic| walk_at "g") => `(tactic| repeat (first | (walk_at "1") | ((with_reducible refine w_lstI (wa_cons ?_)); (repeat (walk_at "1")); (with_reducible show ∃ ns : List Int, itemsI _ = some ns ∧ _); (refine ⟨_, rfl, ?_⟩)) | (with_reducible refine w_lstD ?_)))
local macro_rules | `(tactic| walk_at "f") => `(tactic| repeat (first | (with_reducible refine ws_seq ?_) | (walk_at "1") | ((with_reducible refine w_lstI (wa_cons ?_)); (repeat (walk_at "1")); (with_reducible show ∃ ns : List Int, itemsI _ = some ns ∧ _); (refine ⟨_, rfl, ?_⟩)) | (with_reducible refine w_lstD ?_)))
local macro_rules | `(tactic| walk_at "k") => `(tactic| first | dsimp only [cxOf, Cx.nox, Cx.wish] | skip)

local macro_rules | `(tactic| walk_at "fl") => `(tactic| with_reducible first | exact fl_use _ _ | exact fl_l _ _ | exact fl_s _ _ | exact fl_w _ _ | exact fl_on _ _ | exact fl_left _ _ | exact fl_failures _ _ | exact fl_writes _ _ | exact fl_syncs _ _)

section
variable {P : Program} {w : World} {K : PySem.W.Frag} {mg : Str → Option Value} {base : Heap} {a : AD} {d : FD}
def MidN (M : MH) (p : Addr) (n : Int) (ρ' : Rho) (M' : MH) : Prop := ∃ (xs : List Sl) (y z : Option Sl), ρ' = [some (.ref p), some (.int n), y, z] ∧ M' = um M p (.lst xs) ∧ DrawL xs
theorem ok_next (T : Txt K mg a d) : FnOk P w K mg base CX0 1 a.law_next d.law_next ["_law_state", "_law_limit"] (conc K A_next) := by
  refine ab_ok T.F_law_next sc_law_next (fun ss M Q ⟨p, n, xs, e, _⟩ => by subst e; rfl) fun cdv Ar outer s H E hr => ?_
  have hu64 := hr.units
  refine ⟨_, (pss_cons (ps_if (PW.pt (pw_and (pt_cmpR (r := rEqD K) (op_eqD hu64) (pe_ix (r := rIxL K) ix_list (pv 0) pe_int (fun _ _ => rfl)) pe_int (nomark _)) (pw_and1 (pt_cmpR op_lt (pe_ix (r := rIxL K) ix_list (pv 0) pe_int (fun _ _ => rfl)) (pe_callB (r := rLenS K) call_len_seq (by rfl) T.n_len PySem.boot_len (pa_cons (pe_ix (r := rIxL K) ix_list (pv 0) pe_int (fun _ _ => rfl)) pa_nil)) (nomark _))))) (pss_cons (ps_set (i := 2) sc_law_next.nd rfl (Or.inl rfl) (pe_ix (r := rIxL K) ix_list (pe_ix (r := rIxL K) ix_list (pv 0) pe_int (fun _ _ => rfl)) (pe_ix (r := rIxL K) ix_list (pv 0) pe_int (fun _ _ => rfl)) (fun _ _ => rfl)))
  (pss_cons (ps_augS (pv 0) pe_int pget_list pe_int ip_add set_list)
  (pss_one (ps_if (pt_cmpR op_ge (pv 2) (pe_op op_pow pe_int pe_int) (nomark _)) (pss_one (ps_asg (pv 2) (pg_sub (pv 0) pe_int set_list))) (pss_one (ps_asg (pe_op op_mod (pe_callTy (r := rInt1) call_int1 (by rfl) T.n_int (by decide +kernel) (pa_cons (pe_op op_add (pe_op op_add (pe_op op_mul (pe_ix (r := rIxL K) ix_list (pv 0) pe_int (fun _ _ => rfl)) pe_int) (pe_op op_mod (pe_callTy (r := rInt1) call_int1 (by rfl) T.n_int (by decide +kernel) (pa_cons (pv 2) pa_nil)) pe_int)) pe_int) pa_nil)) pe_int) (pg_sub (pv 0) pe_int set_list))))))) pss_nil)
  (pss_cons (ps_if (pt_cmpR op_gt (pe_ix (r := rIxL K) ix_list (pv 0) pe_int (fun _ _ => rfl)) pe_int (nomark _)) (pss_cons (ps_set (i := 3) sc_law_next.nd rfl (Or.inl rfl) (pe_op op_mod (pe_callTy (r := rInt1) call_int1 (by rfl) T.n_int (by decide +kernel) (pa_cons (pe_ix (r := rIxL K) ix_list (pv 0) pe_int (fun _ _ => rfl)) pa_nil)) (pv 1)))
  (pss_cons (ps_asg (pe_op op_fdivW (pe_ix (r := rIxL K) ix_list (pv 0) pe_int (fun _ _ => rfl)) (pv 1)) (pg_sub (pv 0) pe_int set_list))
  (pss_one (ps_ret (pv 3))))) pss_nil)
  (pss_cons (ps_asg (pe_op op_mod (pe_callTy (r := rInt1) call_int1 (by rfl) T.n_int (by decide +kernel) (pa_cons (pe_op op_add (pe_op op_mul (pe_ix (r := rIxL K) ix_list (pv 0) pe_int (fun _ _ => rfl)) pe_int) pe_int) pa_nil)) pe_int) (pg_sub (pv 0) pe_int set_list))
  (pss_one (ps_ret (pe_op op_mod (pe_callTy (r := rInt1) call_int1 (by rfl) T.n_int (by decide +kernel) (pa_cons (pe_op op_fdiv (pe_ix (r := rIxL K) ix_list (pv 0) pe_int (fun _ _ => rfl)) pe_int) pa_nil)) (pv 1))))))), ?_⟩
  rintro ss M Q ⟨p, n, xs, rfl, hp, ⟨sc, pos, cur, seed, rfl, hpos⟩, hn0, hn1, q⟩
  walk_at "k"
  show WS K _ [some (.ref p), some (.int n), none, none] M _
  refine ws_mid (MidN M p n) ?_ ?_
  · have same : MidN M p n [some (.ref p), some (.int n), none, none] M := ⟨_, none, none, rfl, (um_id hp).symm, sc, pos, cur, seed, rfl, hpos⟩
    walk_at "e"
    refine ite_b (fun _ => ?_) (fun _ => ite_f rfl (ws_next same))
    walk_at "e"
    refine ite_b (fun hlt => ?_) (fun _ => ws_next same)
    have hlt' := of_decide_eq_true hlt
    have hk : pos.toNat < sc.length := by omega
    walk_at "e"
    case hx => exact atI_ok hpos (get_two (List.getElem?_eq_getElem hk))
    refine ws_seq (ws_augL (w_var rfl (w_int ⟨p, _, 1, pos, rfl, rfl, hp, rfl, w_int ⟨1, rfl, hp, ?_⟩⟩)))
    have hp3 : um M p (.lst [.dat (.list (sc.map .int)), .int (pos + 1), .int cur, .int seed]) p = some (.lst [.dat (.list (sc.map .int)), .int (pos + 1), .int cur, .int seed]) := um_same
    show WS K _ [some (.ref p), some (.int n), some (.int sc[pos.toNat]), none] (um M p (.lst [.dat (.list (sc.map .int)), .int (pos + 1), .int cur, .int seed])) _
    walk_at "e"
    refine ite_b (fun _ => ?_) (fun _ => ?_)
    · refine ws_setL (w_var rfl (w_var rfl (w_int ⟨p, _, 2, 2, rfl, rfl, um_same, rfl, ?_⟩)))
      rw [um_um]
      exact ⟨_, some (.int sc[pos.toNat]), none, rfl, rfl, sc, pos + 1, _, seed, rfl, by omega⟩
    · refine ws_setL ?_
      walk_at "e"
      refine ⟨p, _, 3, 3, rfl, rfl, um_same, rfl, ?_⟩
      rw [um_um]
      exact ⟨_, some (.int sc[pos.toNat]), none, rfl, rfl, sc, pos + 1, cur, _, rfl, by omega⟩
  · rintro ρ' M' ⟨xs, y, z, rfl, rfl, sc, pos, cur, seed, rfl, hpos⟩
    have hp2 : um M p (.lst [.dat (.list (sc.map .int)), .int pos, .int cur, .int seed]) p = some (.lst [.dat (.list (sc.map .int)), .int pos, .int cur, .int seed]) := um_same
    have hdiv : CDivW cur n := wide_div (b := 140) hn0 (by omega) (by decide) (by decide)
    walk_at "e"
    refine ite_b (fun hc => ?_) (fun _ => ?_)
    · have hc' := of_decide_eq_true hc
      walk_at "e"
      refine ws_setL ?_
      walk_at "e"
      refine ⟨p, _, 2, 2, rfl, rfl, um_same, rfl, ?_⟩
      rw [um_um]
      walk_at "e"
      exact q _ _ (Int.emod_nonneg _ (by omega)) (Int.emod_lt_of_pos _ hn0) ⟨sc, pos, _, seed, rfl, hpos⟩
    · refine ws_next ?_
      refine ws_seq (ws_setL ?_)
      walk_at "e"
      refine ⟨p, _, 3, 3, rfl, rfl, um_same, rfl, ?_⟩
      rw [um_um]
      have hp4 : um M p (.lst [.dat (.list (sc.map .int)), .int pos, .int cur, .int ((seed * 69621 + 12345) % 2147483647)]) p = some (.lst [.dat (.list (sc.map .int)), .int pos, .int cur, .int ((seed * 69621 + 12345) % 2147483647)]) := um_same
      show WS K _ [some (.ref p), some (.int n), y, z] (um M p (.lst [.dat (.list (sc.map .int)), .int pos, .int cur, .int ((seed * 69621 + 12345) % 2147483647)])) _
      walk_at "e"
      exact q _ _ (Int.emod_nonneg _ (by omega)) (Int.emod_lt_of_pos _ hn0) ⟨sc, pos, cur, _, rfl, hpos⟩

/-! equal data is the same -/
def A_same (n : Nat) : ASp := fun ss M Q => ∃ x : PyData, ss = [.dat x, .dat x] ∧ okD n x = true ∧ Q (.bl true) M
def A_sameN : Nat → ASp
  | 0 => fun _ _ _ => False
  | n + 1 => A_same n
theorem ok_sameN (T : Txt K mg a d) : ∀ n : Nat, FnOk P w K mg base CX0 n a.law_same d.law_same ["_law_actual", "_law_expected"] (conc K (A_sameN n)) := by
  intro n
  induction n with
  | zero => exact ⟨fun vs H Q E h => by obtain ⟨_, _, _, _, _, _, z, _⟩ := h; exact z.elim, fun A outer s H args us vs Q E _ _ _ _ h => by obtain ⟨_, _, _, _, _, _, z, _⟩ := h; exact z.elim⟩
  | succ n ih =>
    have G_law_same := ih
    refine ab_ok T.F_law_same sc_law_same (fun ss M Q ⟨x, e, _⟩ => by subst e; rfl) fun cdv Ar outer s H E hr => ?_
    have hu64 := hr.units
    refine ⟨_, (pss_cons (ps_if (pt_cmpR op_isN (pv 1) pe_non (nomark _)) (pss_one (ps_ret (pe_cmpR op_isN (pv 0) pe_non (nomark _)))) pss_nil)
  (pss_cons (ps_if (pt_val (pe_callB (r := rIsi K) call_isi (by rfl) T.n_isinstance (by decide +kernel) (pa_cons (pv 1) (pa_cons (pe_bltn (v := .ty "bool") (u := .type "bool") (by rfl) T.n_bool (by decide +kernel) rfl) pa_nil)))) (pss_one (ps_ret (pe_and (pe_callB (r := rIsi K) call_isi (by rfl) T.n_isinstance (by decide +kernel) (pa_cons (pv 0) (pa_cons (pe_bltn (v := .ty "bool") (u := .type "bool") (by rfl) T.n_bool (by decide +kernel) rfl) pa_nil))) (pe_one (pe_cmpR (r := rEqD K) (op_eqD hu64) (pv 0) (pv 1) (nomark _)))))) pss_nil)
  (pss_cons (ps_if (pt_val (pe_callB (r := rIsi K) call_isi (by rfl) T.n_isinstance (by decide +kernel) (pa_cons (pv 1) (pa_cons (pe_bltn (v := .ty "int") (u := .type "int") (by rfl) T.n_int (by decide +kernel) rfl) pa_nil)))) (pss_one (ps_ret (pe_and (pe_callB (r := rIsi K) call_isi (by rfl) T.n_isinstance (by decide +kernel) (pa_cons (pv 0) (pa_cons (pe_bltn (v := .ty "int") (u := .type "int") (by rfl) T.n_int (by decide +kernel) rfl) pa_nil))) (pe_and (pe_not (pe_callB (r := rIsi K) call_isi (by rfl) T.n_isinstance (by decide +kernel) (pa_cons (pv 0) (pa_cons (pe_bltn (v := .ty "bool") (u := .type "bool") (by rfl) T.n_bool (by decide +kernel) rfl) pa_nil)))) (pe_one (pe_cmpR (r := rEqD K) (op_eqD hu64) (pv 0) (pv 1) (nomark _))))))) pss_nil)
  (pss_cons (ps_if (pt_val (pe_callB (r := rIsi K) call_isi (by rfl) T.n_isinstance (by decide +kernel) (pa_cons (pv 1) (pa_cons (pe_bltn (v := .ty "str") (u := .type "str") (by rfl) T.n_str (by decide +kernel) rfl) pa_nil)))) (pss_one (ps_ret (pe_and (pe_callB (r := rIsi K) call_isi (by rfl) T.n_isinstance (by decide +kernel) (pa_cons (pv 0) (pa_cons (pe_bltn (v := .ty "str") (u := .type "str") (by rfl) T.n_str (by decide +kernel) rfl) pa_nil))) (pe_one (pe_cmpR (r := rEqD K) (op_eqD hu64) (pv 0) (pv 1) (nomark _)))))) pss_nil)
  (pss_cons (ps_if (PW.pt (pw_and (pt_val (pe_callB (r := rIsi K) call_isi (by rfl) T.n_isinstance (by decide +kernel) (pa_cons (pv 1) (pa_cons (pe_bltn (v := .ty "tuple") (u := .type "tuple") (by rfl) T.n_tuple (by decide +kernel) rfl) pa_nil)))) (pw_and1 (pt_not (pt_val (pe_callB (r := rIsi K) call_isi (by rfl) T.n_isinstance (by decide +kernel) (pa_cons (pv 0) (pa_cons (pe_bltn (v := .ty "tuple") (u := .type "tuple") (by rfl) T.n_tuple (by decide +kernel) rfl) pa_nil)))))))) (pss_one (ps_ret pe_bl)) pss_nil)
  (pss_cons (ps_if (PW.pt (pw_and (pt_val (pe_callB (r := rIsi K) call_isi (by rfl) T.n_isinstance (by decide +kernel) (pa_cons (pv 1) (pa_cons (pe_bltn (v := .ty "list") (u := .type "list") (by rfl) T.n_list (by decide +kernel) rfl) pa_nil)))) (pw_and1 (pt_not (pt_val (pe_callB (r := rIsi K) call_isi (by rfl) T.n_isinstance (by decide +kernel) (pa_cons (pv 0) (pa_cons (pe_bltn (v := .ty "list") (u := .type "list") (by rfl) T.n_list (by decide +kernel) rfl) pa_nil)))))))) (pss_one (ps_ret pe_bl)) pss_nil)
  (pss_cons (ps_if (pt_cmpR (r := rNeD K) (op_neD hu64) (pe_callB (r := rLenS K) call_len_seq (by rfl) T.n_len PySem.boot_len (pa_cons (pv 0) pa_nil)) (pe_callB (r := rLenS K) call_len_seq (by rfl) T.n_len PySem.boot_len (pa_cons (pv 1) pa_nil)) (nomark _)) (pss_one (ps_ret pe_bl)) pss_nil)
  (pss_cons (ps_for PassesOwn.never rfl (pi_range1 rfl T.n_range (pa_cons (pe_callB (r := rLenS K) call_len_seq (by rfl) T.n_len PySem.boot_len (pa_cons (pv 1) pa_nil)) pa_nil)) (pg_name (i := 2) sc_law_same.nd rfl (Or.inl rfl)) (pss_one (ps_if (pt_not (pt_val (pe_call G_law_same (hr.mono (by omega)) (by rfl) T.g_law_same T.F_law_same.kp T.b_law_same .nil pass0 (pa_cons (pe_ix (r := rIx K) ix_seq (pv 0) (pv 2) (fun _ _ => rfl)) (pa_cons (pe_ix (r := rIx K) ix_seq (pv 1) (pv 2) (fun _ _ => rfl)) pa_nil))))) (pss_one (ps_ret pe_bl)) pss_nil)))
  (pss_one (ps_ret pe_bl)))))))))), ?_⟩
    rintro ss M Q ⟨x, rfl, hx, q⟩
    walk_at "k"
    show WS K _ [some (.dat x), some (.dat x), none] M _
    walk_at "e"
    cases x with
    | none =>
      walk_at "e"
      exact q
    | bool b =>
      walk_at "e"
      rw [show PyData.eqv (.bool b) (.bool b) = true by cases b <;> rfl]
      exact q
    | int i =>
      walk_at "e"
      rw [decide_eq_true rfl]
      exact q
    | str x =>
      have hsh : PyData.strOk x = true := by cases n <;> simpa [okD] using hx
      walk_at "e"
      rw [decide_eq_true rfl]
      walk_at "e"
      exact q
    | dict _ => cases n <;> cases hx
    | tuple xs =>
      cases n with
      | zero => cases hx
      | succ m =>
        obtain ⟨hl, ho⟩ := okD_tuple hx
        walk_at "e"
        rw [decide_eq_true rfl]
        walk_at "e"
        refine ws_forR1 (n := (xs.length : Int)) (M1 := M) (by walk_at "e"; exact ⟨rfl, rfl⟩) (by omega)
          (fun i ρ' M' => ∃ y, ρ' = [some (.dat (.tuple xs)), some (.dat (.tuple xs)), y] ∧ M' = M) ⟨_, rfl, rfl⟩ ?_ ?_
        · rintro i ρ' M' hi ⟨y, rfl, rfl⟩
          have hi' : i < xs.length := by omega
          refine wg_name ?_
          have hat : atI xs (i : Int) = some xs[i] := atI_nat (List.getElem?_eq_getElem hi')
          walk_at "e"
          refine w2_ixDT hat ?_
          walk_at "e"
          refine w2_ixDT hat ?_
          walk_at "e"
          refine ⟨xs[i], rfl, okD_mem ho (List.getElem_mem hi'), ?_⟩
          walk_at "e"
          exact ⟨_, rfl, rfl⟩
        · rintro ρ' M' ⟨y, rfl, rfl⟩
          walk_at "e"
          exact q
    | list xs =>
      cases n with
      | zero => cases hx
      | succ m =>
        obtain ⟨hl, ho⟩ := okD_list hx
        walk_at "e"
        rw [decide_eq_true rfl]
        walk_at "e"
        refine ws_forR1 (n := (xs.length : Int)) (M1 := M) (by walk_at "e"; exact ⟨rfl, rfl⟩) (by omega)
          (fun i ρ' M' => ∃ y, ρ' = [some (.dat (.list xs)), some (.dat (.list xs)), y] ∧ M' = M) ⟨_, rfl, rfl⟩ ?_ ?_
        · rintro i ρ' M' hi ⟨y, rfl, rfl⟩
          have hi' : i < xs.length := by omega
          refine wg_name ?_
          have hat : atI xs (i : Int) = some xs[i] := atI_nat (List.getElem?_eq_getElem hi')
          walk_at "e"
          refine w2_ixDL hat ?_
          walk_at "e"
          refine w2_ixDL hat ?_
          walk_at "e"
          refine ⟨xs[i], rfl, okD_mem ho (List.getElem_mem hi'), ?_⟩
          walk_at "e"
          exact ⟨_, rfl, rfl⟩
        · rintro ρ' M' ⟨y, rfl, rfl⟩
          walk_at "e"
          exact q

def A_refused : ASp := fun ss M Q => ∃ v, ss = [.dat v] ∧ okSz v = false ∧ ∀ M', (∀ b u, M b = some u → M' b = some u) → Q (.bl true) M'
theorem ok_refused (T : Txt K mg a d) : FnOk P w K mg base CX0 3 a.law_refused d.law_refused ["_law_size"] (conc K A_refused) := by
  have G_Disk___init__ : FnOk P w K mg base (L2.CX P w) 1 a.Disk___init__ d.Disk___init__ ["self", "sectors"] (concX K (A_init a.Disk a.InvalidArgument)) := ok_init T
  refine ab_ok T.F_law_refused sc_law_refused (fun ss M Q ⟨v, e, _⟩ => by subst e; rfl) fun cdv Ar outer s H E hr => ?_
  have hu64 := hr.units
  refine ⟨_, (pss_cons (ps_tryAs (i := 1) rfl rfl sc_law_refused.nd rfl rfl ⟨rfl, by decide, .inl T.g_RuleError⟩ takes0 (fun W pn xe tk _ => (pss_one (ps_expr (pe_makeD T.mk_Disk G_Disk___init__ (hr.mono (by omega)) (by rfl) T.g_Disk T.b_Disk___init__ .nil (fun σ => passAt tk σ) (pa_cons (pv 0) pa_nil))))) (fun a1 oe cls d pn hz hf => (pss_one (ps_ret (pe_and (pe_isE hz hf (by rfl) T.n_isinstance (pa_cons (pv 1) (pa_cons (pe_glob (v := .ref a.InvalidArgument) (by rfl) T.g_InvalidArgument rfl) pa_nil))) (pe_one (pe_isE hz hf (by rfl) T.n_isinstance (pa_cons (pv 1) (pa_cons (pe_bltn (v := .ty "ValueError") (u := .type "ValueError") (by rfl) T.n_ValueError (by decide +kernel) rfl) pa_nil)))))))))
  (pss_one (ps_ret pe_bl))), ?_⟩
  rintro ss M Q ⟨v, rfl, hv, q⟩
  walk_at "k"
  show WS K _ [some (.dat v), none] M _
  refine ws_seq (ws_tryAs (fun C d ρ' M' => C = .ref a.InvalidArgument ∧ d = none ∧ (∃ y, ρ' = [some (.dat v), y]) ∧ ∀ b u, M b = some u → M' b = some u) (fun W => ?_) ?_)
  · refine ws_drop (w_makeX (wa_cons (w_var rfl (wa_nil fun x dx hx => ⟨x, dx, v, rfl, um_same, fun _ => ⟨rfl, rfl, ⟨_, rfl⟩, fun b u hb => ?_⟩, fun n M' A _ e => ?_⟩))))
    · rw [um_ne fun e => by rw [e, hx] at hb; cases hb]
      exact hb
    · rw [hv] at e
      cases e
  · rintro C dd ρ' M' ⟨rfl, rfl, ⟨y, rfl⟩, hM⟩
    refine ⟨true, PySem.W.exm_ref T.bs_RuleError T.hd_RuleError T.ty_RuleError T.s_InvalidArgument_RuleError, fun _ x => ?_, fun e => nomatch e⟩
    refine ws_ret (w_andV ?_)
    refine w_isE rfl rfl T.xc_InvalidArgument (wa_cons (w_var rfl (wa_cons (w_raw (wa_nil ⟨_, .ref a.InvalidArgument, true, rfl, fun u r => r, T.ki_InvalidArgument_InvalidArgument, true, rfl, ?_⟩)))))
    rw [if_pos rfl]
    refine w_isE rfl rfl T.xc_InvalidArgument (wa_cons (w_var rfl (wa_cons (w_raw (wa_nil ⟨_, .type "ValueError", true, rfl, fun u r => r, T.ki_InvalidArgument_ValueError, ?_⟩)))))
    exact q _ hM
end
end K06


set_option Elab.async false
set_option linter.all false
set_option maxRecDepth 100000
set_option  maxHeartbeats 4000000
namespace K06
open PySem PyProof.Rows L2 Ab
local macro_rules | `(tactic| walk_at "len") => `(tactic| first | decide | omega | (simp only [List.length_append, List.length_map, List.length_replicate, List.length_cons, List.length_nil, List.length_take, List.length_drop, List.length_reverse, List.length_range]; omega))
local macro_rules | `(tactic| walk_at "str") => `(tactic| first | decide +kernel | exact goodS_ok (by assumption) | assumption)
local macro_rules | `(tactic| walk_at "1") => `(tactic| (first
  | (with_reducible refine ws_set ?_)
  | (with_reducible refine ws_ret ?_)
  | (with_reducible refine ws_if ?_)
  | (with_reducible refine ws_drop ?_)
  | (with_reducible refine w_op ?_)
  | (with_reducible refine w_un ?_)
  | (with_reducible refine w_int ?_)
  | (with_reducible refine w_bl ?_)
  | (with_reducible refine w_non ?_)
  | (with_reducible refine w_str ?_)
  | (with_reducible refine w_cb ?_)
  | (with_reducible refine w_call ?_)
  | (with_reducible refine w_sl ?_)
  | (with_reducible refine w_tupD ?_)
  | (with_reducible refine w_chain ?_)
  | (with_reducible refine w_andV ?_)
  | (with_reducible refine w_orV ?_)
  | (with_reducible refine w_notV ?_)
  | (with_reducible refine wo_none ?_)
  | (with_reducible refine wo_some ?_)
  | (with_reducible refine wa_cons ?_)
  | (with_reducible refine wa_nil ?_)
  | (with_reducible refine wt_test ?_)
  | (with_reducible refine wt_B ?_)
  | (with_reducible refine wt_and ?_)
  | (with_reducible refine wt_or ?_)
  | (with_reducible refine wt_not ?_)
  | (with_reducible refine wt_yes ?_)
  | (with_reducible refine w2_i0 ?_)
  | (with_reducible refine w2_b0 ?_)
  | (with_reducible refine w1_neg ?_)
  | ((with_reducible refine w2_i ?hc ?_); (case hc => first | decide | exact ⟨by decide, by decide⟩ | exact Or.inl ⟨by decide, by decide⟩ | exact Or.inr ⟨by decide, by decide⟩ | exact ⟨by decide, by decide, by decide⟩ | omega); skip)
  | ((with_reducible refine' w_var ?hv ?_); (case hv => exact rfl); skip)
  | ((with_reducible show W2 _ (rEqD _) (Sl.dat (PyData.int _)) (Sl.dat (PyData.int _)) _ _); (refine w2_eqI ?_))
  | ((with_reducible show W2 _ (rNeD _) (Sl.dat (PyData.int _)) (Sl.dat (PyData.int _)) _ _); (refine w2_neI ?_))
  | ((with_reducible show W2 _ (rEqD _) (Sl.dat (PyData.str _)) (Sl.dat (PyData.str _)) _ _); (refine' w2_eqS ?h1 ?h2 ?_); (case h1 => walk_at "str"); (case h2 => walk_at "str"); skip)
  | ((with_reducible show W2 _ (rNeD _) (Sl.dat (PyData.str _)) (Sl.dat (PyData.str _)) _ _); (refine' w2_neS ?h1 ?h2 ?_); (case h1 => walk_at "str"); (case h2 => walk_at "str"); skip)
  | ((with_reducible show W2 _ (rEqD _) _ _ _ _); (refine w2_eq ?ha ?hb ?_); (case ha => first | exact shaped_int _ | exact shaped_bool _ | exact shaped_none); (case hb => first | exact shaped_int _ | exact shaped_bool _ | exact shaped_none); skip)
  | ((with_reducible show W2 _ (rNeD _) _ _ _ _); (refine w2_ne ?ha ?hb ?_); (case ha => first | exact shaped_int _ | exact shaped_bool _ | exact shaped_none); (case hb => first | exact shaped_int _ | exact shaped_bool _ | exact shaped_none); skip)
  | ((with_reducible show W2 _ _ _ _ _ _); (refine w2_isN ?_))
  | ((with_reducible show W2 _ rIsB _ _ _ _); (refine w2_isB ?_))
  | ((with_reducible show W2 _ rNotB _ _ _ _); (refine w2_notB ?_))
  | ((with_reducible show W2 _ _ _ _ _ _); (refine w2_notN ?_))
  | (with_reducible refine wl_lenE ?_)
  | (with_reducible refine wl_lenD ?_)
  | (with_reducible refine wl_lenTD ?_)
  | (with_reducible refine wl_listE ?_)
  | (with_reducible refine wsl_E ?_)
  | ((with_reducible refine' w2_catE ?hl ?_); (try (case hl => walk_at "len")); skip)
  | ((with_reducible refine' w2_rep1 ?h1 ?h2 ?_); (try (case h1 => first | decide | omega)); (try (case h2 => first | decide | omega)); skip)
  | ((with_reducible show WL _ _ [_] _ _); (refine' wl_len ?hl ?_); (case hl => first | exact lsv_dat | exact lsv_ref um_same | exact lsv_ref (by assumption)); skip)
  | ((with_reducible show WL _ _ [_] _ _); (refine' wl_list ?hl ?_); (case hl => first | exact .inl lsv_dat | exact .inl (lsv_ref (by assumption))); skip)
  | ((with_reducible show WSl _ (rSlL _) _ _ _ _ _); (refine' wsl_lst ?hl ?_); (case hl => first | exact lsv_dat | exact lsv_ref um_same | exact lsv_ref (by assumption)); skip)
  | ((with_reducible show WL _ _ [_] _ _); (refine wl_int ?_))
  | ((with_reducible show WL _ _ [_] _ _); (refine wl_intb ?_))
  | ((with_reducible show WL _ _ [_, _] _ _); (refine wl_min ?_))
  | ((with_reducible first | show W2 _ (rIxL _) (Sl.dat (PyData.list (List.cons _ _))) (Sl.dat (PyData.int _)) _ _ | show W2 _ (rIxL _) (Sl.dat (PyData.list (List.map PyData.int (List.cons _ _)))) (Sl.dat (PyData.int _)) _ _); (refine' w2_ixAny ?h0 ?h1 ?_); (case h0 => omega); (case h1 => first | omega | (simp only [List.length_cons, List.length_nil, List.length_map]; omega)); skip)
  | ((with_reducible show W2 _ (rIxL _) _ _ _ _); (refine' w2_ixL ?hs ?hx ?_); (case hs => first | exact lsv_dat | exact lsv_ref um_same | exact lsv_ref (by assumption)); (try (case hx => exact rfl)); skip)
  | ((with_reducible show W2 _ (rIxT _) _ _ _ _); (refine' w2_ixT ?hx ?_); (case hx => exact rfl); skip)
  | ((with_reducible show WL _ (rIsi _) [_, _] _ _); (refine' wl_isi ?hb ?_); (case hb => first | exact isi_bool _ | exact isi_int _ | exact isi_str _ | exact isi_tuple _ | exact isi_list _); skip)
  | ((with_reducible show W _ (tC (V.ty _)) _ _ _); (refine w_raw ?_))
  | ((with_reducible show W _ (tC (V.ref _)) _ _ _); (refine w_raw ?_))
  | ((with_reducible show WSl _ (rSlA _) _ _ _ _ _); (refine wsl_tup ?_))
  | ((with_reducible show WL _ (rTupS _) [Sl.dat (PyData.list _)] _ _); (refine wl_tuple lsv_dat ?_))
  | ((with_reducible show W2 _ (rCatA _) _ _ _ _); (refine' w2_catT ?hl ?_); (try (case hl => walk_at "len")); skip)
  | ((with_reducible show WL _ _ [_] _ _); (refine' wl_lenT ?hl ?_); (case hl => exact tpv_dat); skip)
  | ((with_reducible refine' w_fldI ?hv ?hM ?c ?n ?l ?_); (case hv => exact rfl); (case hM => first | assumption | exact um_same); (case c => assumption); (case n => assumption); (case l => walk_at "fl"); skip)
  | ((with_reducible refine' w_dgetI ?hv ?hM ?hx ?_); (case hv => exact rfl); (case hM => first | assumption | exact um_same); (case hx => walk_at "wg"); skip)
  | ((with_reducible refine' ws_fldI ?hv ?c ?n ?_); (case hv => exact rfl); (case c => assumption); (case n => assumption); skip)
  | (with_reducible refine ws_next ?_)
  | (with_reducible refine ite_t rfl ?_)
  | (with_reducible refine ite_f rfl ?_)
  | ((with_reducible refine' ite_t ?hb ?_); (case hb => decide +kernel); skip)
  | ((with_reducible refine' ite_f ?hb ?_); (case hb => decide +kernel); skip)
  | ((with_reducible show ∃ b : Bool, _ = Sl.bl b ∧ _); (with_reducible refine ⟨_, rfl, ?_⟩))
  | ((with_reducible show ∃ i : Int, _ = Sl.int i ∧ _); (with_reducible refine ⟨_, rfl, ?_⟩))
  | ((with_reducible show List.length _ ≤ 100000 ∧ _); (refine ⟨(by simp), ?_⟩))
  | ((with_reducible show ∃ ds : List PyData, datsOf _ = some ds ∧ _); (refine ⟨_, rfl, ?_⟩))))
local macro_rules | `(tactic| walk_at "e") => `(tactic| repeat (first | (with_reducible refine ws_seq ?_) | (walk_at "1")))
local macro_rules | `(tactic| walk_at "g") => `(tactic| repeat (first | (walk_at "1") | ((with_reducible refine w_lstI (wa_cons ?_)); (repeat (walk_at "1")); (with_reducible show ∃ ns : List Int, itemsI _ = some ns ∧ _); (refine ⟨_, rfl, ?_⟩)) | (with_reducible refine w_lstD ?_)))
local macro_rules | `(tactic| walk_at "f") => `(tactic| repeat (first | (with_reducible refine ws_seq ?_) | (walk_at "1") | ((with_reducible refine w_lstI (wa_cons ?_)); (repeat (walk_at "1")); (with_reducible show ∃ ns : List Int, itemsI _ = some ns ∧ _); (refine ⟨_, rfl, ?_⟩)) | (with_reducible refine w_lstD ?_)))
local macro_rules | `(tactic| walk_at "k") => `(tactic| first | dsimp only [cxOf, Cx.nox, Cx.wish] | skip)

local macro_rules | `(tactic| walk_at "fl") => `(tactic| with_reducible first | exact fl_use _ _ | exact fl_l _ _ | exact fl_s _ _ | exact fl_w _ _ | exact fl_on _ _ | exact fl_left _ _ | exact fl_failures _ _ | exact fl_writes _ _ | exact fl_syncs _ _)

section
variable {P : Program} {w : World} {K : PySem.W.Frag} {mg : Str → Option Value} {base : Heap} {a : AD} {d : FD}
structure GA where
  g : Addr
  l : Addr
  w : Addr
  c : Addr
abbrev kx (z : String) : Key := .inr (Str.ofString z)
def wdF (G : GA) (size : Int) (on : Bool) (left : Option Int) (losses : Int) : List (Key × Sl) := [(kx "size", .int size), (kx "lasting", .raw (.ref G.l)), (kx "waiting", .raw (.ref G.w)), (kx "on", .bl on), (kx "left", leftS left), (kx "losses", .int losses), (kx "counts", .raw (.ref G.c))]
theorem wg_size (G : GA) (n : Int) (on : Bool) (lf : Option Int) (ls : Int) : valG (wdF G n on lf ls) (kx "size") = some (.int n : Sl) := by kernel_rfl
theorem wg_lasting (G : GA) (n : Int) (on : Bool) (lf : Option Int) (ls : Int) : valG (wdF G n on lf ls) (kx "lasting") = some (.raw (.ref G.l)) := by kernel_rfl
theorem wg_waiting (G : GA) (n : Int) (on : Bool) (lf : Option Int) (ls : Int) : valG (wdF G n on lf ls) (kx "waiting") = some (.raw (.ref G.w)) := by kernel_rfl
theorem wg_on (G : GA) (n : Int) (on : Bool) (lf : Option Int) (ls : Int) : valG (wdF G n on lf ls) (kx "on") = some (.bl on : Sl) := by kernel_rfl
theorem wg_left (G : GA) (n : Int) (on : Bool) (lf : Option Int) (ls : Int) : valG (wdF G n on lf ls) (kx "left") = some (leftS lf) := by kernel_rfl
theorem wg_losses (G : GA) (n : Int) (on : Bool) (lf : Option Int) (ls : Int) : valG (wdF G n on lf ls) (kx "losses") = some (.int ls : Sl) := by kernel_rfl
theorem wg_counts (G : GA) (n : Int) (on : Bool) (lf : Option Int) (ls : Int) : valG (wdF G n on lf ls) (kx "counts") = some (.raw (.ref G.c)) := by kernel_rfl
theorem wp_leftN (G : GA) (n : Int) (on : Bool) (lf : Option Int) (ls : Int) : putG (wdF G n on lf ls) (kx "left") .non = wdF G n on none ls := by kernel_rfl
theorem wp_leftI (G : GA) (n : Int) (on : Bool) (lf : Option Int) (ls i : Int) : putG (wdF G n on lf ls) (kx "left") (.int i) = wdF G n on (some i) ls := by kernel_rfl
theorem wp_lost (G : GA) (n : Int) (on : Bool) (lf : Option Int) (ls x : Int) : mergeG (wdF G n on lf ls) (mergeG [] [(kx "on", .bl false), (kx "left", .non), (kx "losses", .int x)]) = wdF G n false none x := by kernel_rfl
theorem wm_len (G : GA) (n : Int) (on : Bool) (lf : Option Int) (ls : Int) (x y z : Sl) : (wdF G n on lf ls).length + (mergeG [] [(kx "on", x), (kx "left", y), (kx "losses", z)]).length ≤ 100000 := by
  have : (mergeG [] [(kx "on", x), (kx "left", y), (kx "losses", z)]).length = 3 := by kernel_rfl
  rw [this]
  show 7 + 3 ≤ 100000
  decide
local macro_rules | `(tactic| walk_at "wg") => `(tactic| first | exact wg_size _ _ _ _ _ | exact wg_lasting _ _ _ _ _ | exact wg_waiting _ _ _ _ _ | exact wg_on _ _ _ _ _ | exact wg_left _ _ _ _ _ | exact wg_losses _ _ _ _ _ | exact wg_counts _ _ _ _ _)

def opr (t : Dk) : Dk := if (cut t).on = true then stp (cut t) else cut t
def A_wop : ASp := fun ss M Q => ∃ G n t, ss = [.raw (.ref (GA.g G))] ∧ M G.g = some (.dK (wdF G n (Dk.on t) t.left t.failures)) ∧
  ∀ M', M' G.g = some (.dK (wdF G n (opr t).on (opr t).left (opr t).failures)) → (∀ b u, M b = some u → b ≠ G.g → M' b = some u) → Q (.bl (opr t).on) M'
theorem ok_wop (T : Txt K mg a d) : FnOk P w K mg base CX0 1 a.law_operate d.law_operate ["_law_world"] (conc K A_wop) := by
  refine ab_ok T.F_law_operate sc_law_operate (fun ss M Q ⟨G, n, t, e, _⟩ => by subst e; rfl) fun cdv Ar outer s H E hr => ?_
  have hu64 := hr.units
  refine ⟨_, (pss_cons (ps_if (PW.pt (pw_and (pt_val (pe_dget (hu1 hu64) (pv 0) pe_str (fun _ _ => rfl))) (pw_and1 (pt_cmpR (r := rEqD K) (op_eqD hu64) (pe_dget (hu1 hu64) (pv 0) pe_str (fun _ _ => rfl)) pe_int (nomark _))))) (pss_one (ps_expr (pe_bm PySem.F.plainAttrs_dict PySem.F.slot_dict_update PySem.F.type_dict_update (r := rUpdate) mt_update (pv 0) (pa_cons (pe_disp (pps_cons pe_str pe_bl (pps_cons pe_str pe_non (pps_cons pe_str (pe_op op_add (pe_dget (hu1 hu64) (pv 0) pe_str (fun _ _ => rfl)) pe_int) pps_nil))) (by rfl) (by rfl) (fun z => by cases z) (by decide)) pa_nil)))) pss_nil)
  (pss_cons (ps_if (PW.pt (pw_and (pt_val (pe_dget (hu1 hu64) (pv 0) pe_str (fun _ _ => rfl))) (pw_and1 (pt_cmpR op_notN (pe_dget (hu1 hu64) (pv 0) pe_str (fun _ _ => rfl)) pe_non (nomark _))))) (pss_one (ps_daug (hu1 hu64) (pv 0) pe_str pe_int in_sub (fun _ _ _ => rfl))) pss_nil)
  (pss_one (ps_ret (pe_dget (hu1 hu64) (pv 0) pe_str (fun _ _ => rfl)))))), ?_⟩
  rintro ss M Q ⟨G, n, t, rfl, hM, q⟩
  walk_at "k"
  show WS K _ [some (.raw (.ref G.g))] M _
  refine ws_mid (fun ρ' M' => ρ' = [some (.raw (.ref G.g))] ∧ M' G.g = some (.dK (wdF G n (cut t).on (cut t).left (cut t).failures)) ∧ ∀ b u, M b = some u → b ≠ G.g → M' b = some u) ?_ ?_
  · walk_at "f"
    refine ite_b (fun hon => ?_) (fun hon => ?_)
    · cases hl : t.left with
      | none =>
        have hc : cut t = t := if_neg (by rw [hl]; simp)
        walk_at "f"
        rw [hl]
        unfold leftS
        walk_at "f"
        exact ⟨rfl, by rw [hc]; exact hM, fun _ _ h _ => h⟩
      | some i =>
        walk_at "f"
        rw [hl]
        unfold leftS
        walk_at "f"
        refine ite_d (fun h0 => ?_) (fun h0 => ?_)
        · have hc : cut t = lost t := if_pos ⟨hon, by rw [hl, h0]⟩
          refine ws_drop (w_bm (w_var rfl ⟨ty_dct hM, wa_cons (w_disp fun p hp => ?_)⟩))
          have pg : p ≠ G.g := fun e => by rw [e, hM] at hp; cases hp
          have hM2 : um M p (.dK []) G.g = some (.dK (wdF G n t.on t.left t.failures)) := by rw [um_ne pg.symm]; exact hM
          refine wps_cons ?_
          walk_at "f"
          refine wps_cons ?_
          walk_at "f"
          refine wps_cons ?_
          walk_at "f"
          refine wps_nil ?_
          refine ⟨um_same, [(kx "on", .bl false), (kx "left", .non), (kx "losses", .int (t.failures + 1))], rfl, by simp, ?_⟩
          rw [um_um]
          refine wa_nil (wm_updateM (by rw [um_ne pg.symm]; exact hM) um_same pg (wm_len _ _ _ _ _ _ _ _) ?_)
          rw [wp_lost]
          exact ⟨rfl, by rw [hc]; exact um_same, fun b u hb hn => by rw [um_ne hn, um_ne fun e => by rw [e, hp] at hb; cases hb]; exact hb⟩
        · have hc : cut t = t := if_neg (by rw [hl]; rintro ⟨_, e⟩; exact h0 (Option.some.inj e))
          walk_at "f"
          exact ⟨rfl, by rw [hc]; exact hM, fun _ _ h _ => h⟩
    · have hc : cut t = t := if_neg (by rw [hon]; simp)
      walk_at "f"
      exact ⟨rfl, by rw [hc]; exact hM, fun _ _ h _ => h⟩
  · rintro ρ' M' ⟨rfl, hM', hF⟩
    walk_at "f"
    refine ite_b (fun hon => ?_) (fun hon => ?_)
    · have ho : opr t = stp (cut t) := by unfold opr; rw [if_pos hon]
      cases hl : (cut t).left with
      | none =>
        have hs : stp (cut t) = cut t := by unfold stp; rw [hl]
        walk_at "f"
        rw [hl]
        unfold leftS
        walk_at "f"
        have := q M' (by rw [ho, hs]; exact hM') hF
        rw [ho, hs] at this
        exact this
      | some i =>
        have hs : stp (cut t) = (cut t).sLeft (some (i - 1)) := by unfold stp; rw [hl]
        walk_at "f"
        rw [hl]
        unfold leftS
        walk_at "f"
        refine ws_daug rd_sub (w_var rfl (w_str ⟨G.g, _, kx "left", i, rfl, rfl, hM', by rw [wg_left, hl]; rfl, ?_⟩))
        walk_at "f"
        refine ⟨hM', by show 7 < 100000; decide, ?_⟩
        rw [wp_leftI]
        walk_at "f"
        have := q (um M' G.g (.dK (wdF G n (cut t).on (some (i - 1)) (cut t).failures))) (by rw [ho, hs]; exact um_same) fun b u hb hn => by rw [um_ne hn]; exact hF b u hb hn
        rw [ho, hs] at this
        exact this
    · have ho : opr t = cut t := by unfold opr; rw [if_neg (by rw [hon]; exact Bool.false_ne_true)]
      walk_at "f"
      have := q M' (by rw [ho]; exact hM') hF
      rw [ho] at this
      exact this
end
end K06


set_option Elab.async false
set_option linter.all false
set_option maxRecDepth 100000
set_option  maxHeartbeats 4000000
namespace K06
open PySem PyProof.Rows L2 Ab
local macro_rules | `(tactic| walk_at "len") => `(tactic| first | decide | omega | (simp only [List.length_append, List.length_map, List.length_replicate, List.length_cons, List.length_nil, List.length_take, List.length_drop, List.length_reverse, List.length_range]; omega))
local macro_rules | `(tactic| walk_at "str") => `(tactic| first | decide +kernel | exact goodS_ok (by assumption) | assumption)
local macro_rules | `(tactic| walk_at "1") => `(tactic| (first
  | (with_reducible refine ws_set ?_)
  | (with_reducible refine ws_ret ?_)
  | (with_reducible refine ws_if ?_)
  | (with_reducible refine ws_drop ?_)
  | (with_reducible refine w_op ?_)
  | (with_reducible refine w_un ?_)
  | (with_reducible refine w_int ?_)
  | (with_reducible refine w_bl ?_)
  | (with_reducible refine w_non ?_)
  | (with_reducible refine w_str ?_)
  | (with_reducible refine w_cb ?_)
  | (with_reducible refine w_call ?_)
  | (with_reducible refine w_sl ?_)
  | (with_reducible refine w_tupD ?_)
  | (with_reducible refine w_chain ?_)
  | (with_reducible refine w_andV ?_)
  | (with_reducible refine w_orV ?_)
  | (with_reducible refine w_notV ?_)
  | (with_reducible refine wo_none ?_)
  | (with_reducible refine wo_some ?_)
  | (with_reducible refine wa_cons ?_)
  | (with_reducible refine wa_nil ?_)
  | (with_reducible refine wt_test ?_)
  | (with_reducible refine wt_B ?_)
  | (with_reducible refine wt_and ?_)
  | (with_reducible refine wt_or ?_)
  | (with_reducible refine wt_not ?_)
  | (with_reducible refine wt_yes ?_)
  | (with_reducible refine w2_i0 ?_)
  | (with_reducible refine w2_b0 ?_)
  | (with_reducible refine w1_neg ?_)
  | ((with_reducible refine w2_i ?hc ?_); (case hc => first | decide | exact ⟨by decide, by decide⟩ | exact Or.inl ⟨by decide, by decide⟩ | exact Or.inr ⟨by decide, by decide⟩ | exact ⟨by decide, by decide, by decide⟩ | omega); skip)
  | ((with_reducible refine' w_var ?hv ?_); (case hv => exact rfl); skip)
  | ((with_reducible show W2 _ (rEqD _) (Sl.dat (PyData.int _)) (Sl.dat (PyData.int _)) _ _); (refine w2_eqI ?_))
  | ((with_reducible show W2 _ (rNeD _) (Sl.dat (PyData.int _)) (Sl.dat (PyData.int _)) _ _); (refine w2_neI ?_))
  | ((with_reducible show W2 _ (rEqD _) (Sl.dat (PyData.str _)) (Sl.dat (PyData.str _)) _ _); (refine' w2_eqS ?h1 ?h2 ?_); (case h1 => walk_at "str"); (case h2 => walk_at "str"); skip)
  | ((with_reducible show W2 _ (rNeD _) (Sl.dat (PyData.str _)) (Sl.dat (PyData.str _)) _ _); (refine' w2_neS ?h1 ?h2 ?_); (case h1 => walk_at "str"); (case h2 => walk_at "str"); skip)
  | ((with_reducible show W2 _ (rEqD _) _ _ _ _); (refine w2_eq ?ha ?hb ?_); (case ha => first | exact shaped_int _ | exact shaped_bool _ | exact shaped_none); (case hb => first | exact shaped_int _ | exact shaped_bool _ | exact shaped_none); skip)
  | ((with_reducible show W2 _ (rNeD _) _ _ _ _); (refine w2_ne ?ha ?hb ?_); (case ha => first | exact shaped_int _ | exact shaped_bool _ | exact shaped_none); (case hb => first | exact shaped_int _ | exact shaped_bool _ | exact shaped_none); skip)
  | ((with_reducible show W2 _ _ _ _ _ _); (refine w2_isN ?_))
  | ((with_reducible show W2 _ rIsB _ _ _ _); (refine w2_isB ?_))
  | ((with_reducible show W2 _ rNotB _ _ _ _); (refine w2_notB ?_))
  | ((with_reducible show W2 _ _ _ _ _ _); (refine w2_notN ?_))
  | (with_reducible refine wl_lenE ?_)
  | (with_reducible refine wl_lenD ?_)
  | (with_reducible refine wl_lenTD ?_)
  | (with_reducible refine wl_listE ?_)
  | (with_reducible refine wsl_E ?_)
  | ((with_reducible refine' w2_catE ?hl ?_); (try (case hl => walk_at "len")); skip)
  | ((with_reducible refine' w2_rep1 ?h1 ?h2 ?_); (try (case h1 => first | decide | omega)); (try (case h2 => first | decide | omega)); skip)
  | ((with_reducible show WL _ _ [_] _ _); (refine' wl_len ?hl ?_); (case hl => first | exact lsv_dat | exact lsv_ref um_same | exact lsv_ref (by assumption)); skip)
  | ((with_reducible show WL _ _ [_] _ _); (refine' wl_list ?hl ?_); (case hl => first | exact .inl lsv_dat | exact .inl (lsv_ref (by assumption))); skip)
  | ((with_reducible show WSl _ (rSlL _) _ _ _ _ _); (refine' wsl_lst ?hl ?_); (case hl => first | exact lsv_dat | exact lsv_ref um_same | exact lsv_ref (by assumption)); skip)
  | ((with_reducible show WL _ _ [_] _ _); (refine wl_int ?_))
  | ((with_reducible show WL _ _ [_] _ _); (refine wl_intb ?_))
  | ((with_reducible show WL _ _ [_, _] _ _); (refine wl_min ?_))
  | ((with_reducible first | show W2 _ (rIxL _) (Sl.dat (PyData.list (List.cons _ _))) (Sl.dat (PyData.int _)) _ _ | show W2 _ (rIxL _) (Sl.dat (PyData.list (List.map PyData.int (List.cons _ _)))) (Sl.dat (PyData.int _)) _ _); (refine' w2_ixAny ?h0 ?h1 ?_); (case h0 => omega); (case h1 => first | omega | (simp only [List.length_cons, List.length_nil, List.length_map]; omega)); skip)
  | ((with_reducible show W2 _ (rIxL _) _ _ _ _); (refine' w2_ixL ?hs ?hx ?_); (case hs => first | exact lsv_dat | exact lsv_ref um_same | exact lsv_ref (by assumption)); (try (case hx => exact rfl)); skip)
  | ((with_reducible show W2 _ (rIxT _) _ _ _ _); (refine' w2_ixT ?hx ?_); (case hx => exact rfl); skip)
  | ((with_reducible show WL _ (rIsi _) [_, _] _ _); (refine' wl_isi ?hb ?_); (case hb => first | exact isi_bool _ | exact isi_int _ | exact isi_str _ | exact isi_tuple _ | exact isi_list _); skip)
  | ((with_reducible show W _ (tC (V.ty _)) _ _ _); (refine w_raw ?_))
  | ((with_reducible show W _ (tC (V.ref _)) _ _ _); (refine w_raw ?_))
  | ((with_reducible show WSl _ (rSlA _) _ _ _ _ _); (refine wsl_tup ?_))
  | ((with_reducible show WL _ (rTupS _) [Sl.dat (PyData.list _)] _ _); (refine wl_tuple lsv_dat ?_))
  | ((with_reducible show W2 _ (rCatA _) _ _ _ _); (refine' w2_catT ?hl ?_); (try (case hl => walk_at "len")); skip)
  | ((with_reducible show WL _ _ [_] _ _); (refine' wl_lenT ?hl ?_); (case hl => exact tpv_dat); skip)
  | ((with_reducible refine' w_fldI ?hv ?hM ?c ?n ?l ?_); (case hv => exact rfl); (case hM => first | assumption | exact um_same); (case c => assumption); (case n => assumption); (case l => walk_at "fl"); skip)
  | ((with_reducible refine' w_dgetI ?hv ?hM ?hx ?_); (case hv => exact rfl); (case hM => first | assumption | exact um_same); (case hx => walk_at "wg"); skip)
  | ((with_reducible refine' ws_fldI ?hv ?c ?n ?_); (case hv => exact rfl); (case c => assumption); (case n => assumption); skip)
  | (with_reducible refine ws_next ?_)
  | (with_reducible refine ite_t rfl ?_)
  | (with_reducible refine ite_f rfl ?_)
  | ((with_reducible refine' ite_t ?hb ?_); (case hb => decide +kernel); skip)
  | ((with_reducible refine' ite_f ?hb ?_); (case hb => decide +kernel); skip)
  | ((with_reducible show ∃ b : Bool, _ = Sl.bl b ∧ _); (with_reducible refine ⟨_, rfl, ?_⟩))
  | ((with_reducible show ∃ i : Int, _ = Sl.int i ∧ _); (with_reducible refine ⟨_, rfl, ?_⟩))
  | ((with_reducible show List.length _ ≤ 100000 ∧ _); (refine ⟨(by simp), ?_⟩))
  | ((with_reducible show ∃ ds : List PyData, datsOf _ = some ds ∧ _); (refine ⟨_, rfl, ?_⟩))))
local macro_rules | `(tactic| walk_at "e") => `(tactic| repeat (first | (with_reducible refine ws_seq ?_) | (walk_at "1")))
local macro_rules | `(tactic| walk_at "g") => `(tactic| repeat (first | (walk_at "1") | ((with_reducible refine w_lstI (wa_cons ?_)); (repeat (walk_at "1")); (with_reducible show ∃ ns : List Int, itemsI _ = some ns ∧ _); (refine ⟨_, rfl, ?_⟩)) | (with_reducible refine w_lstD ?_)))
local macro_rules | `(tactic| walk_at "f") => `(tactic| repeat (first | (with_reducible refine ws_seq ?_) | (walk_at "1") | ((with_reducible refine w_lstI (wa_cons ?_)); (repeat (walk_at "1")); (with_reducible show ∃ ns : List Int, itemsI _ = some ns ∧ _); (refine ⟨_, rfl, ?_⟩)) | (with_reducible refine w_lstD ?_)))
local macro_rules | `(tactic| walk_at "k") => `(tactic| first | dsimp only [cxOf, Cx.nox, Cx.wish] | skip)

local macro_rules | `(tactic| walk_at "fl") => `(tactic| with_reducible first | exact fl_use _ _ | exact fl_l _ _ | exact fl_s _ _ | exact fl_w _ _ | exact fl_on _ _ | exact fl_left _ _ | exact fl_failures _ _ | exact fl_writes _ _ | exact fl_syncs _ _)

local macro_rules | `(tactic| walk_at "wg") => `(tactic| first | exact wg_size _ _ _ _ _ | exact wg_lasting _ _ _ _ _ | exact wg_waiting _ _ _ _ _ | exact wg_on _ _ _ _ _ | exact wg_left _ _ _ _ _ | exact wg_losses _ _ _ _ _ | exact wg_counts _ _ _ _ _)

section
variable {P : Program} {w : World} {K : PySem.W.Frag} {mg : Str → Option Value} {base : Heap} {a : AD} {d : FD}
def zeros : List Int := List.replicate 64 0
def wlS (wl : List (Int × List Int)) : MO := .dK (wl.map fun q => ((.inl q.1 : Key), lsm .int q.2))
/-- what a sector holds behind the waiting writes -/
def lastW : List (Int × List Int) → List Int → Int → List Int
  | [], d, _ => d
  | (j, x) :: r, d, i => lastW r (if j = i then x else d) i
theorem lastW_app : ∀ (ws : List (Int × List Int)) (d : List Int) (i j : Int) (x : List Int), lastW (ws ++ [(j, x)]) d i = if j = i then x else lastW ws d i
  | [], _, _, _, _ => rfl
  | (k, y) :: r, d, i, j, x => by
    show lastW (r ++ [(j, x)]) _ i = _
    rw [lastW_app r]
    rfl
/-- the draws, the disk and the law's own book of it -/
structure StAt (C : Addr) (M : MH) (p : Addr) (A : DA) (G : GA) (t : Dk) (wl : List (Int × List Int)) : Prop where
  hp : ∃ xs, M p = some (.lst xs) ∧ DrawL xs
  dk : DkAt C M A t
  hg : M G.g = some (.dK (wdF G t.lasting.length t.on t.left t.failures))
  hl : M G.l = some (wlS wl)
  hw : M G.w = some (waitS t.waiting)
  hc : M G.c = some (.lst [.int t.writes, .int t.syncs])
  ap : ¬ A.own p ∧ ¬ A.own G.g ∧ ¬ A.own G.l ∧ ¬ A.own G.w ∧ ¬ A.own G.c
  nw : p ≠ G.w ∧ p ≠ G.c ∧ G.w ≠ G.c ∧ G.g ≠ G.l
  n60 : 60 ≤ t.lasting.length ∧ t.lasting.length ≤ 400 ∧ t.seen.length = t.lasting.length
  rng : ∀ q ∈ t.waiting, 0 ≤ q.1 ∧ q.1 < t.lasting.length
  off : t.on = false → t.left = none
  seen : ∀ i : Nat, i < t.lasting.length → t.seen.getD i [] = lastW t.waiting (t.lasting.getD i []) i
  same : ∀ i : Nat, i < t.lasting.length → (valG wl (i : Int)).getD zeros = t.lasting.getD i []
  len : (∀ x ∈ t.lasting, x.length = 64) ∧ ∀ q ∈ t.waiting, q.2.length = 64
  use : t.use = false
theorem valG_wl (wl : List (Int × List Int)) (i : Int) : valG (wl.map fun q => ((.inl q.1 : Key), lsm .int q.2)) (.inl i) = (valG wl i).map fun x => lsm .int x := by
  induction wl with
  | nil => rfl
  | cons q r ih =>
    obtain ⟨j, x⟩ := q
    rw [List.map_cons, valG_cons, valG_cons, ih]
    by_cases e : j = i
    · subst e; simp
    · have : ¬ (Sum.inl j : Key) = .inl i := fun h => e (Sum.inl.inj h)
      rw [if_neg this, if_neg e]
/-- the law's own sector -/
def A_sector : ASp := fun ss M Q => ∃ G n on lf ls wl ws i, ss = [.raw (.ref (GA.g G)), .int i] ∧ M G.g = some (.dK (wdF G n on lf ls)) ∧ M G.l = some (wlS wl) ∧ M G.w = some (waitS ws) ∧ Q (lsm .int (lastW ws ((valG wl i).getD zeros) i)) M
theorem ok_sector (T : Txt K mg a d) : FnOk P w K mg base CX0 1 a.law_sector d.law_sector ["_law_world", "_law_index"] (conc K A_sector) := by
  refine ab_ok T.F_law_sector sc_law_sector (fun ss M Q ⟨G, n, on, lf, ls, wl, ws, i, e, _⟩ => by subst e; rfl) fun cdv Ar outer s H E hr => ?_
  have hu64 := hr.units
  refine ⟨_, (pss_cons (ps_set (i := 2) sc_law_sector.nd rfl (Or.inl rfl) (pe_dget2 (hu1 hu64) (pe_dget (hu1 hu64) (pv 0) pe_str (fun _ _ => rfl)) (pv 1) (pe_op op_repL (pe_lst (pa_cons pe_int pa_nil)) pe_int) ⟨rfl, rfl, rfl, rfl⟩))
  (pss_cons (ps_for PassesOwn.never rfl (pi_list (pe_dget (hu1 hu64) (pv 0) pe_str (fun _ _ => rfl))) (pg_tup (by rfl) (pgs_cons (pg_name (i := 3) sc_law_sector.nd rfl (Or.inl rfl)) (pgs_cons (pg_name (i := 4) sc_law_sector.nd rfl (Or.inl rfl)) pgs_nil))) (pss_one (ps_if (pt_cmpR (r := rEqD K) (op_eqD hu64) (pv 3) (pv 1) (nomark _)) (pss_one (ps_set (i := 2) sc_law_sector.nd rfl (Or.inl rfl) (pv 4))) pss_nil)))
  (pss_one (ps_ret (pv 2))))), ?_⟩
  rintro ss M Q ⟨G, n, on, lf, ls, wl, ws, i, rfl, hg, hl, hw, q⟩
  walk_at "k"
  show WS K _ [some (.raw (.ref G.g)), some (.int i), none, none, none] M _
  refine ws_seq (ws_set ?_)
  refine w_dget2 ?_
  walk_at "f"
  refine ⟨⟨_, dcv_ref hl⟩, ?_⟩
  walk_at "f"
  refine ⟨_, .inl i, dcv_ref hl, rfl, ?_⟩
  have e0 : (valG (wl.map fun q => ((.inl q.1 : Key), lsm .int q.2)) (.inl i)).getD (lsm .int (List.replicate (Int.toNat 64) 0)) = lsm .int ((valG wl i).getD zeros) := by
    rw [valG_wl]
    cases valG wl i <;> rfl
  rw [e0]
  generalize (valG wl i).getD zeros = d0 at q ⊢
  show WS K _ [some (.raw (.ref G.g)), some (.int i), some (lsm .int d0), none, none] M _
  refine ws_seq (ws_for (wi_list ?_))
  walk_at "f"
  refine ⟨_, lsv_ref hw, fun j ρ' M' => (∃ y3 y4, ρ' = [some (.raw (.ref G.g)), some (.int i), some (lsm .int (lastW (ws.take j) d0 i)), y3, y4]) ∧ M' = M, ⟨⟨none, none, rfl⟩, rfl⟩, fun j ρ' M' _ ⟨_, e⟩ => by rw [e]; exact lsv_ref hw, ?_, ?_⟩
  · rintro j ρ' M' hj ⟨⟨y3, y4, rfl⟩, rfl⟩
    have hj' : j < ws.length := by simpa using hj
    have g2 : (ws.map fun p => Sl.dat (.tuple [.int p.1, .list (p.2.map .int)])).getD j .non = .dat (.tuple [.int ws[j].1, .list (ws[j].2.map .int)]) := by
      rw [List.getD_eq_getElem?_getD, List.getElem?_map, List.getElem?_eq_getElem hj']
      rfl
    dsimp only
    rw [g2]
    refine wg_tup rfl rfl (wgs_cons (wg_name (wgs_cons (wg_name (wgs_nil ?_)))))
    have et := lastW_app (ws.take j) d0 i ws[j].1 ws[j].2
    rw [← List.take_succ_eq_append_getElem hj'] at et
    walk_at "f"
    refine ite_d (fun h => ?_) (fun h => ?_)
    · walk_at "f"
      rw [if_pos h] at et
      exact ⟨⟨_, _, by rw [et]; rfl⟩, rfl⟩
    · walk_at "f"
      rw [if_neg h] at et
      exact ⟨⟨_, _, by rw [et]; rfl⟩, rfl⟩
  · rintro ρ' M' ⟨⟨y3, y4, rfl⟩, rfl⟩
    rw [List.length_map, List.take_length]
    walk_at "f"
    exact q
end
end K06


set_option Elab.async false
set_option linter.all false
set_option maxRecDepth 100000
set_option  maxHeartbeats 4000000
namespace K06
open PySem PyProof.Rows L2 Ab
local macro_rules | `(tactic| walk_at "len") => `(tactic| first | decide | omega | (simp only [List.length_append, List.length_map, List.length_replicate, List.length_cons, List.length_nil, List.length_take, List.length_drop, List.length_reverse, List.length_range]; omega))
local macro_rules | `(tactic| walk_at "str") => `(tactic| first | decide +kernel | exact goodS_ok (by assumption) | assumption)
local macro_rules | `(tactic| walk_at "1") => `(tactic| (first
  | (with_reducible refine ws_set ?_)
  | (with_reducible refine ws_ret ?_)
  | (with_reducible refine ws_if ?_)
  | (with_reducible refine ws_drop ?_)
  | (with_reducible refine w_op ?_)
  | (with_reducible refine w_un ?_)
  | (with_reducible refine w_int ?_)
  | (with_reducible refine w_bl ?_)
  | (with_reducible refine w_non ?_)
  | (with_reducible refine w_str ?_)
  | (with_reducible refine w_cb ?_)
  | (with_reducible refine w_call ?_)
  | (with_reducible refine w_sl ?_)
  | (with_reducible refine w_tupD ?_)
  | (with_reducible refine w_chain ?_)
  | (with_reducible refine w_andV ?_)
  | (with_reducible refine w_orV ?_)
  | (with_reducible refine w_notV ?_)
  | (with_reducible refine wo_none ?_)
  | (with_reducible refine wo_some ?_)
  | (with_reducible refine wa_cons ?_)
  | (with_reducible refine wa_nil ?_)
  | (with_reducible refine wt_test ?_)
  | (with_reducible refine wt_B ?_)
  | (with_reducible refine wt_and ?_)
  | (with_reducible refine wt_or ?_)
  | (with_reducible refine wt_not ?_)
  | (with_reducible refine wt_yes ?_)
  | (with_reducible refine w2_i0 ?_)
  | (with_reducible refine w2_b0 ?_)
  | (with_reducible refine w1_neg ?_)
  | ((with_reducible refine w2_i ?hc ?_); (case hc => first | decide | exact ⟨by decide, by decide⟩ | exact Or.inl ⟨by decide, by decide⟩ | exact Or.inr ⟨by decide, by decide⟩ | exact ⟨by decide, by decide, by decide⟩ | omega); skip)
  | ((with_reducible refine' w_var ?hv ?_); (case hv => exact rfl); skip)
  | ((with_reducible show W2 _ (rEqD _) (Sl.dat (PyData.int _)) (Sl.dat (PyData.int _)) _ _); (refine w2_eqI ?_))
  | ((with_reducible show W2 _ (rNeD _) (Sl.dat (PyData.int _)) (Sl.dat (PyData.int _)) _ _); (refine w2_neI ?_))
  | ((with_reducible show W2 _ (rEqD _) (Sl.dat (PyData.str _)) (Sl.dat (PyData.str _)) _ _); (refine' w2_eqS ?h1 ?h2 ?_); (case h1 => walk_at "str"); (case h2 => walk_at "str"); skip)
  | ((with_reducible show W2 _ (rNeD _) (Sl.dat (PyData.str _)) (Sl.dat (PyData.str _)) _ _); (refine' w2_neS ?h1 ?h2 ?_); (case h1 => walk_at "str"); (case h2 => walk_at "str"); skip)
  | ((with_reducible show W2 _ (rEqD _) _ _ _ _); (refine w2_eq ?ha ?hb ?_); (case ha => first | exact shaped_int _ | exact shaped_bool _ | exact shaped_none); (case hb => first | exact shaped_int _ | exact shaped_bool _ | exact shaped_none); skip)
  | ((with_reducible show W2 _ (rNeD _) _ _ _ _); (refine w2_ne ?ha ?hb ?_); (case ha => first | exact shaped_int _ | exact shaped_bool _ | exact shaped_none); (case hb => first | exact shaped_int _ | exact shaped_bool _ | exact shaped_none); skip)
  | ((with_reducible show W2 _ _ _ _ _ _); (refine w2_isN ?_))
  | ((with_reducible show W2 _ rIsB _ _ _ _); (refine w2_isB ?_))
  | ((with_reducible show W2 _ rNotB _ _ _ _); (refine w2_notB ?_))
  | ((with_reducible show W2 _ _ _ _ _ _); (refine w2_notN ?_))
  | (with_reducible refine wl_lenE ?_)
  | (with_reducible refine wl_lenD ?_)
  | (with_reducible refine wl_lenTD ?_)
  | (with_reducible refine wl_listE ?_)
  | (with_reducible refine wsl_E ?_)
  | ((with_reducible refine' w2_catE ?hl ?_); (try (case hl => walk_at "len")); skip)
  | ((with_reducible refine' w2_rep1 ?h1 ?h2 ?_); (try (case h1 => first | decide | omega)); (try (case h2 => first | decide | omega)); skip)
  | ((with_reducible show WL _ _ [_] _ _); (refine' wl_len ?hl ?_); (case hl => first | exact lsv_dat | exact lsv_ref um_same | exact lsv_ref (by assumption)); skip)
  | ((with_reducible show WL _ _ [_] _ _); (refine' wl_list ?hl ?_); (case hl => first | exact .inl lsv_dat | exact .inl (lsv_ref (by assumption))); skip)
  | ((with_reducible show WSl _ (rSlL _) _ _ _ _ _); (refine' wsl_lst ?hl ?_); (case hl => first | exact lsv_dat | exact lsv_ref um_same | exact lsv_ref (by assumption)); skip)
  | ((with_reducible show WL _ _ [_] _ _); (refine wl_int ?_))
  | ((with_reducible show WL _ _ [_] _ _); (refine wl_intb ?_))
  | ((with_reducible show WL _ _ [_, _] _ _); (refine wl_min ?_))
  | ((with_reducible first | show W2 _ (rIxL _) (Sl.dat (PyData.list (List.cons _ _))) (Sl.dat (PyData.int _)) _ _ | show W2 _ (rIxL _) (Sl.dat (PyData.list (List.map PyData.int (List.cons _ _)))) (Sl.dat (PyData.int _)) _ _); (refine' w2_ixAny ?h0 ?h1 ?_); (case h0 => omega); (case h1 => first | omega | (simp only [List.length_cons, List.length_nil, List.length_map]; omega)); skip)
  | ((with_reducible show W2 _ (rIxL _) _ _ _ _); (refine' w2_ixL ?hs ?hx ?_); (case hs => first | exact lsv_dat | exact lsv_ref um_same | exact lsv_ref (by assumption)); (try (case hx => exact rfl)); skip)
  | ((with_reducible show W2 _ (rIxT _) _ _ _ _); (refine' w2_ixT ?hx ?_); (case hx => exact rfl); skip)
  | ((with_reducible show WL _ (rIsi _) [_, _] _ _); (refine' wl_isi ?hb ?_); (case hb => first | exact isi_bool _ | exact isi_int _ | exact isi_str _ | exact isi_tuple _ | exact isi_list _); skip)
  | ((with_reducible show W _ (tC (V.ty _)) _ _ _); (refine w_raw ?_))
  | ((with_reducible show W _ (tC (V.ref _)) _ _ _); (refine w_raw ?_))
  | ((with_reducible show WSl _ (rSlA _) _ _ _ _ _); (refine wsl_tup ?_))
  | ((with_reducible show WL _ (rTupS _) [Sl.dat (PyData.list _)] _ _); (refine wl_tuple lsv_dat ?_))
  | ((with_reducible show W2 _ (rCatA _) _ _ _ _); (refine' w2_catT ?hl ?_); (try (case hl => walk_at "len")); skip)
  | ((with_reducible show WL _ _ [_] _ _); (refine' wl_lenT ?hl ?_); (case hl => exact tpv_dat); skip)
  | ((with_reducible refine' w_fldI ?hv ?hM ?c ?n ?l ?_); (case hv => exact rfl); (case hM => first | assumption | exact um_same); (case c => assumption); (case n => assumption); (case l => walk_at "fl"); skip)
  | ((with_reducible refine' w_dgetI ?hv ?hM ?hx ?_); (case hv => exact rfl); (case hM => first | assumption | exact um_same); (case hx => walk_at "wg"); skip)
  | ((with_reducible refine' ws_fldI ?hv ?c ?n ?_); (case hv => exact rfl); (case c => assumption); (case n => assumption); skip)
  | (with_reducible refine ws_next ?_)
  | (with_reducible refine ite_t rfl ?_)
  | (with_reducible refine ite_f rfl ?_)
  | ((with_reducible refine' ite_t ?hb ?_); (case hb => decide +kernel); skip)
  | ((with_reducible refine' ite_f ?hb ?_); (case hb => decide +kernel); skip)
  | ((with_reducible show ∃ b : Bool, _ = Sl.bl b ∧ _); (with_reducible refine ⟨_, rfl, ?_⟩))
  | ((with_reducible show ∃ i : Int, _ = Sl.int i ∧ _); (with_reducible refine ⟨_, rfl, ?_⟩))
  | ((with_reducible show List.length _ ≤ 100000 ∧ _); (refine ⟨(by simp), ?_⟩))
  | ((with_reducible show ∃ ds : List PyData, datsOf _ = some ds ∧ _); (refine ⟨_, rfl, ?_⟩))))
local macro_rules | `(tactic| walk_at "e") => `(tactic| repeat (first | (with_reducible refine ws_seq ?_) | (walk_at "1")))
local macro_rules | `(tactic| walk_at "g") => `(tactic| repeat (first | (walk_at "1") | ((with_reducible refine w_lstI (wa_cons ?_)); (repeat (walk_at "1")); (with_reducible show ∃ ns : List Int, itemsI _ = some ns ∧ _); (refine ⟨_, rfl, ?_⟩)) | (with_reducible refine w_lstD ?_)))
local macro_rules | `(tactic| walk_at "f") => `(tactic| repeat (first | (with_reducible refine ws_seq ?_) | (walk_at "1") | ((with_reducible refine w_lstI (wa_cons ?_)); (repeat (walk_at "1")); (with_reducible show ∃ ns : List Int, itemsI _ = some ns ∧ _); (refine ⟨_, rfl, ?_⟩)) | (with_reducible refine w_lstD ?_)))
local macro_rules | `(tactic| walk_at "k") => `(tactic| first | dsimp only [cxOf, Cx.nox, Cx.wish] | skip)

local macro_rules | `(tactic| walk_at "fl") => `(tactic| with_reducible first | exact fl_use _ _ | exact fl_l _ _ | exact fl_s _ _ | exact fl_w _ _ | exact fl_on _ _ | exact fl_left _ _ | exact fl_failures _ _ | exact fl_writes _ _ | exact fl_syncs _ _)

local macro_rules | `(tactic| walk_at "wg") => `(tactic| first | exact wg_size _ _ _ _ _ | exact wg_lasting _ _ _ _ _ | exact wg_waiting _ _ _ _ _ | exact wg_on _ _ _ _ _ | exact wg_left _ _ _ _ _ | exact wg_losses _ _ _ _ _ | exact wg_counts _ _ _ _ _)

section
variable {P : Program} {w : World} {K : PySem.W.Frag} {mg : Str → Option Value} {base : Heap} {a : AD} {d : FD} {C : Addr} {M M' : MH} {p : Addr} {A A' : DA} {G : GA} {t t' : Dk} {wl : List (Int × List Int)}
/-- what follows of t alone -/
structure TOk (t : Dk) (wl : List (Int × List Int)) : Prop where
  n60 : 60 ≤ t.lasting.length ∧ t.lasting.length ≤ 400 ∧ t.seen.length = t.lasting.length
  rng : ∀ q ∈ t.waiting, 0 ≤ q.1 ∧ q.1 < t.lasting.length
  off : t.on = false → t.left = none
  seen : ∀ i : Nat, i < t.lasting.length → t.seen.getD i [] = lastW t.waiting (t.lasting.getD i []) i
  same : ∀ i : Nat, i < t.lasting.length → (valG wl (i : Int)).getD zeros = t.lasting.getD i []
  len : (∀ x ∈ t.lasting, x.length = 64) ∧ ∀ q ∈ t.waiting, q.2.length = 64
  use : t.use = false
theorem StAt.ok (h : StAt C M p A G t wl) : TOk t wl := ⟨h.n60, h.rng, h.off, h.seen, h.same, h.len, h.use⟩
/-- the draws go on -/
theorem StAt.draw (h : StAt C M p A G t wl) {ys : List Sl} (hD : DrawL ys) : StAt C (um M p (.lst ys)) p A G t wl := by
  obtain ⟨xs, hx, _⟩ := h.hp
  obtain ⟨a1, a2, a3, a4, a5⟩ := h.ap
  obtain ⟨w1, w2, w3, w4⟩ := h.nw
  have ng : G.g ≠ p := fun e => by have := h.hg; rw [e, hx] at this; cases this
  have nl : G.l ≠ p := fun e => by have := h.hl; rw [e, hx] at this; cases this
  have k : ∀ b, A.own b → b ≠ p := fun b hb e => a1 (e ▸ hb)
  refine ⟨⟨ys, um_same, hD⟩, ⟨?_, ?_, ?_, ?_, h.dk.n1, h.dk.n2, h.dk.n3⟩, ?_, ?_, ?_, ?_, h.ap, h.nw, h.n60, h.rng, h.off, h.seen, h.same, h.len, h.use⟩
  · rw [um_ne (k _ (.inl rfl))]; exact h.dk.ho
  · rw [um_ne (k _ (.inr (.inl rfl)))]; exact h.dk.hl
  · rw [um_ne (k _ (.inr (.inr (.inl rfl))))]; exact h.dk.hs
  · rw [um_ne (k _ (.inr (.inr (.inr rfl))))]; exact h.dk.hw
  · rw [um_ne ng]; exact h.hg
  · rw [um_ne nl]; exact h.hl
  · rw [um_ne w1.symm]; exact h.hw
  · rw [um_ne w2.symm]; exact h.hc
/-- the law's book alone, and that it is none of the disk's own -/
structure WdAt (M : MH) (p : Addr) (A : DA) (G : GA) (n : Int) (on : Bool) (lf : Option Int) (ls : Int) (wl ws : List (Int × List Int)) (wr sy : Int) : Prop where
  hp : ∃ xs, M p = some (.lst xs) ∧ DrawL xs
  hg : M G.g = some (.dK (wdF G n on lf ls))
  hl : M G.l = some (wlS wl)
  hw : M G.w = some (waitS ws)
  hc : M G.c = some (.lst [.int wr, .int sy])
  ap : ¬ A.own p ∧ ¬ A.own G.g ∧ ¬ A.own G.l ∧ ¬ A.own G.w ∧ ¬ A.own G.c
  nw : p ≠ G.w ∧ p ≠ G.c ∧ G.w ≠ G.c ∧ G.g ≠ G.l
theorem StAt.wd (h : StAt C M p A G t wl) : WdAt M p A G t.lasting.length t.on t.left t.failures wl t.waiting t.writes t.syncs := ⟨h.hp, h.hg, h.hl, h.hw, h.hc, h.ap, h.nw⟩
theorem WdAt.fr {n : Int} {on : Bool} {lf : Option Int} {ls wr sy : Int} {ws : List (Int × List Int)} (h : WdAt M p A G n on lf ls wl ws wr sy) (f : Fr M M' A A') : WdAt M' p A' G n on lf ls wl ws wr sy := by
  obtain ⟨xs, hx, hD⟩ := h.hp
  obtain ⟨a1, a2, a3, a4, a5⟩ := h.ap
  have b1 := f.2 _ _ hx a1
  have b2 := f.2 _ _ h.hg a2
  have b3 := f.2 _ _ h.hl a3
  have b4 := f.2 _ _ h.hw a4
  have b5 := f.2 _ _ h.hc a5
  exact ⟨⟨xs, b1.1, hD⟩, b2.1, b3.1, b4.1, b5.1, ⟨b1.2, b2.2, b3.2, b4.2, b5.2⟩, h.nw⟩
theorem WdAt.st {A : DA} {t : Dk} (h : WdAt M p A G t.lasting.length t.on t.left t.failures wl t.waiting t.writes t.syncs) (dk : DkAt C M A t) (ok : TOk t wl) : StAt C M p A G t wl := ⟨h.hp, dk, h.hg, h.hl, h.hw, h.hc, h.ap, h.nw, ok.n60, ok.rng, ok.off, ok.seen, ok.same, ok.len, ok.use⟩
/-- the dict of the book is written -/
theorem WdAt.g {n n' : Int} {on on' : Bool} {lf lf' : Option Int} {ls ls' wr sy : Int} {ws : List (Int × List Int)} (h : WdAt M p A G n on lf ls wl ws wr sy) (hg : M' G.g = some (.dK (wdF G n' on' lf' ls'))) (f : ∀ b u, M b = some u → b ≠ G.g → M' b = some u) : WdAt M' p A G n' on' lf' ls' wl ws wr sy := by
  obtain ⟨xs, hx, hD⟩ := h.hp
  have np : p ≠ G.g := fun e => by have := h.hg; rw [← e, hx] at this; cases this
  have nw : G.w ≠ G.g := fun e => by have := h.hw; rw [e, h.hg] at this; cases this
  have nc : G.c ≠ G.g := fun e => by have := h.hc; rw [e, h.hg] at this; cases this
  exact ⟨⟨xs, f _ _ hx np, hD⟩, hg, f _ _ h.hl h.nw.2.2.2.symm, f _ _ h.hw nw, f _ _ h.hc nc, h.ap, h.nw⟩
theorem DkAt.keep (h : DkAt C M A t) {g : Addr} (hg : ¬ A.own g) (f : ∀ b u, M b = some u → b ≠ g → M' b = some u) : DkAt C M' A t := by
  have k : ∀ b, A.own b → b ≠ g := fun b hb e => hg (e ▸ hb)
  exact ⟨f _ _ h.ho (k _ (.inl rfl)), f _ _ h.hl (k _ (.inr (.inl rfl))), f _ _ h.hs (k _ (.inr (.inr (.inl rfl)))), f _ _ h.hw (k _ (.inr (.inr (.inr rfl)))), h.n1, h.n2, h.n3⟩
end
end K06


set_option Elab.async false
set_option linter.all false
set_option maxRecDepth 100000
set_option  maxHeartbeats 4000000
namespace K06
open PySem PyProof.Rows L2 Ab
local macro_rules | `(tactic| walk_at "len") => `(tactic| first | decide | omega | (simp only [List.length_append, List.length_map, List.length_replicate, List.length_cons, List.length_nil, List.length_take, List.length_drop, List.length_reverse, List.length_range]; omega))
local macro_rules | `(tactic| walk_at "str") => `(tactic| first | decide +kernel | exact goodS_ok (by assumption) | assumption)
local macro_rules | `(tactic| walk_at "1") => `(tactic| (first
  | (with_reducible refine ws_set ?_)
  | (with_reducible refine ws_ret ?_)
  | (with_reducible refine ws_if ?_)
  | (with_reducible refine ws_drop ?_)
  | (with_reducible refine w_op ?_)
  | (with_reducible refine w_un ?_)
  | (with_reducible refine w_int ?_)
  | (with_reducible refine w_bl ?_)
  | (with_reducible refine w_non ?_)
  | (with_reducible refine w_str ?_)
  | (with_reducible refine w_cb ?_)
  | (with_reducible refine w_call ?_)
  | (with_reducible refine w_sl ?_)
  | (with_reducible refine w_tupD ?_)
  | (with_reducible refine w_chain ?_)
  | (with_reducible refine w_andV ?_)
  | (with_reducible refine w_orV ?_)
  | (with_reducible refine w_notV ?_)
  | (with_reducible refine wo_none ?_)
  | (with_reducible refine wo_some ?_)
  | (with_reducible refine wa_cons ?_)
  | (with_reducible refine wa_nil ?_)
  | (with_reducible refine wt_test ?_)
  | (with_reducible refine wt_B ?_)
  | (with_reducible refine wt_and ?_)
  | (with_reducible refine wt_or ?_)
  | (with_reducible refine wt_not ?_)
  | (with_reducible refine wt_yes ?_)
  | (with_reducible refine w2_i0 ?_)
  | (with_reducible refine w2_b0 ?_)
  | (with_reducible refine w1_neg ?_)
  | ((with_reducible refine w2_i ?hc ?_); (case hc => first | decide | exact ⟨by decide, by decide⟩ | exact Or.inl ⟨by decide, by decide⟩ | exact Or.inr ⟨by decide, by decide⟩ | exact ⟨by decide, by decide, by decide⟩ | omega); skip)
  | ((with_reducible refine' w_var ?hv ?_); (case hv => exact rfl); skip)
  | ((with_reducible show W2 _ (rEqD _) (Sl.dat (PyData.int _)) (Sl.dat (PyData.int _)) _ _); (refine w2_eqI ?_))
  | ((with_reducible show W2 _ (rNeD _) (Sl.dat (PyData.int _)) (Sl.dat (PyData.int _)) _ _); (refine w2_neI ?_))
  | ((with_reducible show W2 _ (rEqD _) (Sl.dat (PyData.str _)) (Sl.dat (PyData.str _)) _ _); (refine' w2_eqS ?h1 ?h2 ?_); (case h1 => walk_at "str"); (case h2 => walk_at "str"); skip)
  | ((with_reducible show W2 _ (rNeD _) (Sl.dat (PyData.str _)) (Sl.dat (PyData.str _)) _ _); (refine' w2_neS ?h1 ?h2 ?_); (case h1 => walk_at "str"); (case h2 => walk_at "str"); skip)
  | ((with_reducible show W2 _ (rEqD _) _ _ _ _); (refine w2_eq ?ha ?hb ?_); (case ha => first | exact shaped_int _ | exact shaped_bool _ | exact shaped_none); (case hb => first | exact shaped_int _ | exact shaped_bool _ | exact shaped_none); skip)
  | ((with_reducible show W2 _ (rNeD _) _ _ _ _); (refine w2_ne ?ha ?hb ?_); (case ha => first | exact shaped_int _ | exact shaped_bool _ | exact shaped_none); (case hb => first | exact shaped_int _ | exact shaped_bool _ | exact shaped_none); skip)
  | ((with_reducible show W2 _ _ _ _ _ _); (refine w2_isN ?_))
  | ((with_reducible show W2 _ rIsB _ _ _ _); (refine w2_isB ?_))
  | ((with_reducible show W2 _ rNotB _ _ _ _); (refine w2_notB ?_))
  | ((with_reducible show W2 _ _ _ _ _ _); (refine w2_notN ?_))
  | (with_reducible refine wl_lenE ?_)
  | (with_reducible refine wl_lenD ?_)
  | (with_reducible refine wl_lenTD ?_)
  | (with_reducible refine wl_listE ?_)
  | (with_reducible refine wsl_E ?_)
  | ((with_reducible refine' w2_catE ?hl ?_); (try (case hl => walk_at "len")); skip)
  | ((with_reducible refine' w2_rep1 ?h1 ?h2 ?_); (try (case h1 => first | decide | omega)); (try (case h2 => first | decide | omega)); skip)
  | ((with_reducible show WL _ _ [_] _ _); (refine' wl_len ?hl ?_); (case hl => first | exact lsv_dat | exact lsv_ref um_same | exact lsv_ref (by assumption)); skip)
  | ((with_reducible show WL _ _ [_] _ _); (refine' wl_list ?hl ?_); (case hl => first | exact .inl lsv_dat | exact .inl (lsv_ref (by assumption))); skip)
  | ((with_reducible show WSl _ (rSlL _) _ _ _ _ _); (refine' wsl_lst ?hl ?_); (case hl => first | exact lsv_dat | exact lsv_ref um_same | exact lsv_ref (by assumption)); skip)
  | ((with_reducible show WL _ _ [_] _ _); (refine wl_int ?_))
  | ((with_reducible show WL _ _ [_] _ _); (refine wl_intb ?_))
  | ((with_reducible show WL _ _ [_, _] _ _); (refine wl_min ?_))
  | ((with_reducible first | show W2 _ (rIxL _) (Sl.dat (PyData.list (List.cons _ _))) (Sl.dat (PyData.int _)) _ _ | show W2 _ (rIxL _) (Sl.dat (PyData.list (List.map PyData.int (List.cons _ _)))) (Sl.dat (PyData.int _)) _ _); (refine' w2_ixAny ?h0 ?h1 ?_); (case h0 => omega); (case h1 => first | omega | (simp only [List.length_cons, List.length_nil, List.length_map]; omega)); skip)
  | ((with_reducible show W2 _ (rIxL _) _ _ _ _); (refine' w2_ixL ?hs ?hx ?_); (case hs => first | exact lsv_dat | exact lsv_ref um_same | exact lsv_ref (by assumption)); (try (case hx => exact rfl)); skip)
  | ((with_reducible show W2 _ (rIxT _) _ _ _ _); (refine' w2_ixT ?hx ?_); (case hx => exact rfl); skip)
  | ((with_reducible show WL _ (rIsi _) [_, _] _ _); (refine' wl_isi ?hb ?_); (case hb => first | exact isi_bool _ | exact isi_int _ | exact isi_str _ | exact isi_tuple _ | exact isi_list _); skip)
  | ((with_reducible show W _ (tC (V.ty _)) _ _ _); (refine w_raw ?_))
  | ((with_reducible show W _ (tC (V.ref _)) _ _ _); (refine w_raw ?_))
  | ((with_reducible show WSl _ (rSlA _) _ _ _ _ _); (refine wsl_tup ?_))
  | ((with_reducible show WL _ (rTupS _) [Sl.dat (PyData.list _)] _ _); (refine wl_tuple lsv_dat ?_))
  | ((with_reducible show W2 _ (rCatA _) _ _ _ _); (refine' w2_catT ?hl ?_); (try (case hl => walk_at "len")); skip)
  | ((with_reducible show WL _ _ [_] _ _); (refine' wl_lenT ?hl ?_); (case hl => exact tpv_dat); skip)
  | ((with_reducible refine' w_fldI ?hv ?hM ?c ?n ?l ?_); (case hv => exact rfl); (case hM => first | assumption | exact um_same); (case c => assumption); (case n => assumption); (case l => walk_at "fl"); skip)
  | ((with_reducible refine' w_dgetI ?hv ?hM ?hx ?_); (case hv => exact rfl); (case hM => first | assumption | exact um_same); (case hx => walk_at "wg"); skip)
  | ((with_reducible refine' ws_fldI ?hv ?c ?n ?_); (case hv => exact rfl); (case c => assumption); (case n => assumption); skip)
  | (with_reducible refine ws_next ?_)
  | (with_reducible refine ite_t rfl ?_)
  | (with_reducible refine ite_f rfl ?_)
  | ((with_reducible refine' ite_t ?hb ?_); (case hb => decide +kernel); skip)
  | ((with_reducible refine' ite_f ?hb ?_); (case hb => decide +kernel); skip)
  | ((with_reducible show ∃ b : Bool, _ = Sl.bl b ∧ _); (with_reducible refine ⟨_, rfl, ?_⟩))
  | ((with_reducible show ∃ i : Int, _ = Sl.int i ∧ _); (with_reducible refine ⟨_, rfl, ?_⟩))
  | ((with_reducible show List.length _ ≤ 100000 ∧ _); (refine ⟨(by simp), ?_⟩))
  | ((with_reducible show ∃ ds : List PyData, datsOf _ = some ds ∧ _); (refine ⟨_, rfl, ?_⟩))))
local macro_rules | `(tactic| walk_at "e") => `(tactic| repeat (first | (with_reducible refine ws_seq ?_) | (walk_at "1")))
local macro_rules | `(tactic| walk_at "g") => `(tactic| repeat (first | (walk_at "1") | ((with_reducible refine w_lstI (wa_cons ?_)); (repeat (walk_at "1")); (with_reducible show ∃ ns : List Int, itemsI _ = some ns ∧ _); (refine ⟨_, rfl, ?_⟩)) | (with_reducible refine w_lstD ?_)))
local macro_rules | `(tactic| walk_at "f") => `(tactic| repeat (first | (with_reducible refine ws_seq ?_) | (walk_at "1") | ((with_reducible refine w_lstI (wa_cons ?_)); (repeat (walk_at "1")); (with_reducible show ∃ ns : List Int, itemsI _ = some ns ∧ _); (refine ⟨_, rfl, ?_⟩)) | (with_reducible refine w_lstD ?_)))
local macro_rules | `(tactic| walk_at "k") => `(tactic| first | dsimp only [cxOf, Cx.nox, Cx.wish] | skip)

local macro_rules | `(tactic| walk_at "fl") => `(tactic| with_reducible first | exact fl_use _ _ | exact fl_l _ _ | exact fl_s _ _ | exact fl_w _ _ | exact fl_on _ _ | exact fl_left _ _ | exact fl_failures _ _ | exact fl_writes _ _ | exact fl_syncs _ _)

local macro_rules | `(tactic| walk_at "wg") => `(tactic| first | exact wg_size _ _ _ _ _ | exact wg_lasting _ _ _ _ _ | exact wg_waiting _ _ _ _ _ | exact wg_on _ _ _ _ _ | exact wg_left _ _ _ _ _ | exact wg_losses _ _ _ _ _ | exact wg_counts _ _ _ _ _)

section
variable {P : Program} {w : World} {K : PySem.W.Frag} {mg : Str → Option Value} {base : Heap} {a : AD} {d : FD} {C : Addr} {M M' : MH} {p : Addr} {A A' : DA} {G : GA} {t t' : Dk} {wl : List (Int × List Int)}
/-! the law's book of the sectors -/
theorem putG_wl (wl : List (Int × List Int)) (i : Int) (x : List Int) : putG (wl.map fun q => ((.inl q.1 : Key), lsm .int q.2)) (.inl i) (lsm .int x) = (putG wl i x).map fun q => ((.inl q.1 : Key), lsm .int q.2) := by
  have e : ∀ j : Int, decide ((Sum.inl j : Key) = .inl i) = decide (j = i) := fun j => by
    by_cases h : j = i
    · subst h; simp
    · rw [decide_eq_false h, decide_eq_false fun q => h (Sum.inl.inj q)]
  have ea : ((wl.map fun q => ((.inl q.1 : Key), lsm .int q.2)).any fun kv => decide (kv.1 = .inl i)) = wl.any fun kv => decide (kv.1 = i) := by
    induction wl with
    | nil => rfl
    | cons q r ih => rw [List.map_cons, List.any_cons, List.any_cons, ih, e]
  unfold putG
  rw [ea]
  cases h : wl.any fun kv => decide (kv.1 = i) with
  | true =>
    rw [if_pos rfl, if_pos rfl, List.map_map, List.map_map]
    refine List.map_congr_left fun q _ => ?_
    show (if (Sum.inl q.1 : Key) = .inl i then ((.inl q.1 : Key), lsm .int x) else ((.inl q.1 : Key), lsm .int q.2)) = (((.inl ((if q.1 = i then (q.1, x) else q) : Int × List Int).1 : Key)), lsm .int ((if q.1 = i then (q.1, x) else q) : Int × List Int).2)
    by_cases hq : q.1 = i
    · rw [if_pos hq, if_pos (by rw [hq])]
    · rw [if_neg hq, if_neg fun z => hq (Sum.inl.inj z)]
  | false => rw [if_neg Bool.false_ne_true, if_neg Bool.false_ne_true, List.map_append]; rfl
theorem putG_len {κ β : Type} [DecidableEq κ] (l : List (κ × β)) (k : κ) (v : β) : (putG l k v).length ≤ l.length + 1 := by
  unfold putG
  split
  · rw [List.length_map]; omega
  · rw [List.length_append]; exact Nat.le_refl _
theorem mergeG_len {κ β : Type} [DecidableEq κ] : ∀ (ws l : List (κ × β)), (mergeG l ws).length ≤ l.length + ws.length
  | [], l => Nat.le_refl _
  | p :: ws, l => by
    have h1 := mergeG_len ws (putG l p.1 p.2)
    have h2 := putG_len l p.1 p.2
    show (mergeG (putG l p.1 p.2) ws).length ≤ l.length + (ws.length + 1)
    omega
theorem mergeG_last : ∀ (ws wl : List (Int × List Int)) (i : Int), (valG (mergeG wl ws) i).getD zeros = lastW ws ((valG wl i).getD zeros) i
  | [], _, _ => rfl
  | (j, x) :: ws, wl, i => by
    show (valG (mergeG (putG wl j x) ws) i).getD zeros = lastW ws (if j = i then x else (valG wl i).getD zeros) i
    rw [mergeG_last ws, valG_put]
    split <;> rfl
theorem merge_snoc {κ β : Type} [DecidableEq κ] (wl ws : List (κ × β)) (i : Nat) (h : i < ws.length) : mergeG wl (ws.take (i + 1)) = putG (mergeG wl (ws.take i)) ws[i].1 ws[i].2 := by
  rw [List.take_succ_eq_append_getElem h]
  unfold mergeG
  rw [List.foldl_append]
  rfl
/-- what the law books when power comes back -/
def kept (wl : List (Int × List Int)) : List Bool → List (Int × List Int) → List (Int × List Int)
  | b :: bs, (i, x) :: r => kept (if b then putG wl i x else wl) bs r
  | _, _ => wl
theorem kept_take : ∀ (ks : List Bool) (ws : List (Int × List Int)) (la : List (Int × List Int)) (i : Nat) (b : Bool) (p : Int × List Int), ks[i]? = some b → ws[i]? = some p →
    kept la (ks.take (i + 1)) (ws.take (i + 1)) = if b then putG (kept la (ks.take i) (ws.take i)) p.1 p.2 else kept la (ks.take i) (ws.take i)
  | k :: ks, (j, x) :: ws, la, 0, b, p, h1, h2 => by
    cases h1
    cases h2
    simp [kept]
  | k :: ks, (j, x) :: ws, la, i + 1, b, p, h1, h2 => by
    have := kept_take ks ws (if k then putG la j x else la) i b p (by simpa using h1) (by simpa using h2)
    simpa [kept] using this
  | [], _, _, _, _, _, h1, _ => by simp at h1
  | _ :: _, [], _, _, _, _, _, h2 => by simp at h2
theorem kept_len : ∀ (ks : List Bool) (ws la : List (Int × List Int)), (kept la ks ws).length ≤ la.length + ws.length
  | [], ws, la => by simp [kept]
  | _ :: _, [], _ => by simp [kept]
  | k :: ks, (j, x) :: ws, la => by
    have h1 := kept_len ks ws (if k then putG la j x else la)
    have h2 := putG_len la j x
    simp only [kept, List.length_cons]
    have : (if k then putG la j x else la).length ≤ la.length + 1 := by
      split
      · exact h2
      · omega
    omega
theorem kept_all (ks : List Bool) (ws la : List (Int × List Int)) : kept la (ks.take (min ks.length ws.length)) (ws.take (min ks.length ws.length)) = kept la ks ws := by
  induction ks generalizing ws la with
  | nil => simp [kept]
  | cons k ks ih =>
    cases ws with
    | nil => simp [kept]
    | cons p ws =>
      obtain ⟨j, x⟩ := p
      rw [List.length_cons, List.length_cons, Nat.succ_min_succ, List.take_succ_cons, List.take_succ_cons]
      simp only [kept]
      exact ih ws _
theorem getD_set (l : List (List Int)) (i j : Nat) (x : List Int) (h : i < l.length) : (l.set i x).getD j [] = if i = j then x else l.getD j [] := by
  rw [List.getD_eq_getElem?_getD, List.getElem?_set]
  by_cases e : i = j
  · rw [if_pos e, if_pos h, if_pos e]; rfl
  · rw [if_neg e, if_neg e, List.getD_eq_getElem?_getD]
theorem kept_apk : ∀ (ks : List Bool) (ws wl : List (Int × List Int)) (la : List (List Int)), (∀ q ∈ ws, 0 ≤ q.1 ∧ q.1 < la.length) → (∀ i : Nat, i < la.length → (valG wl (i : Int)).getD zeros = la.getD i []) →
    ∀ i : Nat, i < la.length → (valG (kept wl ks ws) (i : Int)).getD zeros = (apk la ks ws).getD i []
  | [], ws, wl, la, hr, h, i, hi => by simpa [kept, apk] using h i hi
  | _ :: _, [], wl, la, hr, h, i, hi => by simpa [kept, apk] using h i hi
  | k :: ks, (j, x) :: ws, wl, la, hr, h, i, hi => by
    have hj := hr _ (List.mem_cons_self ..)
    simp only [kept, apk]
    cases k with
    | false =>
      rw [if_neg Bool.false_ne_true, if_neg Bool.false_ne_true]
      exact kept_apk ks ws wl la (fun q hq => hr q (List.mem_cons_of_mem _ hq)) h i hi
    | true =>
      rw [if_pos rfl, if_pos rfl]
      refine kept_apk ks ws _ _ (fun q hq => by rw [List.length_set]; exact hr q (List.mem_cons_of_mem _ hq)) (fun n hn => ?_) i (by rw [List.length_set]; exact hi)
      rw [List.length_set] at hn
      rw [valG_put, getD_set _ _ _ _ (by have := hj.1; have := hj.2; omega)]
      by_cases e : j = (n : Int)
      · rw [if_pos e, if_pos (by omega)]; rfl
      · rw [if_neg e, if_neg (by have := hj.1; omega)]; exact h n hn
/-! what holds of the next ones -/
theorem TOk.cut (h : TOk t wl) : TOk (cut t) wl := by
  unfold K06.cut
  split
  · exact ⟨h.n60, h.rng, fun _ => rfl, h.seen, h.same, h.len, rfl⟩
  · exact h
theorem TOk.stp (h : TOk t wl) (hon : t.on = true) : TOk (stp t) wl := by
  unfold K06.stp
  split
  · exact h
  · exact ⟨h.n60, h.rng, fun e => (by have : t.on = false := e; rw [hon] at this; cases this), h.seen, h.same, h.len, h.use⟩
theorem TOk.wr (h : TOk t wl) (hon : t.on = true) {i : Int} {x : List Int} (h0 : 0 ≤ i) (h1 : i < t.lasting.length) (hx : x.length = 64) : TOk (wr t i x) wl := by
  refine ⟨⟨h.n60.1, h.n60.2.1, by show (t.seen.set _ _).length = _; rw [List.length_set]; exact h.n60.2.2⟩, fun q hq => ?_, fun e => (by have : t.on = false := e; rw [hon] at this; cases this), fun j hj => ?_, h.same, ⟨h.len.1, fun q hq => ?_⟩, h.use⟩
  · rcases List.mem_append.mp hq with h' | h'
    · exact h.rng q h'
    · rw [List.mem_singleton.mp h']; exact ⟨h0, h1⟩
  · show (t.seen.set i.toNat x).getD j [] = lastW (t.waiting ++ [(i, x)]) (t.lasting.getD j []) j
    have hl := h.n60.2.2
    rw [getD_set _ _ _ _ (by omega), lastW_app]
    by_cases e : i = (j : Int)
    · rw [if_pos e, if_pos (by omega)]
    · rw [if_neg e, if_neg (by omega)]; exact h.seen j hj
  · rcases List.mem_append.mp hq with h' | h'
    · exact h.len.2 q h'
    · rw [List.mem_singleton.mp h']; exact hx
theorem lastW_len : ∀ (ws : List (Int × List Int)) (d : List Int) (i : Int), d.length = 64 → (∀ q ∈ ws, q.2.length = 64) → (lastW ws d i).length = 64
  | [], _, _, h, _ => h
  | (j, x) :: r, d, i, h, hw => lastW_len r _ i (by split; exact hw _ (List.mem_cons_self ..); exact h) fun q hq => hw q (List.mem_cons_of_mem _ hq)
theorem TOk.seenLen (h : TOk t wl) (i : Nat) (hi : i < t.lasting.length) : (t.seen.getD i []).length = 64 := by
  rw [h.seen i hi]
  refine lastW_len _ _ _ (h.len.1 _ ?_) h.len.2
  rw [List.getD_eq_getElem?_getD, List.getElem?_eq_getElem hi]
  exact List.getElem_mem hi
theorem apk_mem : ∀ (ks : List Bool) (ws : List (Int × List Int)) (la : List (List Int)) (x : List Int), x ∈ apk la ks ws → x ∈ la ∨ ∃ q ∈ ws, q.2 = x
  | [], _, _, x, h => by simp only [apk] at h; exact .inl h
  | _ :: _, [], _, x, h => by simp only [apk] at h; exact .inl h
  | k :: ks, (j, y) :: ws, la, x, h => by
    simp only [apk] at h
    rcases apk_mem ks ws _ x h with h' | ⟨q, hq, e⟩
    · cases k with
      | false => rw [if_neg Bool.false_ne_true] at h'; exact .inl h'
      | true =>
        rw [if_pos rfl] at h'
        rcases List.mem_or_eq_of_mem_set h' with h2 | h2
        · exact .inl h2
        · exact .inr ⟨_, List.mem_cons_self .., h2.symm⟩
    · exact .inr ⟨q, List.mem_cons_of_mem _ hq, e⟩
theorem TOk.syn (h : TOk t wl) (hon : t.on = true) : TOk (syn t) (mergeG wl t.waiting) := by
  have hl := h.n60.2.2
  refine ⟨⟨by show 60 ≤ t.seen.length; rw [hl]; exact h.n60.1, by show t.seen.length ≤ 400; rw [hl]; exact h.n60.2.1, rfl⟩, fun q hq => (nomatch hq), fun e => (by have : t.on = false := e; rw [hon] at this; cases this), fun i _ => rfl, fun i hi => ?_, ⟨fun x hx => ?_, fun q hq => (nomatch hq)⟩, h.use⟩
  · have hi' : i < t.lasting.length := by rw [← hl]; exact hi
    rw [mergeG_last, h.same i hi']
    exact (h.seen i hi').symm
  · obtain ⟨i, hi, rfl⟩ := List.mem_iff_getElem.mp hx
    have := h.seenLen i (by rw [← hl]; exact hi)
    have hi2 : i < t.seen.length := hi
    rw [List.getD_eq_getElem?_getD, List.getElem?_eq_getElem hi2] at this
    exact this
theorem TOk.pwr (h : TOk t wl) (ks : List Bool) : TOk (pwr t ks) (kept wl ks t.waiting) := by
  have hl := apk_len ks t.waiting t.lasting
  refine ⟨⟨by show 60 ≤ (apk _ _ _).length; rw [hl]; exact h.n60.1, by show (apk _ _ _).length ≤ 400; rw [hl]; exact h.n60.2.1, rfl⟩, fun q hq => (nomatch hq), fun e => (nomatch e), fun i _ => rfl, fun i hi => kept_apk ks t.waiting wl t.lasting h.rng h.same i (by rw [← hl]; exact hi), ⟨fun x hx => ?_, fun q hq => (nomatch hq)⟩, ?_⟩
  · rcases apk_mem ks t.waiting t.lasting x hx with h' | ⟨q, hq, e⟩
    · exact h.len.1 x h'
    · rw [← e]; exact h.len.2 q hq
  · show (dark t).use = false
    unfold dark
    split
    · rfl
    · exact h.use
theorem TOk.left (h : TOk t wl) (hon : t.on = true) (v : Int) : TOk (t.sLeft (some v)) wl := ⟨h.n60, h.rng, fun e => (by have : t.on = false := e; rw [hon] at this; cases this), h.seen, h.same, h.len, h.use⟩
theorem opr_on (h : (cut t).on = true) : opr t = stp (cut t) := by unfold opr; rw [if_pos h]
theorem opr_off (h : (cut t).on = false) : opr t = cut t := by unfold opr; rw [if_neg (by rw [h]; exact Bool.false_ne_true)]
theorem opr_same (t : Dk) : (opr t).lasting = t.lasting ∧ (opr t).seen = t.seen ∧ (opr t).waiting = t.waiting ∧ (opr t).writes = t.writes ∧ (opr t).syncs = t.syncs := by
  have c : (cut t).lasting = t.lasting ∧ (cut t).seen = t.seen ∧ (cut t).waiting = t.waiting ∧ (cut t).writes = t.writes ∧ (cut t).syncs = t.syncs := by
    unfold cut
    split <;> exact ⟨rfl, rfl, rfl, rfl, rfl⟩
  unfold opr
  split
  · unfold stp
    split
    · exact c
    · exact c
  · exact c
theorem stp_on (t : Dk) : (stp t).on = t.on := by unfold stp; split <;> rfl
theorem TOk.opr (h : TOk t wl) : TOk (opr t) wl := by
  cases e : (K06.cut t).on with
  | true => rw [opr_on e]; exact h.cut.stp e
  | false => rw [opr_off e]; exact h.cut
/-- the law's book behind _law_operate -/
theorem WdAt.opr (h : StAt C M p A G t wl) (hg : M' G.g = some (.dK (wdF G t.lasting.length (opr t).on (opr t).left (opr t).failures))) (f : ∀ b u, M b = some u → b ≠ G.g → M' b = some u) : WdAt M' p A G (opr t).lasting.length (opr t).on (opr t).left (opr t).failures wl (opr t).waiting (opr t).writes (opr t).syncs := by
  obtain ⟨e1, e2, e3, e4, e5⟩ := opr_same t
  rw [e1, e3, e4, e5]
  exact h.wd.g hg f
def A_step (C : Addr) : ASp := fun ss M Q => ∃ p A G t wl, ss = [.raw (.ref p), .raw (.ref (GA.g G)), .raw (.ref (DA.o A))] ∧ StAt C M p A G t wl ∧ t.waiting.length < 500 ∧ wl.length < 90000 ∧
  ∀ M' A' G' t' wl', StAt C M' p A' G' t' wl' → A'.o = A.o → G'.g = G.g → t'.lasting.length = t.lasting.length → t'.waiting.length ≤ t.waiting.length + 1 → wl'.length ≤ wl.length + t.waiting.length → Q (.bl true) M'
def A_step2 (C : Addr) : ASp := fun ss M Q => ∃ p A G t wl, ss = [.raw (.ref (GA.g G)), .raw (.ref (DA.o A))] ∧ StAt C M p A G t wl ∧ t.waiting.length < 500 ∧ wl.length < 90000 ∧
  ∀ M' A' G' t' wl', StAt C M' p A' G' t' wl' → A'.o = A.o → G'.g = G.g → t'.lasting.length = t.lasting.length → t'.waiting.length ≤ t.waiting.length + 1 → wl'.length ≤ wl.length + t.waiting.length → Q (.bl true) M'
theorem ok_lfail (T : Txt K mg a d) : FnOk P w K mg base CX0 2 a.law_fail d.law_fail ["_law_state", "_law_world", "_law_disk"] (conc K (A_step a.Disk)) := by
  have G_law_next : FnOk P w K mg base CX0 1 a.law_next d.law_next ["_law_state", "_law_limit"] (conc K A_next) := ok_next T
  have G_Disk_fail_after : FnOk P w K mg base (L2.CX P w) 1 a.Disk_fail_after d.Disk_fail_after ["self", "operations"] (concX K (A_fail a.Disk a.PowerOff)) := ok_fail T
  refine ab_ok T.F_law_fail sc_law_fail (fun ss M Q ⟨p, A, G, t, wl, e, _⟩ => by subst e; rfl) fun cdv Ar outer s H E hr => ?_
  have hu64 := hr.units
  refine ⟨_, (pss_cons (ps_set (i := 3) sc_law_fail.nd rfl (Or.inl rfl) (pe_call G_law_next (hr.mono (by omega)) (by rfl) T.g_law_next T.F_law_next.kp T.b_law_next .nil pass0 (pa_cons (pv 0) (pa_cons pe_int pa_nil))))
  (pss_cons (ps_tryOnly rfl rfl ⟨rfl, by decide, .inl T.g_PowerOff⟩ takes0 (fun W pn xe tk _ => (pss_one (ps_expr (pe_methD (pv 2) T.cl_Disk T.m_Disk_fail_after G_Disk_fail_after (hr.mono (by omega)) T.b_Disk_fail_after .nil (fun σ => passAt tk σ) (pa_cons (pv 3) pa_nil))))) (fun a1 oe cls d pn _ _ => (pss_one (ps_ret (pe_not (pe_dget (hu1 hu64) (pv 1) pe_str (fun _ _ => rfl)))))))
  (pss_cons (ps_if (pt_not (pt_val (pe_dget (hu1 hu64) (pv 1) pe_str (fun _ _ => rfl)))) (pss_one (ps_ret pe_bl)) pss_nil)
  (pss_cons (ps_dput (hu1 hu64) (pv 1) pe_str (pv 3) rfl)
  (pss_one (ps_ret pe_bl)))))), ?_⟩
  rintro ss M Q ⟨p, A, G, t, wl, rfl, h, hn, hn2, q⟩
  walk_at "k"
  show WS K _ [some (.raw (.ref p)), some (.raw (.ref G.g)), some (.raw (.ref A.o)), none] M _
  obtain ⟨xs, hp, hD⟩ := h.hp
  walk_at "f"
  refine ⟨p, 7, xs, rfl, hp, hD, by decide, by decide, fun v ys v0 v1 hy => ?_⟩
  have h1 := h.draw hy
  generalize um M p (.lst ys) = M1 at h1
  have hg1 := h1.hg
  refine ws_seq (ws_tryO (fun C d ρ' M' => C = .ref a.PowerOff ∧ d = none ∧ ρ' = [some (.raw (.ref p)), some (.raw (.ref G.g)), some (.raw (.ref A.o)), some (.int v)] ∧ M' = M1 ∧ t.on = false) (fun W => ?_) ?_)
  · refine ws_drop (w_methX (w_var rfl ⟨A.o, A.dx, fldS A t, rfl, h1.dk.ho, by kernel_rfl, wa_cons (w_var rfl (wa_nil ⟨A, t, v, rfl, h1.dk, fun hon => ⟨rfl, rfl, rfl, rfl, hon⟩, fun M' dk f hon => ?_⟩))⟩))
    have wd := h1.wd.fr f
    have hg2 := wd.hg
    walk_at "f"
    refine ite_b (fun e => by rw [hon] at e; cases e) (fun _ => ?_)
    walk_at "f"
    refine ws_dput (w_var rfl (w_var rfl (w_str ⟨G.g, _, kx "left", rfl, rfl, hg2, by show 7 < 100000; decide, ?_⟩)))
    rw [wp_leftI]
    walk_at "f"
    have hf : ∀ b u, M' b = some u → b ≠ G.g → um M' G.g (.dK (wdF G t.lasting.length t.on (some v) t.failures)) b = some u := fun b u hb hn => by rw [um_ne hn]; exact hb
    exact q _ A G (t.sLeft (some v)) wl ((wd.g um_same hf).st (dk.keep h.ap.2.1 hf) (h1.ok.left hon v)) rfl rfl rfl (Nat.le_succ _) (Nat.le_add_right _ _)
  · rintro C dd ρ' M' ⟨rfl, rfl, rfl, rfl, hon⟩
    refine ⟨true, PySem.W.exm_ref T.bs_PowerOff T.hd_PowerOff T.ty_PowerOff T.s_PowerOff_PowerOff, fun _ x => ?_, fun e => nomatch e⟩
    walk_at "f"
    rw [hon]
    exact q _ A G t wl h1 rfl rfl rfl (Nat.le_succ _) (Nat.le_add_right _ _)
end
end K06


set_option Elab.async false
set_option linter.all false
set_option maxRecDepth 100000
set_option  maxHeartbeats 4000000
namespace K06
open PySem PyProof.Rows L2 Ab
local macro_rules | `(tactic| walk_at "len") => `(tactic| first | decide | omega | (simp only [List.length_append, List.length_map, List.length_replicate, List.length_cons, List.length_nil, List.length_take, List.length_drop, List.length_reverse, List.length_range]; omega))
local macro_rules | `(tactic| walk_at "str") => `(tactic| first | decide +kernel | exact goodS_ok (by assumption) | assumption)
local macro_rules | `(tactic| walk_at "1") => `(tactic| (first
  | (with_reducible refine ws_set ?_)
  | (with_reducible refine ws_ret ?_)
  | (with_reducible refine ws_if ?_)
  | (with_reducible refine ws_drop ?_)
  | (with_reducible refine w_op ?_)
  | (with_reducible refine w_un ?_)
  | (with_reducible refine w_int ?_)
  | (with_reducible refine w_bl ?_)
  | (with_reducible refine w_non ?_)
  | (with_reducible refine w_str ?_)
  | (with_reducible refine w_cb ?_)
  | (with_reducible refine w_call ?_)
  | (with_reducible refine w_sl ?_)
  | (with_reducible refine w_tupD ?_)
  | (with_reducible refine w_chain ?_)
  | (with_reducible refine w_andV ?_)
  | (with_reducible refine w_orV ?_)
  | (with_reducible refine w_notV ?_)
  | (with_reducible refine wo_none ?_)
  | (with_reducible refine wo_some ?_)
  | (with_reducible refine wa_cons ?_)
  | (with_reducible refine wa_nil ?_)
  | (with_reducible refine wt_test ?_)
  | (with_reducible refine wt_B ?_)
  | (with_reducible refine wt_and ?_)
  | (with_reducible refine wt_or ?_)
  | (with_reducible refine wt_not ?_)
  | (with_reducible refine wt_yes ?_)
  | (with_reducible refine w2_i0 ?_)
  | (with_reducible refine w2_b0 ?_)
  | (with_reducible refine w1_neg ?_)
  | ((with_reducible refine w2_i ?hc ?_); (case hc => first | decide | exact ⟨by decide, by decide⟩ | exact Or.inl ⟨by decide, by decide⟩ | exact Or.inr ⟨by decide, by decide⟩ | exact ⟨by decide, by decide, by decide⟩ | omega); skip)
  | ((with_reducible refine' w_var ?hv ?_); (case hv => exact rfl); skip)
  | ((with_reducible show W2 _ (rEqD _) (Sl.dat (PyData.int _)) (Sl.dat (PyData.int _)) _ _); (refine w2_eqI ?_))
  | ((with_reducible show W2 _ (rNeD _) (Sl.dat (PyData.int _)) (Sl.dat (PyData.int _)) _ _); (refine w2_neI ?_))
  | ((with_reducible show W2 _ (rEqD _) (Sl.dat (PyData.str _)) (Sl.dat (PyData.str _)) _ _); (refine' w2_eqS ?h1 ?h2 ?_); (case h1 => walk_at "str"); (case h2 => walk_at "str"); skip)
  | ((with_reducible show W2 _ (rNeD _) (Sl.dat (PyData.str _)) (Sl.dat (PyData.str _)) _ _); (refine' w2_neS ?h1 ?h2 ?_); (case h1 => walk_at "str"); (case h2 => walk_at "str"); skip)
  | ((with_reducible show W2 _ (rEqD _) _ _ _ _); (refine w2_eq ?ha ?hb ?_); (case ha => first | exact shaped_int _ | exact shaped_bool _ | exact shaped_none); (case hb => first | exact shaped_int _ | exact shaped_bool _ | exact shaped_none); skip)
  | ((with_reducible show W2 _ (rNeD _) _ _ _ _); (refine w2_ne ?ha ?hb ?_); (case ha => first | exact shaped_int _ | exact shaped_bool _ | exact shaped_none); (case hb => first | exact shaped_int _ | exact shaped_bool _ | exact shaped_none); skip)
  | ((with_reducible show W2 _ _ _ _ _ _); (refine w2_isN ?_))
  | ((with_reducible show W2 _ rIsB _ _ _ _); (refine w2_isB ?_))
  | ((with_reducible show W2 _ rNotB _ _ _ _); (refine w2_notB ?_))
  | ((with_reducible show W2 _ _ _ _ _ _); (refine w2_notN ?_))
  | (with_reducible refine wl_lenE ?_)
  | (with_reducible refine wl_lenD ?_)
  | (with_reducible refine wl_lenTD ?_)
  | (with_reducible refine wl_listE ?_)
  | (with_reducible refine wsl_E ?_)
  | ((with_reducible refine' w2_catE ?hl ?_); (try (case hl => walk_at "len")); skip)
  | ((with_reducible refine' w2_rep1 ?h1 ?h2 ?_); (try (case h1 => first | decide | omega)); (try (case h2 => first | decide | omega)); skip)
  | ((with_reducible show WL _ _ [_] _ _); (refine' wl_len ?hl ?_); (case hl => first | exact lsv_dat | exact lsv_ref um_same | exact lsv_ref (by assumption)); skip)
  | ((with_reducible show WL _ _ [_] _ _); (refine' wl_list ?hl ?_); (case hl => first | exact .inl lsv_dat | exact .inl (lsv_ref (by assumption))); skip)
  | ((with_reducible show WSl _ (rSlL _) _ _ _ _ _); (refine' wsl_lst ?hl ?_); (case hl => first | exact lsv_dat | exact lsv_ref um_same | exact lsv_ref (by assumption)); skip)
  | ((with_reducible show WL _ _ [_] _ _); (refine wl_int ?_))
  | ((with_reducible show WL _ _ [_] _ _); (refine wl_intb ?_))
  | ((with_reducible show WL _ _ [_, _] _ _); (refine wl_min ?_))
  | ((with_reducible first | show W2 _ (rIxL _) (Sl.dat (PyData.list (List.cons _ _))) (Sl.dat (PyData.int _)) _ _ | show W2 _ (rIxL _) (Sl.dat (PyData.list (List.map PyData.int (List.cons _ _)))) (Sl.dat (PyData.int _)) _ _); (refine' w2_ixAny ?h0 ?h1 ?_); (case h0 => omega); (case h1 => first | omega | (simp only [List.length_cons, List.length_nil, List.length_map]; omega)); skip)
  | ((with_reducible show W2 _ (rIxL _) _ _ _ _); (refine' w2_ixL ?hs ?hx ?_); (case hs => first | exact lsv_dat | exact lsv_ref um_same | exact lsv_ref (by assumption)); (try (case hx => exact rfl)); skip)
  | ((with_reducible show W2 _ (rIxT _) _ _ _ _); (refine' w2_ixT ?hx ?_); (case hx => exact rfl); skip)
  | ((with_reducible show WL _ (rIsi _) [_, _] _ _); (refine' wl_isi ?hb ?_); (case hb => first | exact isi_bool _ | exact isi_int _ | exact isi_str _ | exact isi_tuple _ | exact isi_list _); skip)
  | ((with_reducible show W _ (tC (V.ty _)) _ _ _); (refine w_raw ?_))
  | ((with_reducible show W _ (tC (V.ref _)) _ _ _); (refine w_raw ?_))
  | ((with_reducible show WSl _ (rSlA _) _ _ _ _ _); (refine wsl_tup ?_))
  | ((with_reducible show WL _ (rTupS _) [Sl.dat (PyData.list _)] _ _); (refine wl_tuple lsv_dat ?_))
  | ((with_reducible show W2 _ (rCatA _) _ _ _ _); (refine' w2_catT ?hl ?_); (try (case hl => walk_at "len")); skip)
  | ((with_reducible show WL _ _ [_] _ _); (refine' wl_lenT ?hl ?_); (case hl => exact tpv_dat); skip)
  | ((with_reducible refine' w_fldI ?hv ?hM ?c ?n ?l ?_); (case hv => exact rfl); (case hM => first | assumption | exact um_same); (case c => assumption); (case n => assumption); (case l => walk_at "fl"); skip)
  | ((with_reducible refine' w_dgetI ?hv ?hM ?hx ?_); (case hv => exact rfl); (case hM => first | assumption | exact um_same); (case hx => walk_at "wg"); skip)
  | ((with_reducible refine' ws_fldI ?hv ?c ?n ?_); (case hv => exact rfl); (case c => assumption); (case n => assumption); skip)
  | (with_reducible refine ws_next ?_)
  | (with_reducible refine ite_t rfl ?_)
  | (with_reducible refine ite_f rfl ?_)
  | ((with_reducible refine' ite_t ?hb ?_); (case hb => decide +kernel); skip)
  | ((with_reducible refine' ite_f ?hb ?_); (case hb => decide +kernel); skip)
  | ((with_reducible show ∃ b : Bool, _ = Sl.bl b ∧ _); (with_reducible refine ⟨_, rfl, ?_⟩))
  | ((with_reducible show ∃ i : Int, _ = Sl.int i ∧ _); (with_reducible refine ⟨_, rfl, ?_⟩))
  | ((with_reducible show List.length _ ≤ 100000 ∧ _); (refine ⟨(by simp), ?_⟩))
  | ((with_reducible show ∃ ds : List PyData, datsOf _ = some ds ∧ _); (refine ⟨_, rfl, ?_⟩))))
local macro_rules | `(tactic| walk_at "e") => `(tactic| repeat (first | (with_reducible refine ws_seq ?_) | (walk_at "1")))
local macro_rules | `(tactic| walk_at "g") => `(tactic| repeat (first | (walk_at "1") | ((with_reducible refine w_lstI (wa_cons ?_)); (repeat (walk_at "1")); (with_reducible show ∃ ns : List Int, itemsI _ = some ns ∧ _); (refine ⟨_, rfl, ?_⟩)) | (with_reducible refine w_lstD ?_)))
local macro_rules | `(tactic| walk_at "f") => `(tactic| repeat (first | (with_reducible refine ws_seq ?_) | (walk_at "1") | ((with_reducible refine w_lstI (wa_cons ?_)); (repeat (walk_at "1")); (with_reducible show ∃ ns : List Int, itemsI _ = some ns ∧ _); (refine ⟨_, rfl, ?_⟩)) | (with_reducible refine w_lstD ?_)))
local macro_rules | `(tactic| walk_at "k") => `(tactic| first | dsimp only [cxOf, Cx.nox, Cx.wish] | skip)

local macro_rules | `(tactic| walk_at "fl") => `(tactic| with_reducible first | exact fl_use _ _ | exact fl_l _ _ | exact fl_s _ _ | exact fl_w _ _ | exact fl_on _ _ | exact fl_left _ _ | exact fl_failures _ _ | exact fl_writes _ _ | exact fl_syncs _ _)

local macro_rules | `(tactic| walk_at "wg") => `(tactic| first | exact wg_size _ _ _ _ _ | exact wg_lasting _ _ _ _ _ | exact wg_waiting _ _ _ _ _ | exact wg_on _ _ _ _ _ | exact wg_left _ _ _ _ _ | exact wg_losses _ _ _ _ _ | exact wg_counts _ _ _ _ _)

section
variable {P : Program} {w : World} {K : PySem.W.Frag} {mg : Str → Option Value} {base : Heap} {a : AD} {d : FD} {C : Addr} {M M' : MH} {p : Addr} {A A' : DA} {G : GA} {t t' : Dk} {wl : List (Int × List Int)} {n : Int} {on : Bool} {lf : Option Int} {ls wr sy : Int} {ws : List (Int × List Int)}
def GA.sW (G : GA) (x : Addr) : GA := { G with w := x }
theorem wp_waiting (G : GA) (n : Int) (on : Bool) (lf : Option Int) (ls : Int) (x : Addr) : putG (wdF G n on lf ls) (kx "waiting") (.raw (.ref x)) = wdF (G.sW x) n on lf ls := by kernel_rfl
theorem um_f {M : MH} {b : Addr} {x : MO} : ∀ c u, M c = some u → c ≠ b → um M b x c = some u := fun c u hc hn => by rw [um_ne hn]; exact hc
theorem WdAt.gl (h : WdAt M p A G n on lf ls wl ws wr sy) : G.g ≠ G.w ∧ G.g ≠ G.c ∧ G.l ≠ G.w ∧ G.l ≠ G.c ∧ G.g ≠ p ∧ G.l ≠ p := by
  obtain ⟨xs, hx, _⟩ := h.hp
  refine ⟨fun e => ?_, fun e => ?_, fun e => ?_, fun e => ?_, fun e => ?_, fun e => ?_⟩
  · have := h.hg; rw [e, h.hw] at this; cases this
  · have := h.hg; rw [e, h.hc] at this; cases this
  · have := h.hl; rw [e, h.hw] at this; cases this
  · have := h.hl; rw [e, h.hc] at this; cases this
  · have := h.hg; rw [e, hx] at this; cases this
  · have := h.hl; rw [e, hx] at this; cases this
theorem WdAt.swl (h : WdAt M p A G n on lf ls wl ws wr sy) (wl' : List (Int × List Int)) : WdAt (um M G.l (wlS wl')) p A G n on lf ls wl' ws wr sy := by
  obtain ⟨xs, hx, hD⟩ := h.hp
  obtain ⟨g1, g2, g3, g4, g5, g6⟩ := h.gl
  exact ⟨⟨xs, um_f _ _ hx g6.symm, hD⟩, um_f _ _ h.hg h.nw.2.2.2, um_same, um_f _ _ h.hw g3.symm, um_f _ _ h.hc g4.symm, h.ap, h.nw⟩
theorem WdAt.cnt (h : WdAt M p A G n on lf ls wl ws wr sy) (wr' sy' : Int) : WdAt (um M G.c (.lst [.int wr', .int sy'])) p A G n on lf ls wl ws wr' sy' := by
  obtain ⟨xs, hx, hD⟩ := h.hp
  obtain ⟨g1, g2, g3, g4, g5, g6⟩ := h.gl
  exact ⟨⟨xs, um_f _ _ hx h.nw.2.1, hD⟩, um_f _ _ h.hg g2, um_f _ _ h.hl g4, um_f _ _ h.hw h.nw.2.2.1, um_same, h.ap, h.nw⟩
theorem WdAt.sws (h : WdAt M p A G n on lf ls wl ws wr sy) (ws' : List (Int × List Int)) : WdAt (um M G.w (waitS ws')) p A G n on lf ls wl ws' wr sy := by
  obtain ⟨xs, hx, hD⟩ := h.hp
  obtain ⟨g1, g2, g3, g4, g5, g6⟩ := h.gl
  exact ⟨⟨xs, um_f _ _ hx h.nw.1, hD⟩, um_f _ _ h.hg g1, um_f _ _ h.hl g3, um_same, um_f _ _ h.hc h.nw.2.2.1.symm, h.ap, h.nw⟩
theorem WdAt.new {q : Addr} {on' : Bool} {lf' : Option Int} {ls' : Int} (h : WdAt M p A G n on lf ls wl ws wr sy) (hq : M q = none) (nq : ¬ A.own q) (hg : M' G.g = some (.dK (wdF (G.sW q) n on' lf' ls'))) (hw : M' q = some (waitS [])) (f : ∀ b u, M b = some u → b ≠ G.g → M' b = some u) : WdAt M' p A (G.sW q) n on' lf' ls' wl [] wr sy := by
  obtain ⟨xs, hx, hD⟩ := h.hp
  obtain ⟨g1, g2, g3, g4, g5, g6⟩ := h.gl
  obtain ⟨a1, a2, a3, a4, a5⟩ := h.ap
  exact ⟨⟨xs, f _ _ hx g5.symm, hD⟩, hg, f _ _ h.hl h.nw.2.2.2.symm, hw, f _ _ h.hc g2.symm, ⟨a1, a2, a3, nq, a5⟩, ⟨fun e => (by rw [show p = q from e, hq] at hx; cases hx), h.nw.2.1, fun e => (by have h1 := h.hc; rw [show G.c = q from e.symm, hq] at h1; cases h1), h.nw.2.2.2⟩⟩
theorem DkAt.no_new (h : DkAt C M A t) {q : Addr} (hq : M q = none) : ¬ A.own q := fun e => by
  rcases e with rfl | rfl | rfl | rfl
  · rw [h.ho] at hq; cases hq
  · rw [h.hl] at hq; cases hq
  · rw [h.hs] at hq; cases hq
  · rw [h.hw] at hq; cases hq
theorem DkAt.um (h : DkAt C M A t) {b : Addr} {x : MO} (hb : ¬ A.own b) : DkAt C (um M b x) A t := h.keep hb um_f
theorem ok_lsync (T : Txt K mg a d) : FnOk P w K mg base CX0 4 a.law_sync d.law_sync ["_law_world", "_law_disk"] (conc K (A_step2 a.Disk)) := by
  have G_law_operate : FnOk P w K mg base CX0 1 a.law_operate d.law_operate ["_law_world"] (conc K A_wop) := ok_wop T
  have G_Disk_sync : FnOk P w K mg base (L2.CX P w) 3 a.Disk_sync d.Disk_sync ["self"] (concX K (A_sync a.Disk a.PowerOff)) := ok_sync T
  refine ab_ok T.F_law_sync sc_law_sync (fun ss M Q ⟨p, A, G, t, wl, e, _⟩ => by subst e; rfl) fun cdv Ar outer s H E hr => ?_
  have hu64 := hr.units
  refine ⟨_, (pss_cons (ps_set (i := 2) sc_law_sync.nd rfl (Or.inl rfl) (pe_call G_law_operate (hr.mono (by omega)) (by rfl) T.g_law_operate T.F_law_operate.kp T.b_law_operate .nil pass0 (pa_cons (pv 0) pa_nil)))
  (pss_cons (ps_tryOnly rfl rfl ⟨rfl, by decide, .inl T.g_PowerOff⟩ takes0 (fun W pn xe tk _ => (pss_one (ps_set (i := 3) sc_law_sync.nd rfl (Or.inl rfl) (pe_cmpR op_isN (pe_methD0 (pv 1) T.cl_Disk T.m_Disk_sync G_Disk_sync (hr.mono (by omega)) T.b_Disk_sync .nil (fun σ => passAt tk σ)) pe_non (nomark _))))) (fun a1 oe cls d pn _ _ => (pss_one (ps_ret (pe_not (pv 2))))))
  (pss_cons (ps_for PassesOwn.never rfl (pi_list (pe_dget (hu1 hu64) (pv 0) pe_str (fun _ _ => rfl))) (pg_tup (by rfl) (pgs_cons (pg_name (i := 4) sc_law_sync.nd rfl (Or.inl rfl)) (pgs_cons (pg_name (i := 5) sc_law_sync.nd rfl (Or.inl rfl)) pgs_nil))) (pss_one (ps_dput (hu1 hu64) (pe_dget (hu1 hu64) (pv 0) pe_str (fun _ _ => rfl)) (pv 4) (pv 5) rfl)))
  (pss_cons (ps_dput (hu1 hu64) (pv 0) pe_str (pe_lst pa_nil) rfl)
  (pss_cons (ps_augS (pe_dget (hu1 hu64) (pv 0) pe_str (fun _ _ => rfl)) pe_int pget_list pe_int ip_add set_list)
  (pss_one (ps_ret (pe_and (pv 3) (pe_one (pv 2)))))))))), ?_⟩
  rintro ss M Q ⟨p, A, G, t, wl, rfl, h, hn, hn2, q⟩
  walk_at "k"
  show WS K _ [some (.raw (.ref G.g)), some (.raw (.ref A.o)), none, none, none, none] M _
  walk_at "f"
  refine ⟨G, _, t, rfl, h.hg, fun M1 hg1 f1 => ?_⟩
  have wd1 := WdAt.opr h hg1 f1
  have dk1 := h.dk.keep h.ap.2.1 f1
  have ok1 := h.ok.opr
  show WS K _ [some (.raw (.ref G.g)), some (.raw (.ref A.o)), some (.bl (opr t).on), none, none, none] M1 _
  refine ws_seq (ws_tryO (fun C d ρ' M' => C = .ref a.PowerOff ∧ d = none ∧ ρ' = [some (.raw (.ref G.g)), some (.raw (.ref A.o)), some (.bl (opr t).on), none, none, none] ∧ DkAt a.Disk M' A (cut t) ∧ Fr M1 M' A A ∧ (cut t).on = false) (fun W => ?_) ?_)
  · refine ws_set (w_op (w_methX (w_var rfl ⟨A.o, A.dx, fldS A t, rfl, dk1.ho, by kernel_rfl, wa_nil ⟨A, t, rfl, dk1, fun M' dk f hon => ⟨rfl, rfl, rfl, dk, f, hon⟩, fun M' A' dk f hon => ?_⟩⟩)))
    have wd2 := wd1.fr f
    have eo := opr_on hon
    have hon2 : (opr t).on = true := by rw [eo, stp_on]; exact hon
    obtain ⟨e1, e2, e3, e4, e5⟩ := opr_same t
    rw [← eo] at dk
    rw [hon2]
    have hq := q M'
    rw [← e1, ← e3] at q
    rw [← e3] at hn
    generalize opr t = t2 at *
    walk_at "f"
    show WS K _ [some (.raw (.ref G.g)), some (.raw (.ref A.o)), some (.bl true), some (.bl true), none, none] M' _
    have hg2 := wd2.hg
    refine ws_seq (ws_for (wi_list ?_))
    walk_at "f"
    refine ⟨_, lsv_ref wd2.hw, fun j ρ' M3 => (∃ y4 y5, ρ' = [some (.raw (.ref G.g)), some (.raw (.ref A.o)), some (.bl true), some (.bl true), y4, y5]) ∧ M3 = um M' G.l (wlS (mergeG wl (t2.waiting.take j))), ⟨⟨none, none, rfl⟩, (um_id wd2.hl).symm⟩, fun j ρ' M3 _ ⟨_, e⟩ => by rw [e]; exact lsv_ref (wd2.swl _).hw, ?_, ?_⟩
    · rintro j ρ' M3 hj ⟨⟨y4, y5, rfl⟩, rfl⟩
      have hj' : j < t2.waiting.length := by simpa using hj
      have g2 : (t2.waiting.map fun p => Sl.dat (.tuple [.int p.1, .list (p.2.map .int)])).getD j .non = .dat (.tuple [.int t2.waiting[j].1, .list (t2.waiting[j].2.map .int)]) := by
        rw [List.getD_eq_getElem?_getD, List.getElem?_map, List.getElem?_eq_getElem hj']
        rfl
      dsimp only
      rw [g2]
      refine wg_tup rfl rfl (wgs_cons (wg_name (wgs_cons (wg_name (wgs_nil ?_)))))
      have hg3 := (wd2.swl (mergeG wl (t2.waiting.take j))).hg
      refine ws_dput ?_
      walk_at "f"
      refine ⟨G.l, _, .inl t2.waiting[j].1, rfl, rfl, um_same, ?_, ?_⟩
      · rw [List.length_map]
        have := mergeG_len (t2.waiting.take j) wl
        rw [List.length_take] at this
        omega
      · refine ⟨⟨_, _, rfl⟩, ?_⟩
        rw [um_um, merge_snoc wl t2.waiting j hj']
        show um M' G.l (.dK (putG _ _ (lsm .int t2.waiting[j].2))) = _
        rw [putG_wl]
        rfl
    · rintro ρ' M3 ⟨⟨y4, y5, rfl⟩, rfl⟩
      rw [List.length_map, List.take_length]
      have wd3 := wd2.swl (mergeG wl t2.waiting)
      have dk3 := dk.um (b := G.l) (x := wlS (mergeG wl t2.waiting)) wd2.ap.2.2.1
      generalize um M' G.l (wlS (mergeG wl t2.waiting)) = M3 at wd3 dk3
      refine ws_next (ws_seq (ws_dput ?_))
      refine w_lstM (wa_nil ⟨by simp, fun p2 hp2 => ?_⟩)
      refine w_var rfl (w_str ⟨G.g, wdF G t2.lasting.length t2.on t2.left t2.failures, kx "waiting", rfl, rfl, ?_, by show 7 < 100000; decide, ?_⟩)
      · rw [um_ne fun e => by rw [← e, wd3.hg] at hp2; cases hp2]; exact wd3.hg
      rw [wp_waiting]
      have np := dk3.no_new hp2
      have pg : p2 ≠ G.g := fun e => by rw [e, wd3.hg] at hp2; cases hp2
      have wd4 := wd3.new (M' := um (um M3 p2 (.lst [])) G.g (.dK (wdF (G.sW p2) t2.lasting.length t2.on t2.left t2.failures))) hp2 np um_same (by rw [um_ne pg]; exact um_same) (fun b u hb hn => by rw [um_ne hn, um_ne fun e => by rw [e, hp2] at hb; cases hb]; exact hb)
      have dk4 := (dk3.um (x := .lst []) np).um (b := G.g) (x := .dK (wdF (G.sW p2) t2.lasting.length t2.on t2.left t2.failures)) wd3.ap.2.1
      generalize um (um M3 p2 (.lst [])) G.g (.dK (wdF (G.sW p2) t2.lasting.length t2.on t2.left t2.failures)) = M4 at wd4 dk4
      have hg4 : M4 G.g = _ := wd4.hg
      refine ws_seq (ws_augL ?_)
      walk_at "f"
      refine ⟨G.c, _, 1, t2.syncs, rfl, rfl, wd4.hc, rfl, w_int ⟨1, rfl, wd4.hc, ?_⟩⟩
      have wd5 := wd4.cnt t2.writes (t2.syncs + 1)
      have dk5 := dk4.um (b := G.c) (x := .lst [.int t2.writes, .int (t2.syncs + 1)]) wd4.ap.2.2.2.2
      have ok5 := ok1.syn hon2
      walk_at "f"
      refine q _ A' (G.sW p2) (syn t2) (mergeG wl t2.waiting) (WdAt.st ?_ dk5 ok5) f.1 rfl ok1.n60.2.2 (Nat.zero_le _) (mergeG_len _ _)
      rw [show (syn t2).lasting.length = t2.lasting.length from ok1.n60.2.2]
      exact wd5
  · rintro C dd ρ' M' ⟨rfl, rfl, rfl, dk, f, hon⟩
    refine ⟨true, PySem.W.exm_ref T.bs_PowerOff T.hd_PowerOff T.ty_PowerOff T.s_PowerOff_PowerOff, fun _ x => ?_, fun e => nomatch e⟩
    have wd2 := wd1.fr f
    have eo := opr_off hon
    have hon2 : (opr t).on = false := by rw [eo]; exact hon
    obtain ⟨e1, e2, e3, e4, e5⟩ := opr_same t
    rw [← eo] at dk
    walk_at "f"
    rw [hon2]
    exact q _ A G (opr t) wl (wd2.st dk ok1) rfl rfl (by rw [e1]) (by rw [e3]; exact Nat.le_succ _) (Nat.le_add_right _ _)
end
end K06


set_option Elab.async false
set_option linter.all false
set_option maxRecDepth 100000
set_option  maxHeartbeats 4000000
namespace K06
open PySem PyProof.Rows L2 Ab
local macro_rules | `(tactic| walk_at "len") => `(tactic| first | decide | omega | (simp only [List.length_append, List.length_map, List.length_replicate, List.length_cons, List.length_nil, List.length_take, List.length_drop, List.length_reverse, List.length_range]; omega))
local macro_rules | `(tactic| walk_at "str") => `(tactic| first | decide +kernel | exact goodS_ok (by assumption) | assumption)
local macro_rules | `(tactic| walk_at "1") => `(tactic| (first
  | (with_reducible refine ws_set ?_)
  | (with_reducible refine ws_ret ?_)
  | (with_reducible refine ws_if ?_)
  | (with_reducible refine ws_drop ?_)
  | (with_reducible refine w_op ?_)
  | (with_reducible refine w_un ?_)
  | (with_reducible refine w_int ?_)
  | (with_reducible refine w_bl ?_)
  | (with_reducible refine w_non ?_)
  | (with_reducible refine w_str ?_)
  | (with_reducible refine w_cb ?_)
  | (with_reducible refine w_call ?_)
  | (with_reducible refine w_sl ?_)
  | (with_reducible refine w_tupD ?_)
  | (with_reducible refine w_chain ?_)
  | (with_reducible refine w_andV ?_)
  | (with_reducible refine w_orV ?_)
  | (with_reducible refine w_notV ?_)
  | (with_reducible refine wo_none ?_)
  | (with_reducible refine wo_some ?_)
  | (with_reducible refine wa_cons ?_)
  | (with_reducible refine wa_nil ?_)
  | (with_reducible refine wt_test ?_)
  | (with_reducible refine wt_B ?_)
  | (with_reducible refine wt_and ?_)
  | (with_reducible refine wt_or ?_)
  | (with_reducible refine wt_not ?_)
  | (with_reducible refine wt_yes ?_)
  | (with_reducible refine w2_i0 ?_)
  | (with_reducible refine w2_b0 ?_)
  | (with_reducible refine w1_neg ?_)
  | ((with_reducible refine w2_i ?hc ?_); (case hc => first | decide | exact ⟨by decide, by decide⟩ | exact Or.inl ⟨by decide, by decide⟩ | exact Or.inr ⟨by decide, by decide⟩ | exact ⟨by decide, by decide, by decide⟩ | omega); skip)
  | ((with_reducible refine' w_var ?hv ?_); (case hv => exact rfl); skip)
  | ((with_reducible show W2 _ (rEqD _) (Sl.dat (PyData.int _)) (Sl.dat (PyData.int _)) _ _); (refine w2_eqI ?_))
  | ((with_reducible show W2 _ (rNeD _) (Sl.dat (PyData.int _)) (Sl.dat (PyData.int _)) _ _); (refine w2_neI ?_))
  | ((with_reducible show W2 _ (rEqD _) (Sl.dat (PyData.str _)) (Sl.dat (PyData.str _)) _ _); (refine' w2_eqS ?h1 ?h2 ?_); (case h1 => walk_at "str"); (case h2 => walk_at "str"); skip)
  | ((with_reducible show W2 _ (rNeD _) (Sl.dat (PyData.str _)) (Sl.dat (PyData.str _)) _ _); (refine' w2_neS ?h1 ?h2 ?_); (case h1 => walk_at "str"); (case h2 => walk_at "str"); skip)
  | ((with_reducible show W2 _ (rEqD _) _ _ _ _); (refine w2_eq ?ha ?hb ?_); (case ha => first | exact shaped_int _ | exact shaped_bool _ | exact shaped_none); (case hb => first | exact shaped_int _ | exact shaped_bool _ | exact shaped_none); skip)
  | ((with_reducible show W2 _ (rNeD _) _ _ _ _); (refine w2_ne ?ha ?hb ?_); (case ha => first | exact shaped_int _ | exact shaped_bool _ | exact shaped_none); (case hb => first | exact shaped_int _ | exact shaped_bool _ | exact shaped_none); skip)
  | ((with_reducible show W2 _ _ _ _ _ _); (refine w2_isN ?_))
  | ((with_reducible show W2 _ rIsB _ _ _ _); (refine w2_isB ?_))
  | ((with_reducible show W2 _ rNotB _ _ _ _); (refine w2_notB ?_))
  | ((with_reducible show W2 _ _ _ _ _ _); (refine w2_notN ?_))
  | (with_reducible refine wl_lenE ?_)
  | (with_reducible refine wl_lenD ?_)
  | (with_reducible refine wl_lenTD ?_)
  | (with_reducible refine wl_listE ?_)
  | (with_reducible refine wsl_E ?_)
  | ((with_reducible refine' w2_catE ?hl ?_); (try (case hl => walk_at "len")); skip)
  | ((with_reducible refine' w2_rep1 ?h1 ?h2 ?_); (try (case h1 => first | decide | omega)); (try (case h2 => first | decide | omega)); skip)
  | ((with_reducible show WL _ _ [_] _ _); (refine' wl_len ?hl ?_); (case hl => first | exact lsv_dat | exact lsv_ref um_same | exact lsv_ref (by assumption)); skip)
  | ((with_reducible show WL _ _ [_] _ _); (refine' wl_list ?hl ?_); (case hl => first | exact .inl lsv_dat | exact .inl (lsv_ref (by assumption))); skip)
  | ((with_reducible show WSl _ (rSlL _) _ _ _ _ _); (refine' wsl_lst ?hl ?_); (case hl => first | exact lsv_dat | exact lsv_ref um_same | exact lsv_ref (by assumption)); skip)
  | ((with_reducible show WL _ _ [_] _ _); (refine wl_int ?_))
  | ((with_reducible show WL _ _ [_] _ _); (refine wl_intb ?_))
  | ((with_reducible show WL _ _ [_, _] _ _); (refine wl_min ?_))
  | ((with_reducible first | show W2 _ (rIxL _) (Sl.dat (PyData.list (List.cons _ _))) (Sl.dat (PyData.int _)) _ _ | show W2 _ (rIxL _) (Sl.dat (PyData.list (List.map PyData.int (List.cons _ _)))) (Sl.dat (PyData.int _)) _ _); (refine' w2_ixAny ?h0 ?h1 ?_); (case h0 => omega); (case h1 => first | omega | (simp only [List.length_cons, List.length_nil, List.length_map]; omega)); skip)
  | ((with_reducible show W2 _ (rIxL _) _ _ _ _); (refine' w2_ixL ?hs ?hx ?_); (case hs => first | exact lsv_dat | exact lsv_ref um_same | exact lsv_ref (by assumption)); (try (case hx => exact rfl)); skip)
  | ((with_reducible show W2 _ (rIxT _) _ _ _ _); (refine' w2_ixT ?hx ?_); (case hx => exact rfl); skip)
  | ((with_reducible show WL _ (rIsi _) [_, _] _ _); (refine' wl_isi ?hb ?_); (case hb => first | exact isi_bool _ | exact isi_int _ | exact isi_str _ | exact isi_tuple _ | exact isi_list _); skip)
  | ((with_reducible show W _ (tC (V.ty _)) _ _ _); (refine w_raw ?_))
  | ((with_reducible show W _ (tC (V.ref _)) _ _ _); (refine w_raw ?_))
  | ((with_reducible show WSl _ (rSlA _) _ _ _ _ _); (refine wsl_tup ?_))
  | ((with_reducible show WL _ (rTupS _) [Sl.dat (PyData.list _)] _ _); (refine wl_tuple lsv_dat ?_))
  | ((with_reducible show W2 _ (rCatA _) _ _ _ _); (refine' w2_catT ?hl ?_); (try (case hl => walk_at "len")); skip)
  | ((with_reducible show WL _ _ [_] _ _); (refine' wl_lenT ?hl ?_); (case hl => exact tpv_dat); skip)
  | ((with_reducible refine' w_fldI ?hv ?hM ?c ?n ?l ?_); (case hv => exact rfl); (case hM => first | assumption | exact um_same); (case c => assumption); (case n => assumption); (case l => walk_at "fl"); skip)
  | ((with_reducible refine' w_dgetI ?hv ?hM ?hx ?_); (case hv => exact rfl); (case hM => first | assumption | exact um_same); (case hx => walk_at "wg"); skip)
  | ((with_reducible refine' ws_fldI ?hv ?c ?n ?_); (case hv => exact rfl); (case c => assumption); (case n => assumption); skip)
  | (with_reducible refine ws_next ?_)
  | ((with_reducible show WS _ Ends.nx _ _ _); (refine ws_next ?_))
  | (with_reducible refine ite_t rfl ?_)
  | (with_reducible refine ite_f rfl ?_)
  | ((with_reducible refine' ite_t ?hb ?_); (case hb => decide +kernel); skip)
  | ((with_reducible refine' ite_f ?hb ?_); (case hb => decide +kernel); skip)
  | ((with_reducible show ∃ b : Bool, _ = Sl.bl b ∧ _); (with_reducible refine ⟨_, rfl, ?_⟩))
  | ((with_reducible show ∃ i : Int, _ = Sl.int i ∧ _); (with_reducible refine ⟨_, rfl, ?_⟩))
  | ((with_reducible show List.length _ ≤ 100000 ∧ _); (refine ⟨(by simp), ?_⟩))
  | ((with_reducible show ∃ ds : List PyData, datsOf _ = some ds ∧ _); (refine ⟨_, rfl, ?_⟩))))
local macro_rules | `(tactic| walk_at "e") => `(tactic| repeat (first | (with_reducible refine ws_seq ?_) | (walk_at "1")))
local macro_rules | `(tactic| walk_at "g") => `(tactic| repeat (first | (walk_at "1") | ((with_reducible refine w_lstI (wa_cons ?_)); (repeat (walk_at "1")); (with_reducible show ∃ ns : List Int, itemsI _ = some ns ∧ _); (refine ⟨_, rfl, ?_⟩)) | (with_reducible refine w_lstD ?_)))
local macro_rules | `(tactic| walk_at "f") => `(tactic| repeat (first | (with_reducible refine ws_seq ?_) | (walk_at "1") | ((with_reducible refine w_lstI (wa_cons ?_)); (repeat (walk_at "1")); (with_reducible show ∃ ns : List Int, itemsI _ = some ns ∧ _); (refine ⟨_, rfl, ?_⟩)) | (with_reducible refine w_lstD ?_)))
local macro_rules | `(tactic| walk_at "k") => `(tactic| first | dsimp only [cxOf, Cx.nox, Cx.wish] | skip)

local macro_rules | `(tactic| walk_at "fl") => `(tactic| with_reducible first | exact fl_use _ _ | exact fl_l _ _ | exact fl_s _ _ | exact fl_w _ _ | exact fl_on _ _ | exact fl_left _ _ | exact fl_failures _ _ | exact fl_writes _ _ | exact fl_syncs _ _)

local macro_rules | `(tactic| walk_at "wg") => `(tactic| first | exact wg_size _ _ _ _ _ | exact wg_lasting _ _ _ _ _ | exact wg_waiting _ _ _ _ _ | exact wg_on _ _ _ _ _ | exact wg_left _ _ _ _ _ | exact wg_losses _ _ _ _ _ | exact wg_counts _ _ _ _ _)

section
variable {P : Program} {w : World} {K : PySem.W.Frag} {mg : Str → Option Value} {base : Heap} {a : AD} {d : FD} {C : Addr} {M M' : MH} {p : Addr} {A A' : DA} {G : GA} {t t' : Dk} {wl : List (Int × List Int)} {n : Int} {on : Bool} {lf : Option Int} {ls wr sy : Int} {ws : List (Int × List Int)}
theorem WdAt.um (h : WdAt M p A G n on lf ls wl ws wr sy) {b : Addr} {x : MO} (hb : b ≠ p ∧ b ≠ G.g ∧ b ≠ G.l ∧ b ≠ G.w ∧ b ≠ G.c) : WdAt (um M b x) p A G n on lf ls wl ws wr sy := by
  obtain ⟨xs, hx, hD⟩ := h.hp
  obtain ⟨b1, b2, b3, b4, b5⟩ := hb
  exact ⟨⟨xs, um_f _ _ hx b1.symm, hD⟩, um_f _ _ h.hg b2.symm, um_f _ _ h.hl b3.symm, um_f _ _ h.hw b4.symm, um_f _ _ h.hc b5.symm, h.ap, h.nw⟩
theorem WdAt.fresh (h : WdAt M p A G n on lf ls wl ws wr sy) {b : Addr} (hb : M b = none) : b ≠ p ∧ b ≠ G.g ∧ b ≠ G.l ∧ b ≠ G.w ∧ b ≠ G.c := by
  obtain ⟨xs, hx, hD⟩ := h.hp
  refine ⟨fun e => ?_, fun e => ?_, fun e => ?_, fun e => ?_, fun e => ?_⟩
  · rw [e, hx] at hb; cases hb
  · rw [e, h.hg] at hb; cases hb
  · rw [e, h.hl] at hb; cases hb
  · rw [e, h.hw] at hb; cases hb
  · rw [e, h.hc] at hb; cases hb
theorem ok_lwrite (T : Txt K mg a d) : FnOk P w K mg base CX0 4 a.law_write d.law_write ["_law_state", "_law_world", "_law_disk"] (conc K (A_step a.Disk)) := by
  have G_law_next : FnOk P w K mg base CX0 1 a.law_next d.law_next ["_law_state", "_law_limit"] (conc K A_next) := ok_next T
  have G_law_operate : FnOk P w K mg base CX0 1 a.law_operate d.law_operate ["_law_world"] (conc K A_wop) := ok_wop T
  have G_Disk_write : FnOk P w K mg base (L2.CX P w) 3 a.Disk_write d.Disk_write ["self", "index", "data"] (concX K (A_write a.Disk a.PowerOff)) := ok_write T
  refine ab_ok T.F_law_write sc_law_write (fun ss M Q ⟨p, A, G, t, wl, e, _⟩ => by subst e; rfl) fun cdv Ar outer s H E hr => ?_
  have hu64 := hr.units
  refine ⟨_, (pss_cons (ps_set (i := 3) sc_law_write.nd rfl (Or.inl rfl) (pe_ix (r := rIxL K) ix_list (pe_lst (pa_cons pe_int (pa_cons pe_int (pa_cons (pe_op op_sub (pe_dget (hu1 hu64) (pv 1) pe_str (fun _ _ => rfl)) pe_int) (pa_cons (pe_call G_law_next (hr.mono (by omega)) (by rfl) T.g_law_next T.F_law_next.kp T.b_law_next .nil pass0 (pa_cons (pv 0) (pa_cons (pe_dget (hu1 hu64) (pv 1) pe_str (fun _ _ => rfl)) pa_nil))) pa_nil))))) (pe_call G_law_next (hr.mono (by omega)) (by rfl) T.g_law_next T.F_law_next.kp T.b_law_next .nil pass0 (pa_cons (pv 0) (pa_cons pe_int pa_nil))) (fun _ _ => rfl)))
  (pss_cons (ps_set (i := 4) sc_law_write.nd rfl (Or.inr rfl) (pe_call G_law_next (hr.mono (by omega)) (by rfl) T.g_law_next T.F_law_next.kp T.b_law_next .nil pass0 (pa_cons (pv 0) (pa_cons pe_int pa_nil))))
  (pss_cons (ps_setLc (i := 5) (own := [("_law_k", 6)]) rfl sc_law_write.nd rfl rfl (sw_true rfl rfl rfl (by decide +kernel)) (pi_range1 rfl T.n_range (pa_cons pe_int pa_nil)) (blkOk_by (own := [("_law_k", 6)]) (N := ["_law_state", "_law_world", "_law_disk", "_law_index", "_law_start", "_law_data", "_law_k", "_law_due", "_law_passed", "_law_done"]) (sc := (defScope s_law_write)) (by decide +kernel)) (fun _ _ _ _ _ => (pg_name (i := 6) sc_law_write.nd rfl (Or.inl rfl))) (fun _ _ _ _ _ => pts_nil) (fun _ _ _ _ _ => (pe_op op_mod (pe_op op_add (pv 4) (pe_op op_mul pe_int (pv 6))) pe_int)))
  (pss_cons (ps_set (i := 7) sc_law_write.nd rfl (Or.inl rfl) (pe_call G_law_operate (hr.mono (by omega)) (by rfl) T.g_law_operate T.F_law_operate.kp T.b_law_operate .nil pass0 (pa_cons (pv 1) pa_nil)))
  (pss_cons (ps_set (i := 8) sc_law_write.nd rfl (Or.inl rfl) (pe_callTy (r := rListS K) call_list_of (by rfl) T.n_list (by decide +kernel) (pa_cons (pv 5) pa_nil)))
  (pss_cons (ps_tryOnly rfl rfl ⟨rfl, by decide, .inl T.g_PowerOff⟩ takes0 (fun W pn xe tk _ => (pss_one (ps_set (i := 9) sc_law_write.nd rfl (Or.inl rfl) (pe_cmpR op_isN (pe_methD (pv 2) T.cl_Disk T.m_Disk_write G_Disk_write (hr.mono (by omega)) T.b_Disk_write .nil (fun σ => passAt tk σ) (pa_cons (pv 3) (pa_cons (pv 8) pa_nil))) pe_non (nomark _))))) (fun a1 oe cls d pn _ _ => (pss_one (ps_ret (pe_not (pv 7))))))
  (pss_cons (ps_asg (pe_op op_mod (pe_op op_add (pe_ix (r := rIxL K) ix_list (pv 8) pe_int (fun _ _ => rfl)) pe_int) pe_int) (pg_sub (pv 8) pe_int set_list))
  (pss_cons (ps_expr (pe_bm PySem.F.plainAttrs_list PySem.F.slot_list_append PySem.F.type_list_append mt_append (pe_dget (hu1 hu64) (pv 1) pe_str (fun _ _ => rfl)) (pa_cons (pe_tup (pa_cons (pv 3) (pa_cons (pv 5) pa_nil))) pa_nil)))
  (pss_cons (ps_augS (pe_dget (hu1 hu64) (pv 1) pe_str (fun _ _ => rfl)) pe_int pget_list pe_int ip_add set_list)
  (pss_one (ps_ret (pe_and (pv 9) (pe_one (pv 7)))))))))))))), ?_⟩
  rintro ss M Q ⟨p, A, G, t, wl, rfl, h, hn, hn2, q⟩
  walk_at "k"
  show WS K _ [some (.raw (.ref p)), some (.raw (.ref G.g)), some (.raw (.ref A.o)), none, none, none, none, none, none, none] M _
  obtain ⟨xs, hp, hD⟩ := h.hp
  obtain ⟨n60, n400, _⟩ := h.n60
  have hgM := h.hg
  walk_at "f"
  refine ⟨p, _, xs, rfl, hp, hD, by omega, Int.le_trans (b := 400) (by omega) (by decide), fun v ys v0 v1 hy => ?_⟩
  have h1 := h.draw hy
  generalize Ab.um M p (.lst ys) = M1 at h1
  obtain ⟨xs1, hp1, hD1⟩ := h1.hp
  walk_at "f"
  refine ⟨p, 4, xs1, rfl, hp1, hD1, by decide, by decide, fun v2 ys2 v20 v21 hy2 => ?_⟩
  have h2 := h1.draw hy2
  generalize Ab.um M1 p (.lst ys2) = M2 at h2
  obtain ⟨xs2, hp2, hD2⟩ := h2.hp
  walk_at "f"
  intro dd hdd
  obtain ⟨i, rfl, i0, i1⟩ : ∃ i : Int, dd = .int i ∧ 0 ≤ i ∧ i < t.lasting.length := by
    simp only [List.mem_cons, List.not_mem_nil, or_false] at hdd
    rcases hdd with rfl | rfl | rfl | rfl
    · exact ⟨0, rfl, by omega, by omega⟩
    · exact ⟨1, rfl, by omega, by omega⟩
    · exact ⟨_, rfl, by omega, by omega⟩
    · exact ⟨v, rfl, v0, v1⟩
  walk_at "f"
  refine ⟨p, 256, xs2, rfl, hp2, hD2, by decide, by decide, fun v3 ys3 v30 v31 hy3 => ?_⟩
  have h3 := h2.draw hy3
  generalize Ab.um M2 p (.lst ys3) = M3 at h3
  walk_at "f"
  refine w_lc (by decide) (wi_r1 (wa_cons (w_int (wa_nil ⟨64, rfl, by decide, by decide, fun i acc M' => M' = M3 ∧ ∃ zs : List Int, acc = zs.map .int ∧ zs.length = i, ⟨rfl, [], rfl, rfl⟩, fun _ _ _ _ _ _ _ _ => trivial, ?_, ?_⟩))))
  · rintro i acc M' D hi ⟨rfl, zs, rfl, hl⟩ hD
    refine wt_yes ?_
    walk_at "f"
    exact ⟨_, M', rfl, rfl, hD, by rw [List.length_map]; omega, rfl, zs ++ [(v3 + 7 * (i : Int)) % 256], (by rw [List.map_append]; rfl), by rw [List.length_append, hl]; rfl⟩
  rintro acc M' ⟨rfl, x, rfl, hx⟩
  have hx : x.length = 64 := hx
  walk_at "f"
  refine ⟨G, _, t, rfl, h3.hg, fun M1 hg1 f1 => ?_⟩
  have wd1 := WdAt.opr h3 hg1 f1
  have dk1 := h3.dk.keep h3.ap.2.1 f1
  have ok1 := h3.ok.opr
  refine ws_seq (ws_set (w_cb (wa_cons (w_var rfl (wa_nil (wl_listM (.inl lsv_dat) fun p2 hp2 => ?_))))))
  have np2 := dk1.no_new hp2
  have fr2 := wd1.fresh hp2
  have wd2 := wd1.um (x := .lst ((x.map PyData.int).map .dat)) fr2
  have dk2 := dk1.um (x := .lst ((x.map PyData.int).map .dat)) np2
  have hpp : Ab.um M1 p2 (.lst ((x.map PyData.int).map .dat)) p2 = some (.lst ((x.map PyData.int).map .dat)) := um_same
  generalize Ab.um M1 p2 (.lst ((x.map PyData.int).map .dat)) = M4 at wd2 dk2 hpp
  show WS K _ [some (.raw (.ref p)), some (.raw (.ref G.g)), some (.raw (.ref A.o)), some (.int i), some (.int v3), some (lsm .int x), none, some (.bl (opr t).on), some (.raw (.ref p2)), none] M4 _
  refine ws_seq (ws_tryO (fun C d ρ' M' => C = .ref a.PowerOff ∧ d = none ∧ ρ' = [some (.raw (.ref p)), some (.raw (.ref G.g)), some (.raw (.ref A.o)), some (.int i), some (.int v3), some (lsm .int x), none, some (.bl (opr t).on), some (.raw (.ref p2)), none] ∧ DkAt a.Disk M' A (cut t) ∧ Fr M4 M' A A ∧ (cut t).on = false) (fun W => ?_) ?_)
  · refine ws_set (w_op (w_methX (w_var rfl ⟨A.o, A.dx, fldS A t, rfl, dk2.ho, by kernel_rfl, wa_cons (w_var rfl (wa_cons (w_var rfl (wa_nil ⟨A, t, i, p2, x, rfl, dk2, i0, by rw [h.n60.2.2]; exact i1, by omega, hpp, np2, fun M' dk f hon => ⟨rfl, rfl, rfl, dk, f, hon⟩, fun M' dk f hon => ?_⟩))))⟩)))
    have wd3 := wd2.fr f
    have hp3 := (f.2 _ _ hpp np2).1
    have eo := opr_on hon
    have hon2 : (opr t).on = true := by rw [eo, stp_on]; exact hon
    obtain ⟨e1, e2, e3, e4, e5⟩ := opr_same t
    rw [← eo] at dk
    rw [hon2]
    rw [← e1, ← e3] at q
    rw [← e3] at hn
    rw [← e1] at i1
    generalize opr t = t2 at *
    walk_at "f"
    show WS K _ [some (.raw (.ref p)), some (.raw (.ref G.g)), some (.raw (.ref A.o)), some (.int i), some (.int v3), some (lsm .int x), none, some (.bl true), some (.raw (.ref p2)), some (.bl true)] M' _
    have ok3 := ok1.wr hon2 i0 i1 hx
    obtain ⟨x0, xr, rfl⟩ : ∃ x0 xr, x = x0 :: xr := by
      cases x with
      | nil => cases hx
      | cons x0 xr => exact ⟨_, _, rfl⟩
    refine ws_seq (ws_setL ?_)
    refine w_op (w_op (w_op (w_var rfl (w_int (w2_ixL (x := .int x0) (lsv_ref hp3) (atI_ok (by decide) rfl) ?_)))))
    walk_at "f"
    refine ⟨p2, _, 0, 0, rfl, rfl, hp3, (by unfold ixN; rw [if_pos (by decide), if_pos (by simp)]; rfl), ?_⟩
    have wd4 := wd3.um (x := .lst (((x0 :: xr).map PyData.int).map .dat |>.set 0 (.int ((x0 + 1) % 256)))) fr2
    have dk4 := dk.um (x := .lst (((x0 :: xr).map PyData.int).map .dat |>.set 0 (.int ((x0 + 1) % 256)))) np2
    show WS K _ _ (Ab.um M' p2 (.lst (((x0 :: xr).map PyData.int).map .dat |>.set 0 (.int ((x0 + 1) % 256))))) _
    generalize Ab.um M' p2 (.lst (((x0 :: xr).map PyData.int).map .dat |>.set 0 (.int ((x0 + 1) % 256)))) = M5 at wd4 dk4
    have hg5 := wd4.hg
    generalize x0 :: xr = x at *
    walk_at "f"
    refine w_bm ?_
    walk_at "f"
    refine ⟨ty_lst (lsv_ref wd4.hw), ?_⟩
    walk_at "f"
    refine wm_append wd4.hw (by rw [List.length_map]; omega) ?_
    have wd6 := wd4.sws (t2.waiting ++ [(i, x)])
    have dk6 := dk4.um (b := G.w) (x := waitS (t2.waiting ++ [(i, x)])) wd4.ap.2.2.2.1
    rw [show MO.lst ((t2.waiting.map fun p => Sl.dat (.tuple [.int p.1, .list (p.2.map .int)])) ++ [Sl.dat (.tuple [.int i, .list (x.map .int)])]) = waitS (t2.waiting ++ [(i, x)]) by unfold waitS; rw [List.map_append]; rfl]
    generalize Ab.um M5 G.w (waitS (t2.waiting ++ [(i, x)])) = M6 at wd6 dk6
    have hg6 := wd6.hg
    refine ws_seq (ws_augL ?_)
    walk_at "f"
    refine ⟨G.c, _, 0, t2.writes, rfl, rfl, wd6.hc, rfl, w_int ⟨1, rfl, wd6.hc, ?_⟩⟩
    have wd7 := wd6.cnt (t2.writes + 1) t2.syncs
    have dk7 := dk6.um (b := G.c) (x := .lst [.int (t2.writes + 1), .int t2.syncs]) wd6.ap.2.2.2.2
    walk_at "f"
    refine q _ A G (K06.wr t2 i x) wl (WdAt.st wd7 dk7 ok3) rfl rfl rfl ?_ (Nat.le_add_right _ _)
    show (t2.waiting ++ [(i, x)]).length ≤ _
    rw [List.length_append]
    exact Nat.le_refl _
  · rintro C dd ρ' M' ⟨rfl, rfl, rfl, dk, f, hon⟩
    refine ⟨true, PySem.W.exm_ref T.bs_PowerOff T.hd_PowerOff T.ty_PowerOff T.s_PowerOff_PowerOff, fun _ x => ?_, fun e => nomatch e⟩
    have wd3 := wd2.fr f
    have eo := opr_off hon
    have hon2 : (opr t).on = false := by rw [eo]; exact hon
    obtain ⟨e1, e2, e3, e4, e5⟩ := opr_same t
    rw [← eo] at dk
    walk_at "f"
    rw [hon2]
    exact q _ A G (opr t) wl (wd3.st dk ok1) rfl rfl (by rw [e1]) (by rw [e3]; exact Nat.le_succ _) (Nat.le_add_right _ _)
end
end K06


set_option Elab.async false
set_option linter.all false
set_option maxRecDepth 100000
set_option  maxHeartbeats 4000000
namespace K06
open PySem PyProof.Rows L2 Ab
local macro_rules | `(tactic| walk_at "len") => `(tactic| first | decide | omega | (simp only [List.length_append, List.length_map, List.length_replicate, List.length_cons, List.length_nil, List.length_take, List.length_drop, List.length_reverse, List.length_range]; omega))
local macro_rules | `(tactic| walk_at "str") => `(tactic| first | decide +kernel | exact goodS_ok (by assumption) | assumption)
local macro_rules | `(tactic| walk_at "1") => `(tactic| (first
  | (with_reducible refine ws_set ?_)
  | (with_reducible refine ws_ret ?_)
  | (with_reducible refine ws_if ?_)
  | (with_reducible refine ws_drop ?_)
  | (with_reducible refine w_op ?_)
  | (with_reducible refine w_un ?_)
  | (with_reducible refine w_int ?_)
  | (with_reducible refine w_bl ?_)
  | (with_reducible refine w_non ?_)
  | (with_reducible refine w_str ?_)
  | (with_reducible refine w_cb ?_)
  | (with_reducible refine w_call ?_)
  | (with_reducible refine w_sl ?_)
  | (with_reducible refine w_tupD ?_)
  | (with_reducible refine w_chain ?_)
  | (with_reducible refine w_andV ?_)
  | (with_reducible refine w_orV ?_)
  | (with_reducible refine w_notV ?_)
  | (with_reducible refine wo_none ?_)
  | (with_reducible refine wo_some ?_)
  | (with_reducible refine wa_cons ?_)
  | (with_reducible refine wa_nil ?_)
  | (with_reducible refine wt_test ?_)
  | (with_reducible refine wt_B ?_)
  | (with_reducible refine wt_and ?_)
  | (with_reducible refine wt_or ?_)
  | (with_reducible refine wt_not ?_)
  | (with_reducible refine wt_yes ?_)
  | (with_reducible refine w2_i0 ?_)
  | (with_reducible refine w2_b0 ?_)
  | (with_reducible refine w1_neg ?_)
  | ((with_reducible refine w2_i ?hc ?_); (case hc => first | decide | exact ⟨by decide, by decide⟩ | exact Or.inl ⟨by decide, by decide⟩ | exact Or.inr ⟨by decide, by decide⟩ | exact ⟨by decide, by decide, by decide⟩ | omega); skip)
  | ((with_reducible refine' w_var ?hv ?_); (case hv => exact rfl); skip)
  | ((with_reducible show W2 _ (rEqD _) (Sl.dat (PyData.int _)) (Sl.dat (PyData.int _)) _ _); (refine w2_eqI ?_))
  | ((with_reducible show W2 _ (rNeD _) (Sl.dat (PyData.int _)) (Sl.dat (PyData.int _)) _ _); (refine w2_neI ?_))
  | ((with_reducible show W2 _ (rEqD _) (Sl.dat (PyData.str _)) (Sl.dat (PyData.str _)) _ _); (refine' w2_eqS ?h1 ?h2 ?_); (case h1 => walk_at "str"); (case h2 => walk_at "str"); skip)
  | ((with_reducible show W2 _ (rNeD _) (Sl.dat (PyData.str _)) (Sl.dat (PyData.str _)) _ _); (refine' w2_neS ?h1 ?h2 ?_); (case h1 => walk_at "str"); (case h2 => walk_at "str"); skip)
  | ((with_reducible show W2 _ (rEqD _) _ _ _ _); (refine w2_eq ?ha ?hb ?_); (case ha => first | exact shaped_int _ | exact shaped_bool _ | exact shaped_none); (case hb => first | exact shaped_int _ | exact shaped_bool _ | exact shaped_none); skip)
  | ((with_reducible show W2 _ (rNeD _) _ _ _ _); (refine w2_ne ?ha ?hb ?_); (case ha => first | exact shaped_int _ | exact shaped_bool _ | exact shaped_none); (case hb => first | exact shaped_int _ | exact shaped_bool _ | exact shaped_none); skip)
  | ((with_reducible show W2 _ _ _ _ _ _); (refine w2_isN ?_))
  | ((with_reducible show W2 _ rIsB _ _ _ _); (refine w2_isB ?_))
  | ((with_reducible show W2 _ rNotB _ _ _ _); (refine w2_notB ?_))
  | ((with_reducible show W2 _ _ _ _ _ _); (refine w2_notN ?_))
  | (with_reducible refine wl_lenE ?_)
  | (with_reducible refine wl_lenD ?_)
  | (with_reducible refine wl_lenTD ?_)
  | (with_reducible refine wl_listE ?_)
  | (with_reducible refine wsl_E ?_)
  | ((with_reducible refine' w2_catE ?hl ?_); (try (case hl => walk_at "len")); skip)
  | ((with_reducible refine' w2_rep1 ?h1 ?h2 ?_); (try (case h1 => first | decide | omega)); (try (case h2 => first | decide | omega)); skip)
  | ((with_reducible show WL _ _ [_] _ _); (refine' wl_len ?hl ?_); (case hl => first | exact lsv_dat | exact lsv_ref um_same | exact lsv_ref (by assumption)); skip)
  | ((with_reducible show WL _ _ [_] _ _); (refine' wl_list ?hl ?_); (case hl => first | exact .inl lsv_dat | exact .inl (lsv_ref (by assumption))); skip)
  | ((with_reducible show WSl _ (rSlL _) _ _ _ _ _); (refine' wsl_lst ?hl ?_); (case hl => first | exact lsv_dat | exact lsv_ref um_same | exact lsv_ref (by assumption)); skip)
  | ((with_reducible show WL _ _ [_] _ _); (refine wl_int ?_))
  | ((with_reducible show WL _ _ [_] _ _); (refine wl_intb ?_))
  | ((with_reducible show WL _ _ [_, _] _ _); (refine wl_min ?_))
  | ((with_reducible first | show W2 _ (rIxL _) (Sl.dat (PyData.list (List.cons _ _))) (Sl.dat (PyData.int _)) _ _ | show W2 _ (rIxL _) (Sl.dat (PyData.list (List.map PyData.int (List.cons _ _)))) (Sl.dat (PyData.int _)) _ _); (refine' w2_ixAny ?h0 ?h1 ?_); (case h0 => omega); (case h1 => first | omega | (simp only [List.length_cons, List.length_nil, List.length_map]; omega)); skip)
  | ((with_reducible show W2 _ (rIxL _) _ _ _ _); (refine' w2_ixL ?hs ?hx ?_); (case hs => first | exact lsv_dat | exact lsv_ref um_same | exact lsv_ref (by assumption)); (try (case hx => exact rfl)); skip)
  | ((with_reducible show W2 _ (rIxT _) _ _ _ _); (refine' w2_ixT ?hx ?_); (case hx => exact rfl); skip)
  | ((with_reducible show WL _ (rIsi _) [_, _] _ _); (refine' wl_isi ?hb ?_); (case hb => first | exact isi_bool _ | exact isi_int _ | exact isi_str _ | exact isi_tuple _ | exact isi_list _); skip)
  | ((with_reducible show W _ (tC (V.ty _)) _ _ _); (refine w_raw ?_))
  | ((with_reducible show W _ (tC (V.ref _)) _ _ _); (refine w_raw ?_))
  | ((with_reducible show WSl _ (rSlA _) _ _ _ _ _); (refine wsl_tup ?_))
  | ((with_reducible show WL _ (rTupS _) [Sl.dat (PyData.list _)] _ _); (refine wl_tuple lsv_dat ?_))
  | ((with_reducible show W2 _ (rCatA _) _ _ _ _); (refine' w2_catT ?hl ?_); (try (case hl => walk_at "len")); skip)
  | ((with_reducible show WL _ _ [_] _ _); (refine' wl_lenT ?hl ?_); (case hl => exact tpv_dat); skip)
  | ((with_reducible refine' w_fldI ?hv ?hM ?c ?n ?l ?_); (case hv => exact rfl); (case hM => first | assumption | exact um_same); (case c => assumption); (case n => assumption); (case l => walk_at "fl"); skip)
  | ((with_reducible refine' w_dgetI ?hv ?hM ?hx ?_); (case hv => exact rfl); (case hM => first | assumption | exact um_same); (case hx => walk_at "wg"); skip)
  | ((with_reducible refine' ws_fldI ?hv ?c ?n ?_); (case hv => exact rfl); (case c => assumption); (case n => assumption); skip)
  | (with_reducible refine ws_next ?_)
  | ((with_reducible show WS _ Ends.nx _ _ _); (refine ws_next ?_))
  | (with_reducible refine ite_t rfl ?_)
  | (with_reducible refine ite_f rfl ?_)
  | ((with_reducible refine' ite_t ?hb ?_); (case hb => decide +kernel); skip)
  | ((with_reducible refine' ite_f ?hb ?_); (case hb => decide +kernel); skip)
  | ((with_reducible show ∃ b : Bool, _ = Sl.bl b ∧ _); (with_reducible refine ⟨_, rfl, ?_⟩))
  | ((with_reducible show ∃ i : Int, _ = Sl.int i ∧ _); (with_reducible refine ⟨_, rfl, ?_⟩))
  | ((with_reducible show List.length _ ≤ 100000 ∧ _); (refine ⟨(by simp), ?_⟩))
  | ((with_reducible show ∃ ds : List PyData, datsOf _ = some ds ∧ _); (refine ⟨_, rfl, ?_⟩))))
local macro_rules | `(tactic| walk_at "e") => `(tactic| repeat (first | (with_reducible refine ws_seq ?_) | (walk_at "1")))
local macro_rules | `(tactic| walk_at "g") => `(tactic| repeat (first | (walk_at "1") | ((with_reducible refine w_lstI (wa_cons ?_)); (repeat (walk_at "1")); (with_reducible show ∃ ns : List Int, itemsI _ = some ns ∧ _); (refine ⟨_, rfl, ?_⟩)) | (with_reducible refine w_lstD ?_)))
local macro_rules | `(tactic| walk_at "f") => `(tactic| repeat (first | (with_reducible refine ws_seq ?_) | (walk_at "1") | ((with_reducible refine w_lstI (wa_cons ?_)); (repeat (walk_at "1")); (with_reducible show ∃ ns : List Int, itemsI _ = some ns ∧ _); (refine ⟨_, rfl, ?_⟩)) | (with_reducible refine w_lstD ?_)))
local macro_rules | `(tactic| walk_at "k") => `(tactic| first | dsimp only [cxOf, Cx.nox, Cx.wish] | skip)

local macro_rules | `(tactic| walk_at "fl") => `(tactic| with_reducible first | exact fl_use _ _ | exact fl_l _ _ | exact fl_s _ _ | exact fl_w _ _ | exact fl_on _ _ | exact fl_left _ _ | exact fl_failures _ _ | exact fl_writes _ _ | exact fl_syncs _ _)

local macro_rules | `(tactic| walk_at "wg") => `(tactic| first | exact wg_size _ _ _ _ _ | exact wg_lasting _ _ _ _ _ | exact wg_waiting _ _ _ _ _ | exact wg_on _ _ _ _ _ | exact wg_left _ _ _ _ _ | exact wg_losses _ _ _ _ _ | exact wg_counts _ _ _ _ _)

section
variable {P : Program} {w : World} {K : PySem.W.Frag} {mg : Str → Option Value} {base : Heap} {a : AD} {d : FD}
theorem wp_losses (G : GA) (n : Int) (on : Bool) (lf : Option Int) (ls x : Int) : putG (wdF G n on lf ls) (kx "losses") (.int x) = wdF G n on lf x := by kernel_rfl
theorem wp_power (G : GA) (n : Int) (on : Bool) (lf : Option Int) (ls : Int) (x : Addr) : mergeG (wdF G n on lf ls) (mergeG [] [(kx "waiting", .raw (.ref x)), (kx "on", .bl true), (kx "left", .non)]) = wdF (G.sW x) n true none ls := by kernel_rfl
theorem wm_len2 (G : GA) (n : Int) (on : Bool) (lf : Option Int) (ls : Int) (x y z : Sl) : (wdF G n on lf ls).length + (mergeG [] [(kx "waiting", x), (kx "on", y), (kx "left", z)]).length ≤ 100000 := by
  have : (mergeG [] [(kx "waiting", x), (kx "on", y), (kx "left", z)]).length = 3 := by kernel_rfl
  rw [this]
  show 7 + 3 ≤ 100000
  decide
theorem bools_of : ∀ ds : List PyData, (∀ d ∈ ds, ∃ b : Bool, d = .bool b) → ∃ ks : List Bool, ds = ks.map .bool
  | [], _ => ⟨[], rfl⟩
  | d :: ds, h => by
    obtain ⟨b, rfl⟩ := h d (List.mem_cons_self ..)
    obtain ⟨ks, rfl⟩ := bools_of ds fun d hd => h d (List.mem_cons_of_mem _ hd)
    exact ⟨b :: ks, rfl⟩
theorem pwr_same {t : Dk} {ks : List Bool} (h : t.on = false → t.left = none) : (pwr t ks).on = true ∧ (pwr t ks).left = none ∧ (pwr t ks).failures = t.failures + (if t.on then 1 else 0) ∧ (pwr t ks).writes = t.writes ∧ (pwr t ks).syncs = t.syncs := by
  cases hon : t.on with
  | true =>
    have e : dark t = lost t := by unfold dark; rw [if_pos hon]
    unfold pwr
    rw [e]
    exact ⟨rfl, rfl, rfl, rfl, rfl⟩
  | false =>
    have e : dark t = t := by unfold dark; rw [if_neg (by rw [hon]; exact Bool.false_ne_true)]
    unfold pwr
    rw [e]
    exact ⟨rfl, h hon, (Int.add_zero _).symm, rfl, rfl⟩
theorem ok_lpower (T : Txt K mg a d) : FnOk P w K mg base CX0 3 a.law_power d.law_power ["_law_state", "_law_world", "_law_disk"] (conc K (A_step a.Disk)) := by
  have G_law_next : FnOk P w K mg base CX0 1 a.law_next d.law_next ["_law_state", "_law_limit"] (conc K A_next) := ok_next T
  have G_Disk_power : FnOk P w K mg base CX0 2 a.Disk_power d.Disk_power ["self", "kept"] (conc K (A_power a.Disk)) := ok_power T
  refine ab_ok T.F_law_power sc_law_power (fun ss M Q ⟨p, A, G, t, wl, e, _⟩ => by subst e; rfl) fun cdv Ar outer s H E hr => ?_
  have hu64 := hr.units
  refine ⟨_, (pss_cons (ps_setLc (i := 3) (own := [("_law_k", 4)]) rfl sc_law_power.nd rfl rfl (sw_true rfl rfl rfl (by decide +kernel)) (pi_range1 rfl T.n_range (pa_cons (pe_call G_law_next (hr.mono (by omega)) (by rfl) T.g_law_next T.F_law_next.kp T.b_law_next .nil pass0 (pa_cons (pv 0) (pa_cons (pe_op op_add (pe_callB (r := rLenS K) call_len_seq (by rfl) T.n_len PySem.boot_len (pa_cons (pe_dget (hu1 hu64) (pv 1) pe_str (fun _ _ => rfl)) pa_nil)) pe_int) pa_nil))) pa_nil)) (blkOk_by (own := [("_law_k", 4)]) (N := ["_law_state", "_law_world", "_law_disk", "_law_kept", "_law_k"]) (sc := (defScope s_law_power)) (by decide +kernel)) (fun _ _ _ _ _ => (pg_name (i := 4) sc_law_power.nd rfl (Or.inl rfl))) (fun _ _ _ _ _ => pts_nil) (fun _ _ _ _ _ => (pe_cmpR (r := rEqD K) (op_eqD hu64) (pe_call G_law_next (hr.mono (by omega)) (by rfl) T.g_law_next T.F_law_next.kp T.b_law_next .nil pass0 (pa_cons (pv 0) (pa_cons pe_int pa_nil))) pe_int (nomark _))))
  (pss_cons (ps_expr (pe_meth (pv 2) T.cl_Disk T.m_Disk_power G_Disk_power (hr.mono (by omega)) T.b_Disk_power .nil pass0 (pa_cons (pv 3) pa_nil)))
  (pss_cons (ps_daug (hu1 hu64) (pv 1) pe_str (pe_callTy (r := rInt1) call_int1 (by rfl) T.n_int (by decide +kernel) (pa_cons (pe_dget (hu1 hu64) (pv 1) pe_str (fun _ _ => rfl)) pa_nil)) in_add (fun _ _ _ => rfl))
  (pss_cons (ps_for PassesOwn.never rfl (pi_range1 rfl T.n_range (pa_cons (pe_callB (call_min2 rfl) (by rfl) T.n_min (by decide +kernel) (pa_cons (pe_callB (r := rLenS K) call_len_seq (by rfl) T.n_len PySem.boot_len (pa_cons (pv 3) pa_nil)) (pa_cons (pe_callB (r := rLenS K) call_len_seq (by rfl) T.n_len PySem.boot_len (pa_cons (pe_dget (hu1 hu64) (pv 1) pe_str (fun _ _ => rfl)) pa_nil)) pa_nil))) pa_nil)) (pg_name (i := 4) sc_law_power.nd rfl (Or.inl rfl)) (pss_one (ps_if (pt_val (pe_ix (r := rIxL K) ix_list (pv 3) (pv 4) (fun _ _ => rfl))) (pss_one (ps_dput (hu1 hu64) (pe_dget (hu1 hu64) (pv 1) pe_str (fun _ _ => rfl)) (pe_ix (r := rIxT K) ix_tup (pe_ix (r := rIxL K) ix_list (pe_dget (hu1 hu64) (pv 1) pe_str (fun _ _ => rfl)) (pv 4) (fun _ _ => rfl)) pe_int (fun _ _ => rfl)) (pe_ix (r := rIxT K) ix_tup (pe_ix (r := rIxL K) ix_list (pe_dget (hu1 hu64) (pv 1) pe_str (fun _ _ => rfl)) (pv 4) (fun _ _ => rfl)) pe_int (fun _ _ => rfl)) rfl)) pss_nil)))
  (pss_cons (ps_expr (pe_bm PySem.F.plainAttrs_dict PySem.F.slot_dict_update PySem.F.type_dict_update (r := rUpdate) mt_update (pv 1) (pa_cons (pe_disp (pps_cons pe_str (pe_lst pa_nil) (pps_cons pe_str pe_bl (pps_cons pe_str pe_non pps_nil))) (by rfl) (by rfl) (fun z => by cases z) (by decide)) pa_nil)))
  (pss_one (ps_ret pe_bl))))))), ?_⟩
  rintro ss M Q ⟨p, A, G, t, wl, rfl, h, hn, hn2, q⟩
  walk_at "k"
  show WS K _ [some (.raw (.ref p)), some (.raw (.ref G.g)), some (.raw (.ref A.o)), none, none] M _
  obtain ⟨xs, hp, hD⟩ := h.hp
  have hgM := h.hg
  have hwM : M G.w = some (.lst (t.waiting.map fun p => .dat (.tuple [.int p.1, .list (p.2.map .int)]))) := h.hw
  refine ws_seq (ws_set (w_lcGen (p := p) (by decide) (fun d => ∃ b : Bool, d = .bool b) ?_))
  walk_at "f"
  rw [List.length_map]
  refine ⟨p, _, xs, rfl, hp, hD, by omega, Int.le_trans (b := 1000) (by omega) (by decide), fun v ys v0 v1 hy => ?_⟩
  refine wa_nil ⟨v, M, ys, rfl, rfl, hy, by omega, by omega, fun i M2 zs hi hz => ?_, fun ds zs hz hl hP => ?_⟩
  · walk_at "f"
    refine a_next hz (by decide) (by decide) fun b us b0 b1 hu => ?_
    walk_at "f"
    exact ⟨_, us, rfl, rfl, hu, _, rfl⟩
  obtain ⟨ks, rfl⟩ := bools_of ds hP
  have hkl : ks.length < 100000 := by rw [List.length_map] at hl; omega
  have h1 := h.draw hz
  generalize Ab.um M p (.lst zs) = M1 at h1
  refine ws_seq (ws_drop (w_meth (w_var rfl ⟨A.o, A.dx, fldS A t, rfl, h1.dk.ho, by kernel_rfl, wa_cons (w_var rfl (wa_nil ⟨A, t, ks, rfl, h1.dk, h.rng, fun M2 A' dk2 f => ?_⟩))⟩)))
  have wd2 := h1.wd.fr f
  have ok2 := h.ok.pwr ks
  refine ws_seq (ws_daug rd_add (w_var rfl (w_str ⟨G.g, _, kx "losses", t.failures, rfl, rfl, wd2.hg, wg_losses _ _ _ _ _, ?_⟩)))
  have hg2 := wd2.hg
  walk_at "f"
  refine ⟨hg2, by show 7 < 100000; decide, ?_⟩
  rw [wp_losses]
  have wd3 := wd2.g (M' := Ab.um M2 G.g (.dK (wdF G t.lasting.length t.on t.left (t.failures + if t.on then 1 else 0)))) um_same um_f
  have dk3 := dk2.um (b := G.g) (x := .dK (wdF G t.lasting.length t.on t.left (t.failures + if t.on then 1 else 0))) wd2.ap.2.1
  show WS K _ [some (.raw (.ref p)), some (.raw (.ref G.g)), some (.raw (.ref A.o)), some (lsm .bool ks), none] (Ab.um M2 G.g (.dK (wdF G t.lasting.length t.on t.left (t.failures + if t.on then 1 else 0)))) _
  generalize Ab.um M2 G.g (.dK (wdF G t.lasting.length t.on t.left (t.failures + if t.on then 1 else 0))) = M3 at wd3 dk3
  have hg3 := wd3.hg
  have hw3 : M3 G.w = some (.lst (t.waiting.map fun p => .dat (.tuple [.int p.1, .list (p.2.map .int)]))) := wd3.hw
  refine ws_seq (ws_forRn ?_)
  walk_at "f"
  rw [List.length_map]
  have emin : ((if (t.waiting.length : Int) < (ks.length : Int) then (t.waiting.length : Int) else (ks.length : Int)) : Int) = ((min ks.length t.waiting.length : Nat) : Int) := by
    split <;> omega
  rw [emin]
  refine ⟨_, rfl, by omega, by omega, fun i ρ' M' => (∃ y, ρ' = [some (.raw (.ref p)), some (.raw (.ref G.g)), some (.raw (.ref A.o)), some (lsm .bool ks), y]) ∧ M' = Ab.um M3 G.l (wlS (kept wl (ks.take i) (t.waiting.take i))), ⟨⟨none, rfl⟩, ?_⟩, ?_, ?_⟩
  · rw [List.take_zero, show kept wl [] (t.waiting.take 0) = wl by simp [kept]]
    exact (um_id wd3.hl).symm
  · rintro i ρ' M' hi ⟨⟨y, rfl⟩, rfl⟩
    have hi1 : i < ks.length := by omega
    have hi2 : i < t.waiting.length := by omega
    have hat := kept_take ks t.waiting wl i ks[i] t.waiting[i] (List.getElem?_eq_getElem hi1) (List.getElem?_eq_getElem hi2)
    have wd4 := wd3.swl (kept wl (ks.take i) (t.waiting.take i))
    have hg4 := wd4.hg
    have a1 : atI ((ks.map PyData.bool).map Sl.dat) (i : Int) = some (.bl ks[i]) := atI_nat (by rw [List.getElem?_map, List.getElem?_map, List.getElem?_eq_getElem hi1]; rfl)
    have a2 : atI (t.waiting.map fun p => Sl.dat (.tuple [.int p.1, .list (p.2.map .int)])) (i : Int) = some (.dat (.tuple [.int t.waiting[i].1, .list (t.waiting[i].2.map .int)])) := atI_nat (by rw [List.getElem?_map, List.getElem?_eq_getElem hi2]; rfl)
    refine wg_name ?_
    refine ws_if (wt_test (w_op (w_var rfl (w_var rfl (w2_ixL lsv_dat a1 ?_)))))
    walk_at "f"
    refine ite_b (fun hb => ?_) (fun hb => ?_)
    · rw [hb, if_pos rfl] at hat
      refine ws_dput ?_
      refine w_op (w_op (w_dgetI rfl hg4 (wg_waiting _ _ _ _ _) (w_var rfl (w2_ixL (lsv_ref wd4.hw) a2 ?_))))
      refine w_int (w2_ixT rfl ?_)
      refine w_dgetI rfl hg4 (wg_lasting _ _ _ _ _) ?_
      refine w_op (w_op (w_dgetI rfl hg4 (wg_waiting _ _ _ _ _) (w_var rfl (w2_ixL (lsv_ref wd4.hw) a2 ?_))))
      refine w_int (w2_ixT rfl ?_)
      refine ⟨G.l, _, .inl t.waiting[i].1, rfl, rfl, um_same, ?_, ?_⟩
      · rw [List.length_map]
        have := kept_len (ks.take i) (t.waiting.take i) wl
        rw [List.length_take] at this
        omega
      · refine ⟨⟨_, rfl⟩, ?_⟩
        rw [um_um, hat]
        show Ab.um M3 G.l (.dK (putG _ _ (lsm .int t.waiting[i].2))) = _
        rw [putG_wl]
        rfl
    · rw [hb, if_neg Bool.false_ne_true] at hat
      walk_at "f"
      exact ⟨⟨_, rfl⟩, by rw [hat]⟩
  rintro ρ' M' ⟨⟨y, rfl⟩, rfl⟩
  rw [show (((min ks.length t.waiting.length : Nat) : Int)).toNat = min ks.length t.waiting.length from rfl, kept_all]
  have wd4 := wd3.swl (kept wl ks t.waiting)
  have dk4 := dk3.um (b := G.l) (x := wlS (kept wl ks t.waiting)) wd3.ap.2.2.1
  generalize Ab.um M3 G.l (wlS (kept wl ks t.waiting)) = M4 at wd4 dk4
  refine ws_seq (ws_drop (w_bm (w_var rfl ⟨ty_dct wd4.hg, wa_cons (w_disp fun z hz => ?_)⟩)))
  have zg : z ≠ G.g := fun e => by rw [e, wd4.hg] at hz; cases hz
  refine wps_cons (w_str (w_lstM (wa_nil ⟨by simp, fun p2 hp2 => ?_⟩)))
  have p2z : p2 ≠ z := fun e => by rw [e, um_same] at hp2; cases hp2
  have hp2' : M4 p2 = none := by rw [um_ne p2z] at hp2; exact hp2
  have p2g : p2 ≠ G.g := fun e => by rw [e, wd4.hg] at hp2'; cases hp2'
  refine wps_cons ?_
  walk_at "f"
  refine wps_cons ?_
  walk_at "f"
  refine wps_nil ?_
  refine ⟨by rw [um_ne p2z.symm]; exact um_same, [(kx "waiting", .raw (.ref p2)), (kx "on", .bl true), (kx "left", .non)], rfl, by simp, ?_⟩
  refine wa_nil (wm_updateM (kvs := wdF G t.lasting.length t.on t.left (t.failures + if t.on then 1 else 0)) (by rw [um_ne zg.symm, um_ne p2g.symm, um_ne zg.symm]; exact wd4.hg) um_same zg (wm_len2 _ _ _ _ _ _ _ _) ?_)
  rw [wp_power]
  have f5 : ∀ b u, M4 b = some u → b ≠ G.g → Ab.um (Ab.um (Ab.um (Ab.um M4 z (.dK [])) p2 (.lst [])) z (.dK (mergeG [] [(kx "waiting", .raw (.ref p2)), (kx "on", .bl true), (kx "left", .non)]))) G.g (.dK (wdF (G.sW p2) t.lasting.length true none (t.failures + if t.on then 1 else 0))) b = some u := fun b u hb hn => by
    have b1 : b ≠ z := fun e => by rw [e, hz] at hb; cases hb
    have b2 : b ≠ p2 := fun e => by rw [e, hp2'] at hb; cases hb
    rw [um_ne hn, um_ne b1, um_ne b2, um_ne b1]
    exact hb
  have wd5 := wd4.new (M' := Ab.um (Ab.um (Ab.um (Ab.um M4 z (.dK [])) p2 (.lst [])) z (.dK (mergeG [] [(kx "waiting", .raw (.ref p2)), (kx "on", .bl true), (kx "left", .non)]))) G.g (.dK (wdF (G.sW p2) t.lasting.length true none (t.failures + if t.on then 1 else 0)))) hp2' (dk4.no_new hp2') um_same (by rw [um_ne p2g, um_ne p2z]; exact um_same) f5
  have dk5 := dk4.keep wd4.ap.2.1 f5
  generalize Ab.um (Ab.um (Ab.um (Ab.um M4 z (.dK [])) p2 (.lst [])) z (.dK (mergeG [] [(kx "waiting", .raw (.ref p2)), (kx "on", .bl true), (kx "left", .non)]))) G.g (.dK (wdF (G.sW p2) t.lasting.length true none (t.failures + if t.on then 1 else 0))) = M5 at wd5 dk5
  obtain ⟨s1, s2, s3, s4, s5⟩ := pwr_same (ks := ks) h.off
  have el : (pwr t ks).lasting.length = t.lasting.length := apk_len _ _ _
  walk_at "f"
  refine q _ A' (G.sW p2) (pwr t ks) (kept wl ks t.waiting) (WdAt.st ?_ dk5 ok2) f.1 rfl el (Nat.zero_le _) (kept_len _ _ _)
  rw [el, s1, s2, s3, s4, s5]
  exact wd5
theorem ok_ldeed (T : Txt K mg a d) : FnOk P w K mg base CX0 5 a.law_deed d.law_deed ["_law_state", "_law_world", "_law_disk"] (conc K (A_step a.Disk)) := by
  have G_law_next : FnOk P w K mg base CX0 1 a.law_next d.law_next ["_law_state", "_law_limit"] (conc K A_next) := ok_next T
  have G_law_write : FnOk P w K mg base CX0 4 a.law_write d.law_write ["_law_state", "_law_world", "_law_disk"] (conc K (A_step a.Disk)) := ok_lwrite T
  have G_law_sync : FnOk P w K mg base CX0 4 a.law_sync d.law_sync ["_law_world", "_law_disk"] (conc K (A_step2 a.Disk)) := ok_lsync T
  have G_law_fail : FnOk P w K mg base CX0 2 a.law_fail d.law_fail ["_law_state", "_law_world", "_law_disk"] (conc K (A_step a.Disk)) := ok_lfail T
  have G_law_power : FnOk P w K mg base CX0 3 a.law_power d.law_power ["_law_state", "_law_world", "_law_disk"] (conc K (A_step a.Disk)) := ok_lpower T
  refine ab_ok T.F_law_deed sc_law_deed (fun ss M Q ⟨p, A, G, t, wl, e, _⟩ => by subst e; rfl) fun cdv Ar outer s H E hr => ?_
  have hu64 := hr.units
  refine ⟨_, (pss_cons (ps_set (i := 3) sc_law_deed.nd rfl (Or.inl rfl) (pe_call G_law_next (hr.mono (by omega)) (by rfl) T.g_law_next T.F_law_next.kp T.b_law_next .nil pass0 (pa_cons (pv 0) (pa_cons pe_int pa_nil))))
  (pss_cons (ps_if (pt_cmpR op_lt (pv 3) pe_int (nomark _)) (pss_one (ps_ret (pe_call G_law_write (hr.mono (by omega)) (by rfl) T.g_law_write T.F_law_write.kp T.b_law_write .nil pass0 (pa_cons (pv 0) (pa_cons (pv 1) (pa_cons (pv 2) pa_nil)))))) pss_nil)
  (pss_cons (ps_if (pt_cmpR op_lt (pv 3) pe_int (nomark _)) (pss_one (ps_ret (pe_call G_law_sync (hr.mono (by omega)) (by rfl) T.g_law_sync T.F_law_sync.kp T.b_law_sync .nil pass0 (pa_cons (pv 1) (pa_cons (pv 2) pa_nil))))) pss_nil)
  (pss_cons (ps_if (pt_cmpR op_lt (pv 3) pe_int (nomark _)) (pss_one (ps_ret (pe_call G_law_fail (hr.mono (by omega)) (by rfl) T.g_law_fail T.F_law_fail.kp T.b_law_fail .nil pass0 (pa_cons (pv 0) (pa_cons (pv 1) (pa_cons (pv 2) pa_nil)))))) pss_nil)
  (pss_one (ps_ret (pe_call G_law_power (hr.mono (by omega)) (by rfl) T.g_law_power T.F_law_power.kp T.b_law_power .nil pass0 (pa_cons (pv 0) (pa_cons (pv 1) (pa_cons (pv 2) pa_nil)))))))))), ?_⟩
  rintro ss M Q ⟨p, A, G, t, wl, rfl, h, hn, hn2, q⟩
  walk_at "k"
  show WS K _ [some (.raw (.ref p)), some (.raw (.ref G.g)), some (.raw (.ref A.o)), none] M _
  obtain ⟨xs, hp, hD⟩ := h.hp
  walk_at "f"
  refine ⟨p, _, xs, rfl, hp, hD, by decide, by decide, fun v ys v0 v1 hy => ?_⟩
  have h1 := h.draw hy
  generalize Ab.um M p (.lst ys) = M1 at h1
  walk_at "f"
  refine ite_b (fun _ => ?_) (fun _ => ?_)
  · walk_at "f"
    exact ⟨p, A, G, t, wl, rfl, h1, hn, hn2, q⟩
  walk_at "f"
  refine ite_b (fun _ => ?_) (fun _ => ?_)
  · walk_at "f"
    exact ⟨p, A, G, t, wl, rfl, h1, hn, hn2, q⟩
  walk_at "f"
  refine ite_b (fun _ => ?_) (fun _ => ?_)
  · walk_at "f"
    exact ⟨p, A, G, t, wl, rfl, h1, hn, hn2, q⟩
  walk_at "f"
  exact ⟨p, A, G, t, wl, rfl, h1, hn, hn2, q⟩
end
end K06


set_option Elab.async false
set_option linter.all false
set_option maxRecDepth 100000
set_option  maxHeartbeats 4000000
namespace K06
open PySem PyProof.Rows L2 Ab
local macro_rules | `(tactic| walk_at "len") => `(tactic| first | decide | omega | (simp only [List.length_append, List.length_map, List.length_replicate, List.length_cons, List.length_nil, List.length_take, List.length_drop, List.length_reverse, List.length_range]; omega))
local macro_rules | `(tactic| walk_at "str") => `(tactic| first | decide +kernel | exact goodS_ok (by assumption) | assumption)
local macro_rules | `(tactic| walk_at "1") => `(tactic| (first
  | (with_reducible refine ws_set ?_)
  | (with_reducible refine ws_ret ?_)
  | (with_reducible refine ws_if ?_)
  | (with_reducible refine ws_drop ?_)
  | (with_reducible refine w_op ?_)
  | (with_reducible refine w_un ?_)
  | (with_reducible refine w_int ?_)
  | (with_reducible refine w_bl ?_)
  | (with_reducible refine w_non ?_)
  | (with_reducible refine w_str ?_)
  | (with_reducible refine w_cb ?_)
  | (with_reducible refine w_call ?_)
  | (with_reducible refine w_sl ?_)
  | (with_reducible refine w_tupD ?_)
  | (with_reducible refine w_chain ?_)
  | (with_reducible refine w_andV ?_)
  | (with_reducible refine w_orV ?_)
  | (with_reducible refine w_notV ?_)
  | (with_reducible refine wo_none ?_)
  | (with_reducible refine wo_some ?_)
  | (with_reducible refine wa_cons ?_)
  | (with_reducible refine wa_nil ?_)
  | (with_reducible refine wt_test ?_)
  | (with_reducible refine wt_B ?_)
  | (with_reducible refine wt_and ?_)
  | (with_reducible refine wt_or ?_)
  | (with_reducible refine wt_not ?_)
  | (with_reducible refine wt_yes ?_)
  | (with_reducible refine w2_i0 ?_)
  | (with_reducible refine w2_b0 ?_)
  | (with_reducible refine w1_neg ?_)
  | ((with_reducible refine w2_i ?hc ?_); (case hc => first | decide | exact ⟨by decide, by decide⟩ | exact Or.inl ⟨by decide, by decide⟩ | exact Or.inr ⟨by decide, by decide⟩ | exact ⟨by decide, by decide, by decide⟩ | omega); skip)
  | ((with_reducible refine' w_var ?hv ?_); (case hv => exact rfl); skip)
  | ((with_reducible show W2 _ (rEqD _) (Sl.dat (PyData.int _)) (Sl.dat (PyData.int _)) _ _); (refine w2_eqI ?_))
  | ((with_reducible show W2 _ (rNeD _) (Sl.dat (PyData.int _)) (Sl.dat (PyData.int _)) _ _); (refine w2_neI ?_))
  | ((with_reducible show W2 _ (rEqD _) (Sl.dat (PyData.str _)) (Sl.dat (PyData.str _)) _ _); (refine' w2_eqS ?h1 ?h2 ?_); (case h1 => walk_at "str"); (case h2 => walk_at "str"); skip)
  | ((with_reducible show W2 _ (rNeD _) (Sl.dat (PyData.str _)) (Sl.dat (PyData.str _)) _ _); (refine' w2_neS ?h1 ?h2 ?_); (case h1 => walk_at "str"); (case h2 => walk_at "str"); skip)
  | ((with_reducible show W2 _ (rEqD _) _ _ _ _); (refine w2_eq ?ha ?hb ?_); (case ha => first | exact shaped_int _ | exact shaped_bool _ | exact shaped_none); (case hb => first | exact shaped_int _ | exact shaped_bool _ | exact shaped_none); skip)
  | ((with_reducible show W2 _ (rNeD _) _ _ _ _); (refine w2_ne ?ha ?hb ?_); (case ha => first | exact shaped_int _ | exact shaped_bool _ | exact shaped_none); (case hb => first | exact shaped_int _ | exact shaped_bool _ | exact shaped_none); skip)
  | ((with_reducible show W2 _ _ _ _ _ _); (refine w2_isN ?_))
  | ((with_reducible show W2 _ rIsB _ _ _ _); (refine w2_isB ?_))
  | ((with_reducible show W2 _ rNotB _ _ _ _); (refine w2_notB ?_))
  | ((with_reducible show W2 _ _ _ _ _ _); (refine w2_notN ?_))
  | (with_reducible refine wl_lenE ?_)
  | (with_reducible refine wl_lenD ?_)
  | (with_reducible refine wl_lenTD ?_)
  | (with_reducible refine wl_listE ?_)
  | (with_reducible refine wsl_E ?_)
  | ((with_reducible refine' w2_catE ?hl ?_); (try (case hl => walk_at "len")); skip)
  | ((with_reducible refine' w2_rep1 ?h1 ?h2 ?_); (try (case h1 => first | decide | omega)); (try (case h2 => first | decide | omega)); skip)
  | ((with_reducible show WL _ _ [_] _ _); (refine' wl_len ?hl ?_); (case hl => first | exact lsv_dat | exact lsv_ref um_same | exact lsv_ref (by assumption)); skip)
  | ((with_reducible show WL _ _ [_] _ _); (refine' wl_list ?hl ?_); (case hl => first | exact .inl lsv_dat | exact .inl (lsv_ref (by assumption))); skip)
  | ((with_reducible show WSl _ (rSlL _) _ _ _ _ _); (refine' wsl_lst ?hl ?_); (case hl => first | exact lsv_dat | exact lsv_ref um_same | exact lsv_ref (by assumption)); skip)
  | ((with_reducible show WL _ _ [_] _ _); (refine wl_int ?_))
  | ((with_reducible show WL _ _ [_] _ _); (refine wl_intb ?_))
  | ((with_reducible show WL _ _ [_, _] _ _); (refine wl_min ?_))
  | ((with_reducible first | show W2 _ (rIxL _) (Sl.dat (PyData.list (List.cons _ _))) (Sl.dat (PyData.int _)) _ _ | show W2 _ (rIxL _) (Sl.dat (PyData.list (List.map PyData.int (List.cons _ _)))) (Sl.dat (PyData.int _)) _ _); (refine' w2_ixAny ?h0 ?h1 ?_); (case h0 => omega); (case h1 => first | omega | (simp only [List.length_cons, List.length_nil, List.length_map]; omega)); skip)
  | ((with_reducible show W2 _ (rIxL _) _ _ _ _); (refine' w2_ixL ?hs ?hx ?_); (case hs => first | exact lsv_dat | exact lsv_ref um_same | exact lsv_ref (by assumption)); (try (case hx => exact rfl)); skip)
  | ((with_reducible show W2 _ (rIxT _) _ _ _ _); (refine' w2_ixT ?hx ?_); (case hx => exact rfl); skip)
  | ((with_reducible show WL _ (rIsi _) [_, _] _ _); (refine' wl_isi ?hb ?_); (case hb => first | exact isi_bool _ | exact isi_int _ | exact isi_str _ | exact isi_tuple _ | exact isi_list _); skip)
  | ((with_reducible show W _ (tC (V.ty _)) _ _ _); (refine w_raw ?_))
  | ((with_reducible show W _ (tC (V.ref _)) _ _ _); (refine w_raw ?_))
  | ((with_reducible show WSl _ (rSlA _) _ _ _ _ _); (refine wsl_tup ?_))
  | ((with_reducible show WL _ (rTupS _) [Sl.dat (PyData.list _)] _ _); (refine wl_tuple lsv_dat ?_))
  | ((with_reducible show W2 _ (rCatA _) _ _ _ _); (refine' w2_catT ?hl ?_); (try (case hl => walk_at "len")); skip)
  | ((with_reducible show WL _ _ [_] _ _); (refine' wl_lenT ?hl ?_); (case hl => exact tpv_dat); skip)
  | ((with_reducible refine' w_fldI ?hv ?hM ?c ?n ?l ?_); (case hv => exact rfl); (case hM => first | assumption | exact um_same); (case c => assumption); (case n => assumption); (case l => walk_at "fl"); skip)
  | ((with_reducible refine' w_dgetI ?hv ?hM ?hx ?_); (case hv => exact rfl); (case hM => first | assumption | exact um_same); (case hx => walk_at "wg"); skip)
  | ((with_reducible refine' ws_fldI ?hv ?c ?n ?_); (case hv => exact rfl); (case c => assumption); (case n => assumption); skip)
  | (with_reducible refine ws_next ?_)
  | ((with_reducible show WS _ Ends.nx _ _ _); (refine ws_next ?_))
  | (with_reducible refine ite_t rfl ?_)
  | (with_reducible refine ite_f rfl ?_)
  | ((with_reducible refine' ite_t ?hb ?_); (case hb => decide +kernel); skip)
  | ((with_reducible refine' ite_f ?hb ?_); (case hb => decide +kernel); skip)
  | ((with_reducible show ∃ b : Bool, _ = Sl.bl b ∧ _); (with_reducible refine ⟨_, rfl, ?_⟩))
  | ((with_reducible show ∃ i : Int, _ = Sl.int i ∧ _); (with_reducible refine ⟨_, rfl, ?_⟩))
  | ((with_reducible show List.length _ ≤ 100000 ∧ _); (refine ⟨(by simp), ?_⟩))
  | ((with_reducible show ∃ ds : List PyData, datsOf _ = some ds ∧ _); (refine ⟨_, rfl, ?_⟩))))
local macro_rules | `(tactic| walk_at "e") => `(tactic| repeat (first | (with_reducible refine ws_seq ?_) | (walk_at "1")))
local macro_rules | `(tactic| walk_at "g") => `(tactic| repeat (first | (walk_at "1") | ((with_reducible refine w_lstI (wa_cons ?_)); (repeat (walk_at "1")); (with_reducible show ∃ ns : List Int, itemsI _ = some ns ∧ _); (refine ⟨_, rfl, ?_⟩)) | (with_reducible refine w_lstD ?_)))
local macro_rules | `(tactic| walk_at "f") => `(tactic| repeat (first | (with_reducible refine ws_seq ?_) | (walk_at "1") | ((with_reducible refine w_lstI (wa_cons ?_)); (repeat (walk_at "1")); (with_reducible show ∃ ns : List Int, itemsI _ = some ns ∧ _); (refine ⟨_, rfl, ?_⟩)) | (with_reducible refine w_lstD ?_)))
local macro_rules | `(tactic| walk_at "k") => `(tactic| first | dsimp only [cxOf, Cx.nox, Cx.wish] | skip)

local macro_rules | `(tactic| walk_at "fl") => `(tactic| with_reducible first | exact fl_use _ _ | exact fl_l _ _ | exact fl_s _ _ | exact fl_w _ _ | exact fl_on _ _ | exact fl_left _ _ | exact fl_failures _ _ | exact fl_writes _ _ | exact fl_syncs _ _)

local macro_rules | `(tactic| walk_at "wg") => `(tactic| first | exact wg_size _ _ _ _ _ | exact wg_lasting _ _ _ _ _ | exact wg_waiting _ _ _ _ _ | exact wg_on _ _ _ _ _ | exact wg_left _ _ _ _ _ | exact wg_losses _ _ _ _ _ | exact wg_counts _ _ _ _ _)

section
variable {P : Program} {w : World} {K : PySem.W.Frag} {mg : Str → Option Value} {base : Heap} {a : AD} {d : FD} {C : Addr} {M M' : MH} {p : Addr} {A A' : DA} {G : GA} {t t' : Dk} {wl : List (Int × List Int)}
theorem StAt.fresh (h : StAt C M p A G t wl) {b : Addr} {x : MO} (hb : M b = none) : StAt C (Ab.um M b x) p A G t wl := (h.wd.um (h.wd.fresh hb)).st (h.dk.um (h.dk.no_new hb)) h.ok
/-- a list that changes and its equal -/
def A_sameM (n : Nat) : ASp := fun ss M Q => ∃ p xs, ss = [.raw (.ref p), .dat (.list xs)] ∧ M p = some (.lst (xs.map .dat)) ∧ okD n (.list xs) = true ∧ Q (.bl true) M
theorem ok_sameM (T : Txt K mg a d) : FnOk P w K mg base CX0 3 a.law_same d.law_same ["_law_actual", "_law_expected"] (conc K (A_sameM 2)) := by
  have G_law_same := ok_sameN (P := P) (w := w) (base := base) T 2
  refine ab_ok T.F_law_same sc_law_same (fun ss M Q ⟨p, x, e, _⟩ => by subst e; rfl) fun cdv Ar outer s H E hr => ?_
  have hu64 := hr.units
  refine ⟨_, (pss_cons (ps_if (pt_cmpR op_isN (pv 1) pe_non (nomark _)) (pss_one (ps_ret (pe_cmpR op_isN (pv 0) pe_non (nomark _)))) pss_nil)
  (pss_cons (ps_if (pt_val (pe_callB (r := rIsi K) call_isi (by rfl) T.n_isinstance (by decide +kernel) (pa_cons (pv 1) (pa_cons (pe_bltn (v := .ty "bool") (u := .type "bool") (by rfl) T.n_bool (by decide +kernel) rfl) pa_nil)))) (pss_one (ps_ret (pe_and (pe_callB (r := rIsi K) call_isi (by rfl) T.n_isinstance (by decide +kernel) (pa_cons (pv 0) (pa_cons (pe_bltn (v := .ty "bool") (u := .type "bool") (by rfl) T.n_bool (by decide +kernel) rfl) pa_nil))) (pe_one (pe_cmpR (r := rEqD K) (op_eqD hu64) (pv 0) (pv 1) (nomark _)))))) pss_nil)
  (pss_cons (ps_if (pt_val (pe_callB (r := rIsi K) call_isi (by rfl) T.n_isinstance (by decide +kernel) (pa_cons (pv 1) (pa_cons (pe_bltn (v := .ty "int") (u := .type "int") (by rfl) T.n_int (by decide +kernel) rfl) pa_nil)))) (pss_one (ps_ret (pe_and (pe_callB (r := rIsi K) call_isi (by rfl) T.n_isinstance (by decide +kernel) (pa_cons (pv 0) (pa_cons (pe_bltn (v := .ty "int") (u := .type "int") (by rfl) T.n_int (by decide +kernel) rfl) pa_nil))) (pe_and (pe_not (pe_callB (r := rIsi K) call_isi (by rfl) T.n_isinstance (by decide +kernel) (pa_cons (pv 0) (pa_cons (pe_bltn (v := .ty "bool") (u := .type "bool") (by rfl) T.n_bool (by decide +kernel) rfl) pa_nil)))) (pe_one (pe_cmpR (r := rEqD K) (op_eqD hu64) (pv 0) (pv 1) (nomark _))))))) pss_nil)
  (pss_cons (ps_if (pt_val (pe_callB (r := rIsi K) call_isi (by rfl) T.n_isinstance (by decide +kernel) (pa_cons (pv 1) (pa_cons (pe_bltn (v := .ty "str") (u := .type "str") (by rfl) T.n_str (by decide +kernel) rfl) pa_nil)))) (pss_one (ps_ret (pe_and (pe_callB (r := rIsi K) call_isi (by rfl) T.n_isinstance (by decide +kernel) (pa_cons (pv 0) (pa_cons (pe_bltn (v := .ty "str") (u := .type "str") (by rfl) T.n_str (by decide +kernel) rfl) pa_nil))) (pe_one (pe_cmpR (r := rEqD K) (op_eqD hu64) (pv 0) (pv 1) (nomark _)))))) pss_nil)
  (pss_cons (ps_if (PW.pt (pw_and (pt_val (pe_callB (r := rIsi K) call_isi (by rfl) T.n_isinstance (by decide +kernel) (pa_cons (pv 1) (pa_cons (pe_bltn (v := .ty "tuple") (u := .type "tuple") (by rfl) T.n_tuple (by decide +kernel) rfl) pa_nil)))) (pw_and1 (pt_not (pt_val (pe_callB (r := rIsi K) call_isi (by rfl) T.n_isinstance (by decide +kernel) (pa_cons (pv 0) (pa_cons (pe_bltn (v := .ty "tuple") (u := .type "tuple") (by rfl) T.n_tuple (by decide +kernel) rfl) pa_nil)))))))) (pss_one (ps_ret pe_bl)) pss_nil)
  (pss_cons (ps_if (PW.pt (pw_and (pt_val (pe_callB (r := rIsi K) call_isi (by rfl) T.n_isinstance (by decide +kernel) (pa_cons (pv 1) (pa_cons (pe_bltn (v := .ty "list") (u := .type "list") (by rfl) T.n_list (by decide +kernel) rfl) pa_nil)))) (pw_and1 (pt_not (pt_val (pe_callB (r := rIsi K) call_isi (by rfl) T.n_isinstance (by decide +kernel) (pa_cons (pv 0) (pa_cons (pe_bltn (v := .ty "list") (u := .type "list") (by rfl) T.n_list (by decide +kernel) rfl) pa_nil)))))))) (pss_one (ps_ret pe_bl)) pss_nil)
  (pss_cons (ps_if (pt_cmpR (r := rNeD K) (op_neD hu64) (pe_callB (r := rLenS K) call_len_seq (by rfl) T.n_len PySem.boot_len (pa_cons (pv 0) pa_nil)) (pe_callB (r := rLenS K) call_len_seq (by rfl) T.n_len PySem.boot_len (pa_cons (pv 1) pa_nil)) (nomark _)) (pss_one (ps_ret pe_bl)) pss_nil)
  (pss_cons (ps_for PassesOwn.never rfl (pi_range1 rfl T.n_range (pa_cons (pe_callB (r := rLenS K) call_len_seq (by rfl) T.n_len PySem.boot_len (pa_cons (pv 1) pa_nil)) pa_nil)) (pg_name (i := 2) sc_law_same.nd rfl (Or.inl rfl)) (pss_one (ps_if (pt_not (pt_val (pe_call G_law_same (hr.mono (by omega)) (by rfl) T.g_law_same T.F_law_same.kp T.b_law_same .nil pass0 (pa_cons (pe_ix (r := rIx K) ix_seq (pv 0) (pv 2) (fun _ _ => rfl)) (pa_cons (pe_ix (r := rIx K) ix_seq (pv 1) (pv 2) (fun _ _ => rfl)) pa_nil))))) (pss_one (ps_ret pe_bl)) pss_nil)))
  (pss_one (ps_ret pe_bl)))))))))), ?_⟩
  rintro ss M Q ⟨p, xs, rfl, hM, hx, q⟩
  walk_at "k"
  show WS K _ [some (.raw (.ref p)), some (.dat (.list xs)), none] M _
  obtain ⟨hl, ho⟩ := okD_list hx
  walk_at "e"
  refine wl_isiL (b := true) hM (by decide +kernel) ?_
  walk_at "e"
  rw [List.length_map, decide_eq_true rfl]
  walk_at "e"
  refine ws_forR1 (n := (xs.length : Int)) (M1 := M) (by walk_at "e"; exact ⟨rfl, rfl⟩) (by omega)
    (fun i ρ' M' => ∃ y, ρ' = [some (.raw (.ref p)), some (.dat (.list xs)), y] ∧ M' = M) ⟨_, rfl, rfl⟩ ?_ ?_
  · rintro i ρ' M' hi ⟨y, rfl, rfl⟩
    have hi' : i < xs.length := by omega
    refine wg_name ?_
    have hat : atI xs (i : Int) = some xs[i] := atI_nat (List.getElem?_eq_getElem hi')
    walk_at "e"
    refine w2_ixRL hM (by rw [atI_map, hat]; rfl) ?_
    walk_at "e"
    refine w2_ixDL hat ?_
    walk_at "e"
    refine ⟨xs[i], rfl, okD_mem ho (List.getElem_mem hi'), ?_⟩
    walk_at "e"
    exact ⟨_, rfl, rfl⟩
  · rintro ρ' M' ⟨y, rfl, rfl⟩
    walk_at "e"
    exact q
def A_right (C : Addr) : ASp := fun ss M Q => ∃ p A G t wl, ss = [.raw (.ref p), .raw (.ref (GA.g G)), .raw (.ref (DA.o A))] ∧ StAt C M p A G t wl ∧ t.waiting.length < 500 ∧
  ∀ M', StAt C M' p A G t wl → Q (.bl true) M'
theorem okI (n : Nat) : ∀ xs : List Int, okAll n (xs.map .int) = true := fun xs => okAll_of fun d hd => by
  obtain ⟨i, _, rfl⟩ := List.mem_map.mp hd
  cases n <;> rfl
theorem ok_lright (T : Txt K mg a d) : FnOk P w K mg base CX0 4 a.law_is_right d.law_is_right ["_law_state", "_law_world", "_law_disk"] (conc K (A_right a.Disk)) := by
  have cl := T.cl_Disk
  have n1 := T.na_Disk_in_use
  have G_law_next : FnOk P w K mg base CX0 1 a.law_next d.law_next ["_law_state", "_law_limit"] (conc K A_next) := ok_next T
  have G_Disk_size := ok_size (P := P) (w := w) (base := base) T
  have G_Disk_pending := ok_pending (P := P) (w := w) (base := base) T
  have G_Disk_counts := ok_counts (P := P) (w := w) (base := base) T
  have G_Disk_is_on := ok_is_on (P := P) (w := w) (base := base) T
  have G_Disk_losses := ok_losses (P := P) (w := w) (base := base) T
  have G_Disk_read := ok_read (P := P) (w := w) (base := base) T
  have G_law_sector := ok_sector (P := P) (w := w) (base := base) T
  have S1 := ok_sameN (P := P) (w := w) (base := base) T 3
  have S2 := ok_sameM (P := P) (w := w) (base := base) T
  have G_law_same : FnOk P w K mg base CX0 3 a.law_same d.law_same ["_law_actual", "_law_expected"] (conc K (orA (A_sameN 3) (A_sameM 2))) := fn_or S1 S2
  refine ab_ok T.F_law_is_right sc_law_is_right (fun ss M Q ⟨p, A, G, t, wl, e, _⟩ => by subst e; rfl) fun cdv Ar outer s H E hr => ?_
  have hu64 := hr.units
  refine ⟨_, (pss_cons (ps_set (i := 3) sc_law_is_right.nd rfl (Or.inl rfl) (pe_lst (pa_cons (pe_meth0 (pv 2) T.cl_Disk T.m_Disk_size G_Disk_size (hr.mono (by omega)) T.b_Disk_size .nil pass0) (pa_cons (pe_meth0 (pv 2) T.cl_Disk T.m_Disk_pending G_Disk_pending (hr.mono (by omega)) T.b_Disk_pending .nil pass0) (pa_cons (pe_meth0 (pv 2) T.cl_Disk T.m_Disk_counts G_Disk_counts (hr.mono (by omega)) T.b_Disk_counts .nil pass0) (pa_cons (pe_meth0 (pv 2) T.cl_Disk T.m_Disk_is_on G_Disk_is_on (hr.mono (by omega)) T.b_Disk_is_on .nil pass0) (pa_cons (pe_meth0 (pv 2) T.cl_Disk T.m_Disk_losses G_Disk_losses (hr.mono (by omega)) T.b_Disk_losses .nil pass0) pa_nil)))))))
  (pss_cons (ps_set (i := 4) sc_law_is_right.nd rfl (Or.inl rfl) (pe_lst (pa_cons (pe_dget (hu1 hu64) (pv 1) pe_str (fun _ _ => rfl)) (pa_cons (pe_callB (r := rLenS K) call_len_seq (by rfl) T.n_len PySem.boot_len (pa_cons (pe_dget (hu1 hu64) (pv 1) pe_str (fun _ _ => rfl)) pa_nil)) (pa_cons (pe_callTy (r := rTupS K) call_tuple_of (by rfl) T.n_tuple (by decide +kernel) (pa_cons (pe_dget (hu1 hu64) (pv 1) pe_str (fun _ _ => rfl)) pa_nil)) (pa_cons (pe_dget (hu1 hu64) (pv 1) pe_str (fun _ _ => rfl)) (pa_cons (pe_dget (hu1 hu64) (pv 1) pe_str (fun _ _ => rfl)) pa_nil)))))))
  (pss_cons (ps_if (PW.pt (pw_or (pt_not (pt_val (pe_call G_law_same (hr.mono (by omega)) (by rfl) T.g_law_same T.F_law_same.kp T.b_law_same .nil pass0 (pa_cons (pv 3) (pa_cons (pv 4) pa_nil))))) (pw_or1 (PW.pt (pw_and (pt_not (pt_val (pe_dget (hu1 hu64) (pv 1) pe_str (fun _ _ => rfl)))) (pw_and1 (pt_cmpR op_notBl (pe_fld (pv 2) rfl) pe_bl (nomark _)))))))) (pss_one (ps_ret pe_bl)) pss_nil)
  (pss_cons (ps_for PassesOwn.never rfl (pi_list (pe_op (r := rCatL K) op_catL (pe_lc (own := [("_law_place", 6), ("_law_data", 7)]) rfl sc_law_is_right.nd (pi_list (pe_dget (hu1 hu64) (pv 1) pe_str (fun _ _ => rfl))) (blkOk_by (own := [("_law_place", 6), ("_law_data", 7)]) (N := ["_law_state", "_law_world", "_law_disk", "_law_told", "_law_due", "_law_index", "_law_place", "_law_data", "_law_sector_here"]) (sc := (defScope s_law_is_right)) (by decide +kernel)) (fun _ _ _ _ _ => (pg_tupK (K := K) (n := 2) rfl rfl (pgs_cons (pg_name (i := 6) sc_law_is_right.nd rfl (Or.inl rfl)) (pgs_cons (pg_name (i := 7) sc_law_is_right.nd rfl (Or.inl rfl)) pgs_nil)))) (fun _ _ _ _ _ => pts_nil) (fun _ _ _ _ _ => (pv 6))) (pe_lst (pa_cons (pe_call G_law_next (hr.mono (by omega)) (by rfl) T.g_law_next T.F_law_next.kp T.b_law_next .nil pass0 (pa_cons (pv 0) (pa_cons (pe_dget (hu1 hu64) (pv 1) pe_str (fun _ _ => rfl)) pa_nil))) (pa_cons pe_int (pa_cons pe_int pa_nil)))))) (pg_name (i := 5) sc_law_is_right.nd rfl (Or.inl rfl)) (pss_cons (ps_set (i := 8) sc_law_is_right.nd rfl (Or.inl rfl) (pe_meth (pv 2) T.cl_Disk T.m_Disk_read G_Disk_read (hr.mono (by omega)) T.b_Disk_read .nil pass0 (pa_cons (pv 5) pa_nil)))
  (pss_cons (ps_if (pt_not (pt_val (pe_call G_law_same (hr.mono (by omega)) (by rfl) T.g_law_same T.F_law_same.kp T.b_law_same .nil pass0 (pa_cons (pv 8) (pa_cons (pe_call G_law_sector (hr.mono (by omega)) (by rfl) T.g_law_sector T.F_law_sector.kp T.b_law_sector .nil pass0 (pa_cons (pv 1) (pa_cons (pv 5) pa_nil))) pa_nil))))) (pss_one (ps_ret pe_bl)) pss_nil)
  (pss_one (ps_asg pe_int (pg_sub (pv 8) pe_int set_list))))))
  (pss_one (ps_ret pe_bl)))))), ?_⟩
  rintro ss M Q ⟨p, A, G, t, wl, rfl, h, hn, q⟩
  walk_at "k"
  show WS K _ [some (.raw (.ref p)), some (.raw (.ref G.g)), some (.raw (.ref A.o)), none, none, none, none, none, none] M _
  obtain ⟨xs, hp, hD'⟩ := h.hp
  obtain ⟨n60, n400, nS⟩ := h.n60
  have hgM := h.hg
  have hwM : M G.w = some (.lst (t.waiting.map fun p => .dat (.tuple [.int p.1, .list (p.2.map .int)]))) := h.hw
  have ho := h.dk.ho
  unfold dkS at ho
  refine ws_seq (ws_set (w_lstD ?_))
  refine wa_cons (w_meth (w_var rfl ⟨A.o, A.dx, fldS A t, rfl, h.dk.ho, by kernel_rfl, wa_nil ⟨A, t, rfl, h.dk, ?_⟩⟩))
  refine wa_cons (w_meth (w_var rfl ⟨A.o, A.dx, fldS A t, rfl, h.dk.ho, by kernel_rfl, wa_nil ⟨A, t, rfl, h.dk, ?_⟩⟩))
  refine wa_cons (w_meth (w_var rfl ⟨A.o, A.dx, fldS A t, rfl, h.dk.ho, by kernel_rfl, wa_nil ⟨A, t, rfl, h.dk, ?_⟩⟩))
  refine wa_cons (w_meth (w_var rfl ⟨A.o, A.dx, fldS A t, rfl, h.dk.ho, by kernel_rfl, wa_nil ⟨A, t, rfl, h.dk, ?_⟩⟩))
  refine wa_cons (w_meth (w_var rfl ⟨A.o, A.dx, fldS A t, rfl, h.dk.ho, by kernel_rfl, wa_nil ⟨A, t, rfl, h.dk, ?_⟩⟩))
  walk_at "f"
  rw [List.length_map]
  walk_at "f"
  refine wl_tuple (ds := [.int t.writes, .int t.syncs]) (lsv_ref h.hc) ?_
  repeat (walk_at "1")
  generalize hx : PyData.list [PyData.int ↑t.lasting.length, PyData.int ↑t.waiting.length, PyData.tuple [PyData.int t.writes, PyData.int t.syncs], PyData.bool t.on, PyData.int t.failures] = X
  show WS K _ [some (.raw (.ref p)), some (.raw (.ref G.g)), some (.raw (.ref A.o)), some (.dat X), some (.dat X), none, none, none, none] M _
  refine ws_mid (fun ρ' M' => ρ' = [some (.raw (.ref p)), some (.raw (.ref G.g)), some (.raw (.ref A.o)), some (.dat X), some (.dat X), none, none, none, none] ∧ M' = M) ?_ ?_
  · walk_at "f"
    refine .inl ⟨_, rfl, by rw [← hx]; rfl, ?_⟩
    walk_at "f"
    refine ite_b (fun hon => ?_) (fun hon => ?_)
    · walk_at "f"
      rw [h.use]
      walk_at "f"
      exact ⟨rfl, rfl⟩
    · walk_at "f"
      exact ⟨rfl, rfl⟩
  rintro ρ' M' ⟨rfl, rfl⟩
  have rng : ∀ d ∈ (t.waiting.map fun q => PyData.int q.1), ∃ i : Int, d = .int i ∧ 0 ≤ i ∧ i < t.lasting.length := fun d hd => by
    obtain ⟨q, hq, rfl⟩ := List.mem_map.mp hd
    exact ⟨_, rfl, h.rng q hq⟩
  refine ws_seq (ws_for (wi_list (w_op (w_frz (w_lcX (wi_list (w_dgetI rfl hgM (wg_waiting _ _ _ _ _) ⟨_, lsv_ref hwM, fun i acc M2 => M2 = M' ∧ acc = (t.waiting.take i).map (fun q => .int q.1), ⟨rfl, rfl⟩, fun i acc M2 _ ⟨e, _⟩ D o hD => ?_, ?_, ?_⟩)))))))
  · subst e
    have ne : G.w ≠ D := fun e => by rw [← e, hwM] at hD; cases hD
    exact lsv_ref (by rw [um_ne ne]; exact hwM)
  · rintro i acc M2 D hi ⟨rfl, rfl⟩ hD
    have hi2 : i < t.waiting.length := by simpa using hi
    refine ⟨fun ρ => (ρ.set 6 (some (.int t.waiting[i].1))).set 7 (some (.dat (.list (t.waiting[i].2.map .int)))), ?_, ?_⟩
    · have g2 : (t.waiting.map fun p => Sl.dat (.tuple [.int p.1, .list (p.2.map .int)])).getD i .non = .dat (.tuple [.int t.waiting[i].1, .list (t.waiting[i].2.map .int)]) := by
        rw [List.getD_eq_getElem?_getD, List.getElem?_map, List.getElem?_eq_getElem hi2]
        rfl
      show LcT _ _ _ ((t.waiting.map fun p => Sl.dat (.tuple [.int p.1, .list (p.2.map .int)])).getD i .non) _
      rw [g2]
      exact lct_two (by decide) (by decide)
    · refine wt_yes (w_var rfl ⟨_, M2, rfl, rfl, hD, ?_, rfl, ?_⟩)
      · rw [List.length_map, List.length_take]; omega
      · rw [List.take_succ_eq_append_getElem hi2, List.map_append]; rfl
  rintro acc M2 D ⟨rfl, rfl⟩ hD
  rw [List.length_map, List.take_length]
  refine ⟨D, _, rfl, um_same, ?_⟩
  rw [del_um hD]
  walk_at "f"
  refine ⟨p, _, xs, rfl, hp, hD', by omega, Int.le_trans (b := 400) (by omega) (by decide), fun v ys v0 v1 hy => ?_⟩
  have h1 := h.draw hy
  generalize Ab.um M2 p (.lst ys) = M1 at h1
  have rngs : ∀ d ∈ (t.waiting.map (fun q => PyData.int q.1) ++ [.int v, .int 0, .int 1]), ∃ i : Int, d = .int i ∧ 0 ≤ i ∧ i < t.lasting.length := fun d hd => by
    rcases List.mem_append.mp hd with h' | h'
    · exact rng d h'
    · simp only [List.mem_cons, List.not_mem_nil, or_false] at h'
      rcases h' with rfl | rfl | rfl
      · exact ⟨v, rfl, v0, v1⟩
      · exact ⟨0, rfl, by omega, by omega⟩
      · exact ⟨1, rfl, by omega, by omega⟩
  walk_at "f"
  refine w2_cat lsv_dat lsv_dat (by rw [List.length_map]; simp; omega) ?_
  generalize t.waiting.map (fun q => PyData.int q.1) ++ [PyData.int v, .int 0, .int 1] = ds at rngs
  refine ⟨_, lsv_dat, fun i ρ' M' => (∃ y5 y8, ρ' = [some (.raw (.ref p)), some (.raw (.ref G.g)), some (.raw (.ref A.o)), some (.dat X), some (.dat X), y5, none, none, y8]) ∧ StAt a.Disk M' p A G t wl, ⟨⟨none, none, rfl⟩, h1⟩, fun _ _ _ _ _ => lsv_dat, ?_, ?_⟩
  · rintro i ρ' M' hi ⟨⟨y5, y8, rfl⟩, hh⟩
    have hi' : i < ds.length := by simpa using hi
    obtain ⟨ix, e, ix0, ix1⟩ := rngs _ (List.getElem_mem hi')
    have gi : (ds.map Sl.dat).getD i .non = .int ix := by rw [List.getD_eq_getElem?_getD, List.getElem?_map, List.getElem?_eq_getElem hi', e]; rfl
    dsimp only
    rw [gi]
    refine wg_name ?_
    refine ws_seq (ws_set (w_meth (w_var rfl ⟨A.o, A.dx, fldS A t, rfl, hh.dk.ho, by kernel_rfl, wa_cons (w_var rfl (wa_nil ⟨A, t, ix, rfl, hh.dk, ix0, by rw [nS]; exact ix1, fun z hz => ?_⟩))⟩)))
    have h2 : ∀ x, StAt a.Disk (Ab.um M' z x) p A G t wl := fun x => hh.fresh hz
    generalize hxs : t.seen.getD ix.toNat [] = sx
    have hls : sx.length = 64 := by rw [← hxs]; exact hh.ok.seenLen _ (by omega)
    have eS := hh.seen ix.toNat (by omega)
    have eL := hh.same ix.toNat (by omega)
    have ei : ((ix.toNat : Nat) : Int) = ix := Int.toNat_of_nonneg ix0
    rw [ei] at eS eL
    have h3 := h2 (.lst ((sx.map PyData.int).map .dat))
    have hg3 := h3.hg
    refine ws_seq ?_
    refine ws_if (wt_not (wt_B (w_call (wa_cons (w_var rfl (wa_cons (w_call (wa_cons (w_var rfl (wa_cons (w_var rfl (wa_nil ⟨G, _, _, _, _, wl, t.waiting, ix, rfl, h3.hg, h3.hl, h3.hw, ?_⟩))))) )))))))
    rw [eL, ← eS, hxs]
    refine wa_nil (.inr ⟨z, _, rfl, um_same, okD_lsi 1 (by omega), ?_⟩)
    walk_at "f"
    refine ws_setL (w_int (w_var rfl (w_int ⟨z, _, 5, 5, rfl, rfl, um_same, ?_, ?_⟩)))
    · unfold ixN
      rw [if_pos (by decide), if_pos (by rw [List.length_map, List.length_map, hls]; decide)]
      rfl
    · rw [um_um]
      exact ⟨⟨_, _, rfl⟩, h2 _⟩
  · rintro ρ' M' ⟨⟨y5, y8, rfl⟩, hh⟩
    walk_at "f"
    exact q _ hh
end
end K06


set_option Elab.async false
set_option linter.all false
set_option maxRecDepth 100000
set_option  maxHeartbeats 4000000
namespace K06
open PySem PyProof.Rows L2 Ab
local macro_rules | `(tactic| walk_at "len") => `(tactic| first | decide | omega | (simp only [List.length_append, List.length_map, List.length_replicate, List.length_cons, List.length_nil, List.length_take, List.length_drop, List.length_reverse, List.length_range]; omega))
local macro_rules | `(tactic| walk_at "str") => `(tactic| first | decide +kernel | exact goodS_ok (by assumption) | assumption)
local macro_rules | `(tactic| walk_at "1") => `(tactic| (first
  | (with_reducible refine ws_set ?_)
  | (with_reducible refine ws_ret ?_)
  | (with_reducible refine ws_if ?_)
  | (with_reducible refine ws_drop ?_)
  | (with_reducible refine w_op ?_)
  | (with_reducible refine w_un ?_)
  | (with_reducible refine w_int ?_)
  | (with_reducible refine w_bl ?_)
  | (with_reducible refine w_non ?_)
  | (with_reducible refine w_str ?_)
  | (with_reducible refine w_cb ?_)
  | (with_reducible refine w_call ?_)
  | (with_reducible refine w_sl ?_)
  | (with_reducible refine w_tupD ?_)
  | (with_reducible refine w_chain ?_)
  | (with_reducible refine w_andV ?_)
  | (with_reducible refine w_orV ?_)
  | (with_reducible refine w_notV ?_)
  | (with_reducible refine wo_none ?_)
  | (with_reducible refine wo_some ?_)
  | (with_reducible refine wa_cons ?_)
  | (with_reducible refine wa_nil ?_)
  | (with_reducible refine wt_test ?_)
  | (with_reducible refine wt_B ?_)
  | (with_reducible refine wt_and ?_)
  | (with_reducible refine wt_or ?_)
  | (with_reducible refine wt_not ?_)
  | (with_reducible refine wt_yes ?_)
  | (with_reducible refine w2_i0 ?_)
  | (with_reducible refine w2_b0 ?_)
  | (with_reducible refine w1_neg ?_)
  | ((with_reducible refine w2_i ?hc ?_); (case hc => first | decide | exact ⟨by decide, by decide⟩ | exact Or.inl ⟨by decide, by decide⟩ | exact Or.inr ⟨by decide, by decide⟩ | exact ⟨by decide, by decide, by decide⟩ | omega); skip)
  | ((with_reducible refine' w_var ?hv ?_); (case hv => exact rfl); skip)
  | ((with_reducible show W2 _ (rEqD _) (Sl.dat (PyData.int _)) (Sl.dat (PyData.int _)) _ _); (refine w2_eqI ?_))
  | ((with_reducible show W2 _ (rNeD _) (Sl.dat (PyData.int _)) (Sl.dat (PyData.int _)) _ _); (refine w2_neI ?_))
  | ((with_reducible show W2 _ (rEqD _) (Sl.dat (PyData.str _)) (Sl.dat (PyData.str _)) _ _); (refine' w2_eqS ?h1 ?h2 ?_); (case h1 => walk_at "str"); (case h2 => walk_at "str"); skip)
  | ((with_reducible show W2 _ (rNeD _) (Sl.dat (PyData.str _)) (Sl.dat (PyData.str _)) _ _); (refine' w2_neS ?h1 ?h2 ?_); (case h1 => walk_at "str"); (case h2 => walk_at "str"); skip)
  | ((with_reducible show W2 _ (rEqD _) _ _ _ _); (refine w2_eq ?ha ?hb ?_); (case ha => first | exact shaped_int _ | exact shaped_bool _ | exact shaped_none); (case hb => first | exact shaped_int _ | exact shaped_bool _ | exact shaped_none); skip)
  | ((with_reducible show W2 _ (rNeD _) _ _ _ _); (refine w2_ne ?ha ?hb ?_); (case ha => first | exact shaped_int _ | exact shaped_bool _ | exact shaped_none); (case hb => first | exact shaped_int _ | exact shaped_bool _ | exact shaped_none); skip)
  | ((with_reducible show W2 _ _ _ _ _ _); (refine w2_isN ?_))
  | ((with_reducible show W2 _ rIsB _ _ _ _); (refine w2_isB ?_))
  | ((with_reducible show W2 _ rNotB _ _ _ _); (refine w2_notB ?_))
  | ((with_reducible show W2 _ _ _ _ _ _); (refine w2_notN ?_))
  | (with_reducible refine wl_lenE ?_)
  | (with_reducible refine wl_lenD ?_)
  | (with_reducible refine wl_lenTD ?_)
  | (with_reducible refine wl_listE ?_)
  | (with_reducible refine wsl_E ?_)
  | ((with_reducible refine' w2_catE ?hl ?_); (try (case hl => walk_at "len")); skip)
  | ((with_reducible refine' w2_rep1 ?h1 ?h2 ?_); (try (case h1 => first | decide | omega)); (try (case h2 => first | decide | omega)); skip)
  | ((with_reducible show WL _ _ [_] _ _); (refine' wl_len ?hl ?_); (case hl => first | exact lsv_dat | exact lsv_ref um_same | exact lsv_ref (by assumption)); skip)
  | ((with_reducible show WL _ _ [_] _ _); (refine' wl_list ?hl ?_); (case hl => first | exact .inl lsv_dat | exact .inl (lsv_ref (by assumption))); skip)
  | ((with_reducible show WSl _ (rSlL _) _ _ _ _ _); (refine' wsl_lst ?hl ?_); (case hl => first | exact lsv_dat | exact lsv_ref um_same | exact lsv_ref (by assumption)); skip)
  | ((with_reducible show WL _ _ [_] _ _); (refine wl_int ?_))
  | ((with_reducible show WL _ _ [_] _ _); (refine wl_intb ?_))
  | ((with_reducible show WL _ _ [_, _] _ _); (refine wl_min ?_))
  | ((with_reducible first | show W2 _ (rIxL _) (Sl.dat (PyData.list (List.cons _ _))) (Sl.dat (PyData.int _)) _ _ | show W2 _ (rIxL _) (Sl.dat (PyData.list (List.map PyData.int (List.cons _ _)))) (Sl.dat (PyData.int _)) _ _); (refine' w2_ixAny ?h0 ?h1 ?_); (case h0 => omega); (case h1 => first | omega | (simp only [List.length_cons, List.length_nil, List.length_map]; omega)); skip)
  | ((with_reducible show W2 _ (rIxL _) _ _ _ _); (refine' w2_ixL ?hs ?hx ?_); (case hs => first | exact lsv_dat | exact lsv_ref um_same | exact lsv_ref (by assumption)); (try (case hx => exact rfl)); skip)
  | ((with_reducible show W2 _ (rIxT _) _ _ _ _); (refine' w2_ixT ?hx ?_); (case hx => exact rfl); skip)
  | ((with_reducible show WL _ (rIsi _) [_, _] _ _); (refine' wl_isi ?hb ?_); (case hb => first | exact isi_bool _ | exact isi_int _ | exact isi_str _ | exact isi_tuple _ | exact isi_list _); skip)
  | ((with_reducible show W _ (tC (V.ty _)) _ _ _); (refine w_raw ?_))
  | ((with_reducible show W _ (tC (V.ref _)) _ _ _); (refine w_raw ?_))
  | ((with_reducible show WSl _ (rSlA _) _ _ _ _ _); (refine wsl_tup ?_))
  | ((with_reducible show WL _ (rTupS _) [Sl.dat (PyData.list _)] _ _); (refine wl_tuple lsv_dat ?_))
  | ((with_reducible show W2 _ (rCatA _) _ _ _ _); (refine' w2_catT ?hl ?_); (try (case hl => walk_at "len")); skip)
  | ((with_reducible show WL _ _ [_] _ _); (refine' wl_lenT ?hl ?_); (case hl => exact tpv_dat); skip)
  | ((with_reducible refine' w_fldI ?hv ?hM ?c ?n ?l ?_); (case hv => exact rfl); (case hM => first | assumption | exact um_same); (case c => assumption); (case n => assumption); (case l => walk_at "fl"); skip)
  | ((with_reducible refine' w_dgetI ?hv ?hM ?hx ?_); (case hv => exact rfl); (case hM => first | assumption | exact um_same); (case hx => walk_at "wg"); skip)
  | ((with_reducible refine' ws_fldI ?hv ?c ?n ?_); (case hv => exact rfl); (case c => assumption); (case n => assumption); skip)
  | (with_reducible refine ws_next ?_)
  | ((with_reducible show WS _ Ends.nx _ _ _); (refine ws_next ?_))
  | (with_reducible refine ite_t rfl ?_)
  | (with_reducible refine ite_f rfl ?_)
  | ((with_reducible refine' ite_t ?hb ?_); (case hb => decide +kernel); skip)
  | ((with_reducible refine' ite_f ?hb ?_); (case hb => decide +kernel); skip)
  | ((with_reducible show ∃ b : Bool, _ = Sl.bl b ∧ _); (with_reducible refine ⟨_, rfl, ?_⟩))
  | ((with_reducible show ∃ i : Int, _ = Sl.int i ∧ _); (with_reducible refine ⟨_, rfl, ?_⟩))
  | ((with_reducible show List.length _ ≤ 100000 ∧ _); (refine ⟨(by simp), ?_⟩))
  | ((with_reducible show ∃ ds : List PyData, datsOf _ = some ds ∧ _); (refine ⟨_, rfl, ?_⟩))))
local macro_rules | `(tactic| walk_at "e") => `(tactic| repeat (first | (with_reducible refine ws_seq ?_) | (walk_at "1")))
local macro_rules | `(tactic| walk_at "g") => `(tactic| repeat (first | (walk_at "1") | ((with_reducible refine w_lstI (wa_cons ?_)); (repeat (walk_at "1")); (with_reducible show ∃ ns : List Int, itemsI _ = some ns ∧ _); (refine ⟨_, rfl, ?_⟩)) | (with_reducible refine w_lstD ?_)))
local macro_rules | `(tactic| walk_at "f") => `(tactic| repeat (first | (with_reducible refine ws_seq ?_) | (walk_at "1") | ((with_reducible refine w_lstI (wa_cons ?_)); (repeat (walk_at "1")); (with_reducible show ∃ ns : List Int, itemsI _ = some ns ∧ _); (refine ⟨_, rfl, ?_⟩)) | (with_reducible refine w_lstD ?_)))
local macro_rules | `(tactic| walk_at "k") => `(tactic| first | dsimp only [cxOf, Cx.nox, Cx.wish] | skip)

local macro_rules | `(tactic| walk_at "fl") => `(tactic| with_reducible first | exact fl_use _ _ | exact fl_l _ _ | exact fl_s _ _ | exact fl_w _ _ | exact fl_on _ _ | exact fl_left _ _ | exact fl_failures _ _ | exact fl_writes _ _ | exact fl_syncs _ _)

local macro_rules | `(tactic| walk_at "wg") => `(tactic| first | exact wg_size _ _ _ _ _ | exact wg_lasting _ _ _ _ _ | exact wg_waiting _ _ _ _ _ | exact wg_on _ _ _ _ _ | exact wg_left _ _ _ _ _ | exact wg_losses _ _ _ _ _ | exact wg_counts _ _ _ _ _)

section
variable {P : Program} {w : World} {K : PySem.W.Frag} {mg : Str → Option Value} {base : Heap} {a : AD} {d : FD} {C : Addr} {M M' : MH} {p : Addr} {A A' : DA} {G : GA} {t t' : Dk} {wl : List (Int × List Int)}
theorem wd_new (G : GA) (n : Int) : mergeG [] [(kx "size", .int n), (kx "lasting", .raw (.ref G.l)), (kx "waiting", .raw (.ref G.w)), (kx "on", .bl true), (kx "left", .non), (kx "losses", .int 0), (kx "counts", .raw (.ref G.c))] = wdF G n true none 0 := by kernel_rfl
theorem newD_len (n : Int) : (newD n).lasting.length = n.toNat := List.length_replicate
theorem TOk.new {n : Int} (h0 : 60 ≤ n) (h1 : n ≤ 400) : TOk (newD n) [] := by
  have e := newD_len n
  refine ⟨⟨by omega, by omega, rfl⟩, fun q hq => (nomatch hq), fun e => (nomatch e), fun i _ => rfl, fun i hi => ?_, ⟨fun x hx => ?_, fun q hq => (nomatch hq)⟩, rfl⟩
  · show zeros = (List.replicate n.toNat (List.replicate 64 0)).getD i []
    rw [List.getD_eq_getElem?_getD, List.getElem?_replicate, if_pos (by rw [e] at hi; exact hi)]
    rfl
  · have := List.eq_of_mem_replicate (show x ∈ List.replicate n.toNat (List.replicate 64 (0 : Int)) from hx)
    rw [this]
    exact List.length_replicate
theorem um_none {M : MH} {b c : Addr} {x : MO} (h : Ab.um M b x c = none) : c ≠ b ∧ M c = none := by
  have hn : c ≠ b := fun e => by rw [e, um_same] at h; cases h
  rw [um_ne hn] at h
  exact ⟨hn, h⟩
theorem ok_law (T : Txt K mg a d) : FnOk P w K mg base CX0 6 a.law d.law ["_law_script"] (scriptA K) := by
  have cl := T.cl_Disk
  have n1 := T.na_Disk_in_use
  have G_law_next : FnOk P w K mg base CX0 1 a.law_next d.law_next ["_law_state", "_law_limit"] (conc K A_next) := ok_next T
  have G_law_refused := ok_refused (P := P) (w := w) (base := base) T
  have G_Disk___init__ := ok_init (P := P) (w := w) (base := base) T
  have G_Disk_read := ok_read (P := P) (w := w) (base := base) T
  have G_law_sector := ok_sector (P := P) (w := w) (base := base) T
  have G_law_is_right := ok_lright (P := P) (w := w) (base := base) T
  have G_law_deed := ok_ldeed (P := P) (w := w) (base := base) T
  refine ab_ok T.F_law sc_law (fun ss M Q ⟨p, xs, e, _⟩ => by subst e; rfl) fun cdv Ar outer s H E hr => ?_
  have hu64 := hr.units
  refine ⟨_, (pss_cons (ps_set (i := 1) sc_law.nd rfl (Or.inl rfl) (pe_lst (pa_cons (pe_callTy (r := rListS K) call_list_of (by rfl) T.n_list (by decide +kernel) (pa_cons (pv 0) pa_nil)) (pa_cons pe_int (pa_cons pe_int (pa_cons pe_int pa_nil))))))
  (pss_cons (ps_for PassesOwn.never rfl (pi_list (pe_lst (pa_cons (pe_op op_sub pe_int (pe_call G_law_next (hr.mono (by omega)) (by rfl) T.g_law_next T.F_law_next.kp T.b_law_next .nil pass0 (pa_cons (pv 1) (pa_cons pe_int pa_nil)))) (pa_cons (pe_op op_add pe_int (pe_call G_law_next (hr.mono (by omega)) (by rfl) T.g_law_next T.F_law_next.kp T.b_law_next .nil pass0 (pa_cons (pv 1) (pa_cons pe_int pa_nil)))) (pa_cons pe_bl (pa_cons pe_str (pa_cons pe_non (pa_cons (pe_lst (pa_cons pe_int pa_nil)) pa_nil)))))))) (pg_name (i := 2) sc_law.nd rfl (Or.inl rfl)) (pss_one (ps_if (pt_not (pt_val (pe_call G_law_refused (hr.mono (by omega)) (by rfl) T.g_law_refused T.F_law_refused.kp T.b_law_refused .nil pass0 (pa_cons (pv 2) pa_nil)))) (pss_one (ps_ret pe_bl)) pss_nil)))
  (pss_cons (ps_set (i := 2) sc_law.nd rfl (Or.inl rfl) (pe_ix (r := rIxL K) ix_list (pe_lst (pa_cons pe_int (pa_cons pe_int (pa_cons pe_int (pa_cons (pe_op op_add pe_int (pe_call G_law_next (hr.mono (by omega)) (by rfl) T.g_law_next T.F_law_next.kp T.b_law_next .nil pass0 (pa_cons (pv 1) (pa_cons pe_int pa_nil)))) pa_nil))))) (pe_call G_law_next (hr.mono (by omega)) (by rfl) T.g_law_next T.F_law_next.kp T.b_law_next .nil pass0 (pa_cons (pv 1) (pa_cons pe_int pa_nil))) (fun _ _ => rfl)))
  (pss_cons (ps_set (i := 3) sc_law.nd rfl (Or.inl rfl) (pe_makeD T.mk_Disk G_Disk___init__ (hr.mono (by omega)) (by rfl) T.g_Disk T.b_Disk___init__ .nil (fun σ => passAt takes0 σ) (pa_cons (pv 2) pa_nil)))
  (pss_cons (ps_set (i := 4) sc_law.nd rfl (Or.inl rfl) (pe_disp (pps_cons pe_str (pv 2) (pps_cons pe_str pe_dnewK (pps_cons pe_str (pe_lst pa_nil) (pps_cons pe_str pe_bl (pps_cons pe_str pe_non (pps_cons pe_str pe_int (pps_cons pe_str (pe_lst (pa_cons pe_int (pa_cons pe_int pa_nil))) pps_nil))))))) (by rfl) (by rfl) (fun z => by cases z) (by decide)))
  (pss_cons (ps_if (pt_cmpR op_notBl (pe_fld (pv 3) rfl) pe_bl (nomark _)) (pss_one (ps_ret pe_bl)) pss_nil)
  (pss_cons (ps_for PassesOwn.never rfl (pi_range1 rfl T.n_range (pa_cons (pe_call G_law_next (hr.mono (by omega)) (by rfl) T.g_law_next T.F_law_next.kp T.b_law_next .nil pass0 (pa_cons (pv 1) (pa_cons pe_int pa_nil))) pa_nil)) (pg_name (i := 5) sc_law.nd rfl (Or.inl rfl)) (pss_one (ps_if (PW.pt (pw_or (pt_not (pt_val (pe_call G_law_is_right (hr.mono (by omega)) (by rfl) T.g_law_is_right T.F_law_is_right.kp T.b_law_is_right .nil pass0 (pa_cons (pv 1) (pa_cons (pv 4) (pa_cons (pv 3) pa_nil)))))) (pw_or1 (pt_not (pt_val (pe_call G_law_deed (hr.mono (by omega)) (by rfl) T.g_law_deed T.F_law_deed.kp T.b_law_deed .nil pass0 (pa_cons (pv 1) (pa_cons (pv 4) (pa_cons (pv 3) pa_nil))))))))) (pss_one (ps_ret pe_bl)) pss_nil)))
  (pss_cons (ps_for PassesOwn.never rfl (pi_range1 rfl T.n_range (pa_cons (pv 2) pa_nil)) (pg_name (i := 6) sc_law.nd rfl (Or.inl rfl)) (pss_one (ps_if (pt_cmpR (r := rNeD K) (op_neD hu64) (pe_meth (pv 3) T.cl_Disk T.m_Disk_read G_Disk_read (hr.mono (by omega)) T.b_Disk_read .nil pass0 (pa_cons (pv 6) pa_nil)) (pe_call G_law_sector (hr.mono (by omega)) (by rfl) T.g_law_sector T.F_law_sector.kp T.b_law_sector .nil pass0 (pa_cons (pv 4) (pa_cons (pv 6) pa_nil))) (nomark _)) (pss_one (ps_ret pe_bl)) pss_nil)))
  (pss_one (ps_ret (pe_call G_law_is_right (hr.mono (by omega)) (by rfl) T.g_law_is_right T.F_law_is_right.kp T.b_law_is_right .nil pass0 (pa_cons (pv 1) (pa_cons (pv 4) (pa_cons (pv 3) pa_nil)))))))))))))), ?_⟩
  rintro ss M Q ⟨sc, ns, rfl, hl, hb, hs, q⟩
  walk_at "k"
  show WS K _ [some sc, none, none, none, none, none, none] M _
  refine ws_seq (ws_set (w_lstM ?_))
  walk_at "g"
  refine wl_list (.inl (hs M)) ?_
  walk_at "g"
  intro p hp
  have hD : DrawL [.dat (.list (ns.map .int)), .int 0, .int 0, .int 1] := ⟨ns, 0, 0, 1, rfl, by decide⟩
  refine ws_seq (ws_for (wi_list (w_lstD ?_)))
  walk_at "f"
  refine a_next hD (by decide) (by decide) fun v1 z1 v10 v11 hD1 => ?_
  walk_at "f"
  refine a_next hD1 (by decide) (by decide) fun v2 z2 v20 v21 hD2 => ?_
  walk_at "f"
  have bad : ∀ x ∈ [PyData.int (59 - v1), .int (401 + v2), .bool true, .str "60", .none, .list (List.map PyData.int [60])], okSz x = false := fun x hx => by
    simp only [List.mem_cons, List.not_mem_nil, or_false] at hx
    rcases hx with rfl | rfl | rfl | rfl | rfl | rfl
    · show (decide (60 ≤ 59 - v1) && _) = false
      rw [decide_eq_false (by omega), Bool.false_and]
    · show (_ && decide (401 + v2 ≤ 400)) = false
      rw [decide_eq_false (show ¬ (401 + v2 ≤ 400) by omega), Bool.and_false]
    · rfl
    · rfl
    · rfl
    · rfl
  generalize [PyData.int (59 - v1), .int (401 + v2), .bool true, .str (Str.ofString "60"), .none, .list (List.map PyData.int [60])] = ds at bad
  refine ⟨_, lsv_dat, fun i ρ' M' => ∃ y2 zs, ρ' = [some sc, some (.raw (.ref p)), y2, none, none, none, none] ∧ M' p = some (.lst zs) ∧ DrawL zs, ⟨none, z2, rfl, um_same, hD2⟩, fun _ _ _ _ _ => lsv_dat, ?_, ?_⟩
  · rintro i ρ' M' hi ⟨y2, zs, rfl, hp1, hz⟩
    have hi' : i < ds.length := by simpa using hi
    have gi : (ds.map Sl.dat).getD i .non = .dat ds[i] := by rw [List.getD_eq_getElem?_getD, List.getElem?_map, List.getElem?_eq_getElem hi']; rfl
    dsimp only
    rw [gi]
    refine wg_name ?_
    walk_at "f"
    refine ⟨_, rfl, bad _ (List.getElem_mem hi'), fun M2 hM2 => ?_⟩
    walk_at "f"
    exact ⟨_, zs, rfl, hM2 _ _ hp1, hz⟩
  rintro ρ' M1 ⟨y2, zs, rfl, hp1, hz⟩
  walk_at "f"
  refine ⟨p, _, zs, rfl, hp1, hz, by decide, by decide, fun v3 z3 v30 v31 hD3 => ?_⟩
  walk_at "f"
  refine a_next hD3 (by decide) (by decide) fun v4 z4 v40 v41 hD4 => ?_
  walk_at "f"
  intro dd hdd
  obtain ⟨n, rfl, n60, n400⟩ : ∃ i : Int, dd = .int i ∧ 60 ≤ i ∧ i ≤ 400 := by
    simp only [List.mem_cons, List.not_mem_nil, or_false] at hdd
    rcases hdd with rfl | rfl | rfl | rfl
    · exact ⟨60, rfl, by omega, by omega⟩
    · exact ⟨61, rfl, by omega, by omega⟩
    · exact ⟨400, rfl, by omega, by omega⟩
    · exact ⟨_, rfl, by omega, by omega⟩
  have hp4 : Ab.um M1 p (.lst z4) p = some (.lst z4) := um_same
  generalize Ab.um M1 p (.lst z4) = M4 at hp4
  have okn : okSz (.int n) = true := by
    show (decide (60 ≤ n) && decide (n ≤ 400)) = true
    rw [decide_eq_true n60, decide_eq_true n400]
    rfl
  refine ws_seq (ws_set (w_makeX (wa_cons (w_var rfl (wa_nil fun o dx ho => ⟨o, dx, .int n, rfl, um_same, (fun e => by rw [okn] at e; cases e), fun n' M5 A en _ eo dk fr => ⟨rfl, ?_⟩⟩)))))
  cases en
  have hpo : p ≠ o := fun e => by rw [e, ho] at hp4; cases hp4
  obtain ⟨hp5, apn⟩ := fr p _ (by rw [um_ne hpo]; exact hp4) hpo
  refine ws_seq (ws_set (w_disp fun g hg => ?_))
  refine wps_cons (w_str (w_var rfl ?_))
  refine wps_cons (w_str (w_dnew fun l hl => ?_))
  refine wps_cons (w_str (w_lstM (wa_nil ⟨by simp, fun wq hw => ?_⟩)))
  refine wps_cons (w_str (w_bl ?_))
  refine wps_cons (w_str (w_non ?_))
  refine wps_cons (w_str (w_int ?_))
  refine wps_cons (w_str (w_lstM (wa_cons (w_int (wa_cons (w_int (wa_nil ⟨by simp, fun c hc => ?_⟩)))))))
  obtain ⟨c1, hc1⟩ := um_none hc
  obtain ⟨c2, hc2⟩ := um_none hc1
  obtain ⟨c3, hc3⟩ := um_none hc2
  obtain ⟨w1, hw1⟩ := um_none hw
  obtain ⟨w2, hw2⟩ := um_none hw1
  obtain ⟨l1, hl1⟩ := um_none hl
  refine wps_nil ⟨by rw [um_ne c3.symm, um_ne w2.symm, um_ne l1.symm]; exact um_same, [(kx "size", .int n), (kx "lasting", .raw (.ref l)), (kx "waiting", .raw (.ref wq)), (kx "on", .bl true), (kx "left", .non), (kx "losses", .int 0), (kx "counts", .raw (.ref c))], rfl, by simp, ?_⟩
  rw [wd_new ⟨g, l, wq, c⟩ n]
  have keep : ∀ b u, M5 b = some u → Ab.um (Ab.um (Ab.um (Ab.um (Ab.um M5 g (.dK [])) l (.dK [])) wq (.lst [])) c (.lst [.int 0, .int 0])) g (.dK (wdF ⟨g, l, wq, c⟩ n true none 0)) b = some u := fun b u hb => by
    have e1 : b ≠ g := fun e => by rw [e, hg] at hb; cases hb
    have e2 : b ≠ l := fun e => by rw [e, hl1] at hb; cases hb
    have e3 : b ≠ wq := fun e => by rw [e, hw2] at hb; cases hb
    have e4 : b ≠ c := fun e => by rw [e, hc3] at hb; cases hb
    rw [um_ne e1, um_ne e4, um_ne e3, um_ne e2, um_ne e1]
    exact hb
  have pl : ∀ {b}, M5 b = none → p ≠ b := fun hb e => by rw [← e, hp5] at hb; cases hb
  have eN : (((newD n).lasting.length : Nat) : Int) = n := by rw [newD_len]; exact Int.toNat_of_nonneg (by omega)
  have st : StAt a.Disk (Ab.um (Ab.um (Ab.um (Ab.um (Ab.um M5 g (.dK [])) l (.dK [])) wq (.lst [])) c (.lst [.int 0, .int 0])) g (.dK (wdF ⟨g, l, wq, c⟩ n true none 0))) p A ⟨g, l, wq, c⟩ (newD n) [] := by
    refine WdAt.st ⟨⟨_, keep _ _ hp5, hD4⟩, ?_, ?_, ?_, ?_, ⟨apn, dk.no_new hg, dk.no_new hl1, dk.no_new hw2, dk.no_new hc3⟩, ⟨pl hw2, pl hc3, c1.symm, l1.symm⟩⟩ ⟨keep _ _ dk.ho, keep _ _ dk.hl, keep _ _ dk.hs, keep _ _ dk.hw, dk.n1, dk.n2, dk.n3⟩ (TOk.new n60 n400)
    · rw [um_same, eN]
      rfl
    · show Ab.um _ g _ l = _
      rw [um_ne l1, um_ne c2.symm, um_ne w1.symm, um_same]
      rfl
    · show Ab.um _ g _ wq = _
      rw [um_ne w2, um_ne c1.symm, um_same]
      rfl
    · show Ab.um _ g _ c = _
      rw [um_ne c3, um_same]
      rfl
  generalize Ab.um (Ab.um (Ab.um (Ab.um (Ab.um M5 g (.dK [])) l (.dK [])) wq (.lst [])) c (.lst [.int 0, .int 0])) g (.dK (wdF ⟨g, l, wq, c⟩ n true none 0)) = M6 at st
  have eG : (GA.mk g l wq c).g = g := rfl
  generalize GA.mk g l wq c = G at st eG
  subst eG
  subst eo
  have hn : (newD n).lasting.length = n.toNat := newD_len n
  have hw0 : (newD n).waiting.length ≤ 0 := Nat.le_refl _
  generalize newD n = t at st hn hw0
  show WS K _ [some sc, some (.raw (.ref p)), some (.int n), some (.raw (.ref A.o)), some (.raw (.ref G.g)), none, none] M6 _
  have ho := st.dk.ho
  unfold dkS at ho
  walk_at "f"
  rw [st.use]
  walk_at "f"
  refine ws_forRn ?_
  walk_at "f"
  obtain ⟨xs, hx, hDx⟩ := st.hp
  refine ⟨p, 51, xs, rfl, hx, hDx, by decide, by decide, fun v z v0 v1 hz => ?_⟩
  have st1 := st.draw hz
  generalize Ab.um M6 p (.lst z) = M7 at st1
  walk_at "f"
  refine ⟨v, rfl, by omega, by omega, fun i ρ' M' => ∃ y5 A' G' t' wl', ρ' = [some sc, some (.raw (.ref p)), some (.int n), some (.raw (.ref A.o)), some (.raw (.ref G.g)), y5, none] ∧ StAt a.Disk M' p A' G' t' wl' ∧ A'.o = A.o ∧ G'.g = G.g ∧ t'.lasting.length = n.toNat ∧ t'.waiting.length ≤ i ∧ wl'.length ≤ 60 * i,
    ⟨none, A, G, t, [], rfl, st1, rfl, rfl, hn, hw0, Nat.le_refl _⟩, ?_, ?_⟩
  · rintro i ρ' M' hi ⟨y5, A', G', t', wl', rfl, hh, eA, eG, el, lw, lx⟩
    refine wg_name ?_
    walk_at "f"
    refine ⟨p, A', G', t', wl', by rw [eA, eG], hh, by omega, fun M2 h2 => ?_⟩
    walk_at "f"
    refine ⟨p, A', G', t', wl', by rw [eA, eG], h2, by omega, by omega, fun M3 A2 G2 t2 wl2 h3 a1 g1 l1 w1 x1 => ?_⟩
    walk_at "f"
    exact ⟨_, A2, G2, t2, wl2, rfl, h3, a1.trans eA, g1.trans eG, l1.trans el, by omega, by omega⟩
  rintro ρ' M8 ⟨y5, A', G', t', wl', rfl, hh, eA, eG, el, lw, lx⟩
  rw [← eA, ← eG]
  refine ws_seq (ws_forRn ?_)
  walk_at "f"
  refine ⟨n, rfl, by omega, by omega, fun i ρ' M' => (∃ y6, ρ' = [some sc, some (.raw (.ref p)), some (.int n), some (.raw (.ref A'.o)), some (.raw (.ref G'.g)), y5, y6]) ∧ StAt a.Disk M' p A' G' t' wl', ⟨⟨none, rfl⟩, hh⟩, ?_, ?_⟩
  · rintro i ρ' M' hi ⟨⟨y6, rfl⟩, h9⟩
    have hi1 : i < t'.lasting.length := by omega
    refine wg_name ?_
    have eS := h9.seen i hi1
    have eL := h9.same i hi1
    have hls := h9.ok.seenLen i hi1
    have nS := h9.n60.2.2
    refine ws_if (wt_test (w_op (w_frz (w_meth (w_var rfl ⟨A'.o, A'.dx, fldS A' t', rfl, h9.dk.ho, by kernel_rfl, wa_cons (w_var rfl (wa_nil ⟨A', t', (i : Int), rfl, h9.dk, by omega, by omega, fun z hz => ⟨z, _, rfl, um_same, ?_⟩⟩))⟩)))))
    rw [del_um hz]
    refine w_call (wa_cons (w_var rfl (wa_cons (w_var rfl (wa_nil ⟨G', _, _, _, _, wl', t'.waiting, (i : Int), rfl, h9.hg, h9.hl, h9.hw, ?_⟩)))))
    rw [eL, ← eS]
    rw [show ((i : Int)).toNat = i from rfl]
    generalize t'.seen.getD i [] = sx at hls
    have okl : okD 1 (.list (sx.map .int)) = true := okD_lsi 0 (by omega)
    refine w2_ne (okD_shaped okl (by decide)) (okD_shaped okl (by decide)) ?_
    rw [eqv_self okl]
    walk_at "f"
    exact ⟨⟨_, rfl⟩, h9⟩
  · rintro ρ' M' ⟨⟨y6, rfl⟩, h9⟩
    walk_at "f"
    exact ⟨p, A', G', t', wl', rfl, h9, by omega, fun _ _ => q _⟩
end
theorem all_mk {l : PySem.W.OpenLaw} {w : World} {K : PySem.W.Frag} {h : Heap} {mg : Str → Option Value} {fa cc_Disk cc_InvalidArgument cc_PowerOff cc_RuleError f0 f1 f2 f3 f4 f5 f6 f7 f8 f9 f10 f11 f12 f13 f14 f15 f16 f17 f18 f19 f20 f21 f22 f23 f24  : Addr} (X : K.In h) (G : h.Ns mainGlobals mg) (hfa : mg "law" = some (.ref fa))
    {od0 an0 od1 an1 od2 an2 od3 an3 od4 an4 od5 an5 od6 an6 od7 an7 od8 an8 od9 an9 od10 an10 od11 an11 od12 an12 od13 an13 od14 an14 od15 an15 od16 an16 od17 an17 od18 an18 od19 an19 od20 an20 od21 an21 od22 an22 od23 an23 od24 an24 : Option Addr} {sl0 sl1 sl2 sl3 sl4 sl5 sl6 sl7 sl8 sl9 sl10 sl11 sl12 sl13 sl14 sl15 sl16 sl17 sl18 sl19 sl20 sl21 sl22 sl23 sl24 : Array (Option Value)} {oc0 kV0 dc0 pm0 cd0 ct0 oc1 kV1 dc1 pm1 cd1 ct1 oc2 kV2 dc2 pm2 cd2 ct2 oc3 kV3 dc3 pm3 cd3 ct3 oc4 kV4 dc4 pm4 cd4 ct4 oc5 kV5 dc5 pm5 cd5 ct5 oc6 kV6 dc6 pm6 cd6 ct6 oc7 kV7 dc7 pm7 cd7 ct7 oc8 kV8 dc8 pm8 cd8 ct8 oc9 kV9 dc9 pm9 cd9 ct9 oc10 kV10 dc10 pm10 cd10 ct10 oc11 kV11 dc11 pm11 cd11 ct11 oc12 kV12 dc12 pm12 cd12 ct12 oc13 kV13 dc13 pm13 cd13 ct13 oc14 kV14 dc14 pm14 cd14 ct14 oc15 kV15 dc15 pm15 cd15 ct15 oc16 kV16 dc16 pm16 cd16 ct16 oc17 kV17 dc17 pm17 cd17 ct17 oc18 kV18 dc18 pm18 cd18 ct18 oc19 kV19 dc19 pm19 cd19 ct19 oc20 kV20 dc20 pm20 cd20 ct20 oc21 kV21 dc21 pm21 cd21 ct21 oc22 kV22 dc22 pm22 cd22 ct22 oc23 kV23 dc23 pm23 cd23 ct23 oc24 kV24 dc24 pm24 cd24 ct24 : Value} {t0 t1 t2 : Tok}
    (a0 : PySem.W.findIn K (.ref cc_Disk) "__init__" = some (some (.ref f0))) (q0 : PySem.W.isFn K (.ref f0) = true) (l0 : K.lookup f0 = some ⟨oc0, od0, .func (PySem.W.fnOf "__init__" "Disk.__init__" (defArgs s_Disk___init__) (defBody s_Disk___init__) (defScope s_Disk___init__) .none kV0 dc0 pm0 an0 cd0 ct0), sl0⟩) (c_0 : PySem.W.codeIn K cd0 "Disk.__init__" = true) (k0 : PySem.W.keepIn K (.ref f0) = true)
    (a1 : PySem.W.findIn K (.ref cc_Disk) "size" = some (some (.ref f1))) (q1 : PySem.W.isFn K (.ref f1) = true) (l1 : K.lookup f1 = some ⟨oc1, od1, .func (PySem.W.fnOf "size" "Disk.size" (defArgs s_Disk_size) (defBody s_Disk_size) (defScope s_Disk_size) .none kV1 dc1 pm1 an1 cd1 ct1), sl1⟩) (c_1 : PySem.W.codeIn K cd1 "Disk.size" = true) (k1 : PySem.W.keepIn K (.ref f1) = true)
    (a2 : PySem.W.findIn K (.ref cc_Disk) "read" = some (some (.ref f2))) (q2 : PySem.W.isFn K (.ref f2) = true) (l2 : K.lookup f2 = some ⟨oc2, od2, .func (PySem.W.fnOf "read" "Disk.read" (defArgs s_Disk_read) (defBody s_Disk_read) (defScope s_Disk_read) .none kV2 dc2 pm2 an2 cd2 ct2), sl2⟩) (c_2 : PySem.W.codeIn K cd2 "Disk.read" = true) (k2 : PySem.W.keepIn K (.ref f2) = true)
    (a3 : PySem.W.findIn K (.ref cc_Disk) "pending" = some (some (.ref f3))) (q3 : PySem.W.isFn K (.ref f3) = true) (l3 : K.lookup f3 = some ⟨oc3, od3, .func (PySem.W.fnOf "pending" "Disk.pending" (defArgs s_Disk_pending) (defBody s_Disk_pending) (defScope s_Disk_pending) .none kV3 dc3 pm3 an3 cd3 ct3), sl3⟩) (c_3 : PySem.W.codeIn K cd3 "Disk.pending" = true) (k3 : PySem.W.keepIn K (.ref f3) = true)
    (a4 : PySem.W.findIn K (.ref cc_Disk) "counts" = some (some (.ref f4))) (q4 : PySem.W.isFn K (.ref f4) = true) (l4 : K.lookup f4 = some ⟨oc4, od4, .func (PySem.W.fnOf "counts" "Disk.counts" (defArgs s_Disk_counts) (defBody s_Disk_counts) (defScope s_Disk_counts) .none kV4 dc4 pm4 an4 cd4 ct4), sl4⟩) (c_4 : PySem.W.codeIn K cd4 "Disk.counts" = true) (k4 : PySem.W.keepIn K (.ref f4) = true)
    (a5 : PySem.W.findIn K (.ref cc_Disk) "lose_power" = some (some (.ref f5))) (q5 : PySem.W.isFn K (.ref f5) = true) (l5 : K.lookup f5 = some ⟨oc5, od5, .func (PySem.W.fnOf "lose_power" "Disk.lose_power" (defArgs s_Disk_lose_power) (defBody s_Disk_lose_power) (defScope s_Disk_lose_power) .none kV5 dc5 pm5 an5 cd5 ct5), sl5⟩) (c_5 : PySem.W.codeIn K cd5 "Disk.lose_power" = true) (k5 : PySem.W.keepIn K (.ref f5) = true)
    (a6 : PySem.W.findIn K (.ref cc_Disk) "operate" = some (some (.ref f6))) (q6 : PySem.W.isFn K (.ref f6) = true) (l6 : K.lookup f6 = some ⟨oc6, od6, .func (PySem.W.fnOf "operate" "Disk.operate" (defArgs s_Disk_operate) (defBody s_Disk_operate) (defScope s_Disk_operate) .none kV6 dc6 pm6 an6 cd6 ct6), sl6⟩) (c_6 : PySem.W.codeIn K cd6 "Disk.operate" = true) (k6 : PySem.W.keepIn K (.ref f6) = true)
    (a7 : PySem.W.findIn K (.ref cc_Disk) "write" = some (some (.ref f7))) (q7 : PySem.W.isFn K (.ref f7) = true) (l7 : K.lookup f7 = some ⟨oc7, od7, .func (PySem.W.fnOf "write" "Disk.write" (defArgs s_Disk_write) (defBody s_Disk_write) (defScope s_Disk_write) .none kV7 dc7 pm7 an7 cd7 ct7), sl7⟩) (c_7 : PySem.W.codeIn K cd7 "Disk.write" = true) (k7 : PySem.W.keepIn K (.ref f7) = true)
    (a8 : PySem.W.findIn K (.ref cc_Disk) "sync" = some (some (.ref f8))) (q8 : PySem.W.isFn K (.ref f8) = true) (l8 : K.lookup f8 = some ⟨oc8, od8, .func (PySem.W.fnOf "sync" "Disk.sync" (defArgs s_Disk_sync) (defBody s_Disk_sync) (defScope s_Disk_sync) .none kV8 dc8 pm8 an8 cd8 ct8), sl8⟩) (c_8 : PySem.W.codeIn K cd8 "Disk.sync" = true) (k8 : PySem.W.keepIn K (.ref f8) = true)
    (a9 : PySem.W.findIn K (.ref cc_Disk) "fail_after" = some (some (.ref f9))) (q9 : PySem.W.isFn K (.ref f9) = true) (l9 : K.lookup f9 = some ⟨oc9, od9, .func (PySem.W.fnOf "fail_after" "Disk.fail_after" (defArgs s_Disk_fail_after) (defBody s_Disk_fail_after) (defScope s_Disk_fail_after) .none kV9 dc9 pm9 an9 cd9 ct9), sl9⟩) (c_9 : PySem.W.codeIn K cd9 "Disk.fail_after" = true) (k9 : PySem.W.keepIn K (.ref f9) = true)
    (a10 : PySem.W.findIn K (.ref cc_Disk) "power" = some (some (.ref f10))) (q10 : PySem.W.isFn K (.ref f10) = true) (l10 : K.lookup f10 = some ⟨oc10, od10, .func (PySem.W.fnOf "power" "Disk.power" (defArgs s_Disk_power) (defBody s_Disk_power) (defScope s_Disk_power) .none kV10 dc10 pm10 an10 cd10 ct10), sl10⟩) (c_10 : PySem.W.codeIn K cd10 "Disk.power" = true) (k10 : PySem.W.keepIn K (.ref f10) = true)
    (a11 : PySem.W.findIn K (.ref cc_Disk) "is_on" = some (some (.ref f11))) (q11 : PySem.W.isFn K (.ref f11) = true) (l11 : K.lookup f11 = some ⟨oc11, od11, .func (PySem.W.fnOf "is_on" "Disk.is_on" (defArgs s_Disk_is_on) (defBody s_Disk_is_on) (defScope s_Disk_is_on) .none kV11 dc11 pm11 an11 cd11 ct11), sl11⟩) (c_11 : PySem.W.codeIn K cd11 "Disk.is_on" = true) (k11 : PySem.W.keepIn K (.ref f11) = true)
    (a12 : PySem.W.findIn K (.ref cc_Disk) "losses" = some (some (.ref f12))) (q12 : PySem.W.isFn K (.ref f12) = true) (l12 : K.lookup f12 = some ⟨oc12, od12, .func (PySem.W.fnOf "losses" "Disk.losses" (defArgs s_Disk_losses) (defBody s_Disk_losses) (defScope s_Disk_losses) .none kV12 dc12 pm12 an12 cd12 ct12), sl12⟩) (c_12 : PySem.W.codeIn K cd12 "Disk.losses" = true) (k12 : PySem.W.keepIn K (.ref f12) = true)
    (a13 : PySem.W.nsIn K mainGlobals "_law_next" = some (some (.ref f13))) (l13 : K.lookup f13 = some ⟨oc13, od13, .func (PySem.W.fnOf "_law_next" "_law_next" (defArgs s_law_next) (defBody s_law_next) (defScope s_law_next) .none kV13 dc13 pm13 an13 cd13 ct13), sl13⟩) (c_13 : PySem.W.codeIn K cd13 "_law_next" = true) (k13 : PySem.W.keepIn K (.ref f13) = true)
    (a14 : PySem.W.nsIn K mainGlobals "_law_same" = some (some (.ref f14))) (l14 : K.lookup f14 = some ⟨oc14, od14, .func (PySem.W.fnOf "_law_same" "_law_same" (defArgs s_law_same) (defBody s_law_same) (defScope s_law_same) .none kV14 dc14 pm14 an14 cd14 ct14), sl14⟩) (c_14 : PySem.W.codeIn K cd14 "_law_same" = true) (k14 : PySem.W.keepIn K (.ref f14) = true)
    (a15 : PySem.W.nsIn K mainGlobals "_law_refused" = some (some (.ref f15))) (l15 : K.lookup f15 = some ⟨oc15, od15, .func (PySem.W.fnOf "_law_refused" "_law_refused" (defArgs s_law_refused) (defBody s_law_refused) (defScope s_law_refused) .none kV15 dc15 pm15 an15 cd15 ct15), sl15⟩) (c_15 : PySem.W.codeIn K cd15 "_law_refused" = true) (k15 : PySem.W.keepIn K (.ref f15) = true)
    (a16 : PySem.W.nsIn K mainGlobals "_law_operate" = some (some (.ref f16))) (l16 : K.lookup f16 = some ⟨oc16, od16, .func (PySem.W.fnOf "_law_operate" "_law_operate" (defArgs s_law_operate) (defBody s_law_operate) (defScope s_law_operate) .none kV16 dc16 pm16 an16 cd16 ct16), sl16⟩) (c_16 : PySem.W.codeIn K cd16 "_law_operate" = true) (k16 : PySem.W.keepIn K (.ref f16) = true)
    (a17 : PySem.W.nsIn K mainGlobals "_law_write" = some (some (.ref f17))) (l17 : K.lookup f17 = some ⟨oc17, od17, .func (PySem.W.fnOf "_law_write" "_law_write" (defArgs s_law_write) (defBody s_law_write) (defScope s_law_write) .none kV17 dc17 pm17 an17 cd17 ct17), sl17⟩) (c_17 : PySem.W.codeIn K cd17 "_law_write" = true) (k17 : PySem.W.keepIn K (.ref f17) = true)
    (a18 : PySem.W.nsIn K mainGlobals "_law_sync" = some (some (.ref f18))) (l18 : K.lookup f18 = some ⟨oc18, od18, .func (PySem.W.fnOf "_law_sync" "_law_sync" (defArgs s_law_sync) (defBody s_law_sync) (defScope s_law_sync) .none kV18 dc18 pm18 an18 cd18 ct18), sl18⟩) (c_18 : PySem.W.codeIn K cd18 "_law_sync" = true) (k18 : PySem.W.keepIn K (.ref f18) = true)
    (a19 : PySem.W.nsIn K mainGlobals "_law_fail" = some (some (.ref f19))) (l19 : K.lookup f19 = some ⟨oc19, od19, .func (PySem.W.fnOf "_law_fail" "_law_fail" (defArgs s_law_fail) (defBody s_law_fail) (defScope s_law_fail) .none kV19 dc19 pm19 an19 cd19 ct19), sl19⟩) (c_19 : PySem.W.codeIn K cd19 "_law_fail" = true) (k19 : PySem.W.keepIn K (.ref f19) = true)
    (a20 : PySem.W.nsIn K mainGlobals "_law_power" = some (some (.ref f20))) (l20 : K.lookup f20 = some ⟨oc20, od20, .func (PySem.W.fnOf "_law_power" "_law_power" (defArgs s_law_power) (defBody s_law_power) (defScope s_law_power) .none kV20 dc20 pm20 an20 cd20 ct20), sl20⟩) (c_20 : PySem.W.codeIn K cd20 "_law_power" = true) (k20 : PySem.W.keepIn K (.ref f20) = true)
    (a21 : PySem.W.nsIn K mainGlobals "_law_deed" = some (some (.ref f21))) (l21 : K.lookup f21 = some ⟨oc21, od21, .func (PySem.W.fnOf "_law_deed" "_law_deed" (defArgs s_law_deed) (defBody s_law_deed) (defScope s_law_deed) .none kV21 dc21 pm21 an21 cd21 ct21), sl21⟩) (c_21 : PySem.W.codeIn K cd21 "_law_deed" = true) (k21 : PySem.W.keepIn K (.ref f21) = true)
    (a22 : PySem.W.nsIn K mainGlobals "_law_sector" = some (some (.ref f22))) (l22 : K.lookup f22 = some ⟨oc22, od22, .func (PySem.W.fnOf "_law_sector" "_law_sector" (defArgs s_law_sector) (defBody s_law_sector) (defScope s_law_sector) .none kV22 dc22 pm22 an22 cd22 ct22), sl22⟩) (c_22 : PySem.W.codeIn K cd22 "_law_sector" = true) (k22 : PySem.W.keepIn K (.ref f22) = true)
    (a23 : PySem.W.nsIn K mainGlobals "_law_is_right" = some (some (.ref f23))) (l23 : K.lookup f23 = some ⟨oc23, od23, .func (PySem.W.fnOf "_law_is_right" "_law_is_right" (defArgs s_law_is_right) (defBody s_law_is_right) (defScope s_law_is_right) .none kV23 dc23 pm23 an23 cd23 ct23), sl23⟩) (c_23 : PySem.W.codeIn K cd23 "_law_is_right" = true) (k23 : PySem.W.keepIn K (.ref f23) = true)
    (a24 : PySem.W.nsIn K mainGlobals "law" = some (some (.ref f24))) (l24 : K.lookup f24 = some ⟨oc24, od24, .func (PySem.W.fnOf "law" "law" (defArgs s_law) (defBody s_law) (defScope s_law) .none kV24 dc24 pm24 an24 cd24 ct24), sl24⟩) (c_24 : PySem.W.codeIn K cd24 "law" = true) (k24 : PySem.W.keepIn K (.ref f24) = true)
    (g_Disk : PySem.W.nsIn K mainGlobals "Disk" = some (some (.ref cc_Disk))) (pg_Disk : PySem.W.plainGet K cc_Disk Str.empty = true) (hd_Disk : PySem.W.hasDictIn K cc_Disk = true) (po_Disk : PySem.W.plainOver K cc_Disk = true) (sa_Disk : PySem.W.findIn K (.ref cc_Disk) "__setattr__" = some (some (.builtin "object.__setattr__"))) (mk_Disk : PySem.W.makesIn K cc_Disk = true) (kc_Disk : PySem.W.keepIn K (.ref cc_Disk) = true)
    (na_Disk_in_use : PySem.W.findIn K (.ref cc_Disk) "in_use" = some none)
    (na_Disk_lasting : PySem.W.findIn K (.ref cc_Disk) "lasting" = some none)
    (na_Disk_seen : PySem.W.findIn K (.ref cc_Disk) "seen" = some none)
    (na_Disk_waiting : PySem.W.findIn K (.ref cc_Disk) "waiting" = some none)
    (na_Disk_powered : PySem.W.findIn K (.ref cc_Disk) "powered" = some none)
    (na_Disk_left : PySem.W.findIn K (.ref cc_Disk) "left" = some none)
    (na_Disk_failures : PySem.W.findIn K (.ref cc_Disk) "failures" = some none)
    (na_Disk_writes : PySem.W.findIn K (.ref cc_Disk) "writes" = some none)
    (na_Disk_syncs : PySem.W.findIn K (.ref cc_Disk) "syncs" = some none)
    (g_InvalidArgument : PySem.W.nsIn K mainGlobals "InvalidArgument" = some (some (.ref cc_InvalidArgument))) (x_InvalidArgument : PySem.W.excIn K cc_InvalidArgument [.type "ValueError", .type "Exception", .type "BaseException", .type "object"] "ValueError.__new__" = true) (kp_InvalidArgument : PySem.W.keepIn K (.ref cc_InvalidArgument) = true) (bs_InvalidArgument : PySem.W.subIn K (.ref cc_InvalidArgument) (.type "BaseException") = some true) (ty_InvalidArgument : PySem.W.typeIn K (.ref cc_InvalidArgument) = some (.type "type")) (hd_InvalidArgument : PySem.W.hasDictIn K cc_InvalidArgument = true)
    (e1_InvalidArgument : PySem.W.findIn K (.ref cc_InvalidArgument) "__getattribute__" = some (some (.builtin "BaseException.__getattribute__"))) (e2_InvalidArgument : PySem.W.findIn K (.ref cc_InvalidArgument) "__getattr__" = some none) (e3_InvalidArgument : PySem.W.findIn K (.ref cc_InvalidArgument) "__class__" = some (some (.builtin "object.__class__"))) (e4_InvalidArgument : PySem.W.specialIn K (.builtin "object.__class__") "__get__" = some (some (.builtin "getset_descriptor.__get__"))) (e5_InvalidArgument : PySem.W.takesIn K (.builtin "object.__class__") = some true) (e6_InvalidArgument : PySem.W.mroIn K cc_InvalidArgument (.type "object") = some true)
    (s_InvalidArgument_InvalidArgument : PySem.W.subIn K (.ref cc_InvalidArgument) (.ref cc_InvalidArgument) = some true)
    (s_InvalidArgument_PowerOff : PySem.W.subIn K (.ref cc_InvalidArgument) (.ref cc_PowerOff) = some false)
    (s_InvalidArgument_RuleError : PySem.W.subIn K (.ref cc_InvalidArgument) (.ref cc_RuleError) = some true)
    (g_PowerOff : PySem.W.nsIn K mainGlobals "PowerOff" = some (some (.ref cc_PowerOff))) (x_PowerOff : PySem.W.excIn K cc_PowerOff [.type "ValueError", .type "Exception", .type "BaseException", .type "object"] "ValueError.__new__" = true) (kp_PowerOff : PySem.W.keepIn K (.ref cc_PowerOff) = true) (bs_PowerOff : PySem.W.subIn K (.ref cc_PowerOff) (.type "BaseException") = some true) (ty_PowerOff : PySem.W.typeIn K (.ref cc_PowerOff) = some (.type "type")) (hd_PowerOff : PySem.W.hasDictIn K cc_PowerOff = true)
    (s_PowerOff_InvalidArgument : PySem.W.subIn K (.ref cc_PowerOff) (.ref cc_InvalidArgument) = some false)
    (s_PowerOff_PowerOff : PySem.W.subIn K (.ref cc_PowerOff) (.ref cc_PowerOff) = some true)
    (s_PowerOff_RuleError : PySem.W.subIn K (.ref cc_PowerOff) (.ref cc_RuleError) = some true)
    (g_RuleError : PySem.W.nsIn K mainGlobals "RuleError" = some (some (.ref cc_RuleError))) (x_RuleError : PySem.W.excIn K cc_RuleError [.type "ValueError", .type "Exception", .type "BaseException", .type "object"] "ValueError.__new__" = true) (kp_RuleError : PySem.W.keepIn K (.ref cc_RuleError) = true) (bs_RuleError : PySem.W.subIn K (.ref cc_RuleError) (.type "BaseException") = some true) (ty_RuleError : PySem.W.typeIn K (.ref cc_RuleError) = some (.type "type")) (hd_RuleError : PySem.W.hasDictIn K cc_RuleError = true)
    (s_RuleError_InvalidArgument : PySem.W.subIn K (.ref cc_RuleError) (.ref cc_InvalidArgument) = some false)
    (s_RuleError_PowerOff : PySem.W.subIn K (.ref cc_RuleError) (.ref cc_PowerOff) = some false)
    (s_RuleError_RuleError : PySem.W.subIn K (.ref cc_RuleError) (.ref cc_RuleError) = some true)
    (ki_InvalidArgument_ValueError : PySem.W.subIn K (.ref cc_InvalidArgument) (.type "ValueError") = some true)
    (z0 : PySem.W.nsIn K mainGlobals "ValueError" = some none)
    (z1 : PySem.W.nsIn K mainGlobals "bool" = some none)
    (z2 : PySem.W.nsIn K mainGlobals "int" = some none)
    (z3 : PySem.W.nsIn K mainGlobals "isinstance" = some none)
    (z4 : PySem.W.nsIn K mainGlobals "len" = some none)
    (z5 : PySem.W.nsIn K mainGlobals "list" = some none)
    (z6 : PySem.W.nsIn K mainGlobals "min" = some none)
    (z7 : PySem.W.nsIn K mainGlobals "range" = some none)
    (z8 : PySem.W.nsIn K mainGlobals "str" = some none)
    (z9 : PySem.W.nsIn K mainGlobals "tuple" = some none)
    (z10 : PySem.W.nsIn K mainGlobals "zip" = some none)
    (i0 : PySem.W.nsIn K mainGlobals "FEWEST" = some (some (.int 60 t0)))
    (i1 : PySem.W.nsIn K mainGlobals "MOST" = some (some (.int 400 t1)))
    (i2 : PySem.W.nsIn K mainGlobals "SECTOR" = some (some (.int 64 t2)))
    : ∃ fd : FuncData, (∀ (s : Shared) (v : Value), BindsTo s fd ⟨[v], []⟩ [("_law_script", v)]) ∧ ∀ base : Heap, K.In base → base.Ns mainGlobals mg → FnOk l.prog w K mg base CX0 6 fa fd ["_law_script"] (Ab.scriptA K) := by
  have e := hfa.symm.trans (PySem.W.mg_of X G a24)
  cases e
  have F0 := fun_mk (st := s_Disk___init__) l0 c_0 k0
  have b0 := F0.binds (ps := ["self", "sectors"]) fun _ _ _ _ _ _ us hl => match us, hl with | [_, _], _ => rfl
  have F1 := fun_mk (st := s_Disk_size) l1 c_1 k1
  have b1 := F1.binds (ps := ["self"]) fun _ _ _ _ _ _ us hl => match us, hl with | [_], _ => rfl
  have F2 := fun_mk (st := s_Disk_read) l2 c_2 k2
  have b2 := F2.binds (ps := ["self", "index"]) fun _ _ _ _ _ _ us hl => match us, hl with | [_, _], _ => rfl
  have F3 := fun_mk (st := s_Disk_pending) l3 c_3 k3
  have b3 := F3.binds (ps := ["self"]) fun _ _ _ _ _ _ us hl => match us, hl with | [_], _ => rfl
  have F4 := fun_mk (st := s_Disk_counts) l4 c_4 k4
  have b4 := F4.binds (ps := ["self"]) fun _ _ _ _ _ _ us hl => match us, hl with | [_], _ => rfl
  have F5 := fun_mk (st := s_Disk_lose_power) l5 c_5 k5
  have b5 := F5.binds (ps := ["self"]) fun _ _ _ _ _ _ us hl => match us, hl with | [_], _ => rfl
  have F6 := fun_mk (st := s_Disk_operate) l6 c_6 k6
  have b6 := F6.binds (ps := ["self"]) fun _ _ _ _ _ _ us hl => match us, hl with | [_], _ => rfl
  have F7 := fun_mk (st := s_Disk_write) l7 c_7 k7
  have b7 := F7.binds (ps := ["self", "index", "data"]) fun _ _ _ _ _ _ us hl => match us, hl with | [_, _, _], _ => rfl
  have F8 := fun_mk (st := s_Disk_sync) l8 c_8 k8
  have b8 := F8.binds (ps := ["self"]) fun _ _ _ _ _ _ us hl => match us, hl with | [_], _ => rfl
  have F9 := fun_mk (st := s_Disk_fail_after) l9 c_9 k9
  have b9 := F9.binds (ps := ["self", "operations"]) fun _ _ _ _ _ _ us hl => match us, hl with | [_, _], _ => rfl
  have F10 := fun_mk (st := s_Disk_power) l10 c_10 k10
  have b10 := F10.binds (ps := ["self", "kept"]) fun _ _ _ _ _ _ us hl => match us, hl with | [_, _], _ => rfl
  have F11 := fun_mk (st := s_Disk_is_on) l11 c_11 k11
  have b11 := F11.binds (ps := ["self"]) fun _ _ _ _ _ _ us hl => match us, hl with | [_], _ => rfl
  have F12 := fun_mk (st := s_Disk_losses) l12 c_12 k12
  have b12 := F12.binds (ps := ["self"]) fun _ _ _ _ _ _ us hl => match us, hl with | [_], _ => rfl
  have F13 := fun_mk (st := s_law_next) l13 c_13 k13
  have b13 := F13.binds (ps := ["_law_state", "_law_limit"]) fun _ _ _ _ _ _ us hl => match us, hl with | [_, _], _ => rfl
  have F14 := fun_mk (st := s_law_same) l14 c_14 k14
  have b14 := F14.binds (ps := ["_law_actual", "_law_expected"]) fun _ _ _ _ _ _ us hl => match us, hl with | [_, _], _ => rfl
  have F15 := fun_mk (st := s_law_refused) l15 c_15 k15
  have b15 := F15.binds (ps := ["_law_size"]) fun _ _ _ _ _ _ us hl => match us, hl with | [_], _ => rfl
  have F16 := fun_mk (st := s_law_operate) l16 c_16 k16
  have b16 := F16.binds (ps := ["_law_world"]) fun _ _ _ _ _ _ us hl => match us, hl with | [_], _ => rfl
  have F17 := fun_mk (st := s_law_write) l17 c_17 k17
  have b17 := F17.binds (ps := ["_law_state", "_law_world", "_law_disk"]) fun _ _ _ _ _ _ us hl => match us, hl with | [_, _, _], _ => rfl
  have F18 := fun_mk (st := s_law_sync) l18 c_18 k18
  have b18 := F18.binds (ps := ["_law_world", "_law_disk"]) fun _ _ _ _ _ _ us hl => match us, hl with | [_, _], _ => rfl
  have F19 := fun_mk (st := s_law_fail) l19 c_19 k19
  have b19 := F19.binds (ps := ["_law_state", "_law_world", "_law_disk"]) fun _ _ _ _ _ _ us hl => match us, hl with | [_, _, _], _ => rfl
  have F20 := fun_mk (st := s_law_power) l20 c_20 k20
  have b20 := F20.binds (ps := ["_law_state", "_law_world", "_law_disk"]) fun _ _ _ _ _ _ us hl => match us, hl with | [_, _, _], _ => rfl
  have F21 := fun_mk (st := s_law_deed) l21 c_21 k21
  have b21 := F21.binds (ps := ["_law_state", "_law_world", "_law_disk"]) fun _ _ _ _ _ _ us hl => match us, hl with | [_, _, _], _ => rfl
  have F22 := fun_mk (st := s_law_sector) l22 c_22 k22
  have b22 := F22.binds (ps := ["_law_world", "_law_index"]) fun _ _ _ _ _ _ us hl => match us, hl with | [_, _], _ => rfl
  have F23 := fun_mk (st := s_law_is_right) l23 c_23 k23
  have b23 := F23.binds (ps := ["_law_state", "_law_world", "_law_disk"]) fun _ _ _ _ _ _ us hl => match us, hl with | [_, _, _], _ => rfl
  have F24 := fun_mk (st := s_law) l24 c_24 k24
  have b24 := F24.binds (ps := ["_law_script"]) fun _ _ _ _ _ _ us hl => match us, hl with | [_], _ => rfl
  have T : Txt K mg ⟨f0, f1, f2, f3, f4, f5, f6, f7, f8, f9, f10, f11, f12, f13, f14, f15, f16, f17, f18, f19, f20, f21, f22, f23, fa, cc_Disk, cc_InvalidArgument, cc_PowerOff, cc_RuleError, t0, t1, t2⟩ ⟨_, _, _, _, _, _, _, _, _, _, _, _, _, _, _, _, _, _, _, _, _, _, _, _, _⟩ := ⟨F0, ⟨a0, q0, k0⟩, b0, F1, ⟨a1, q1, k1⟩, b1, F2, ⟨a2, q2, k2⟩, b2, F3, ⟨a3, q3, k3⟩, b3, F4, ⟨a4, q4, k4⟩, b4, F5, ⟨a5, q5, k5⟩, b5, F6, ⟨a6, q6, k6⟩, b6, F7, ⟨a7, q7, k7⟩, b7, F8, ⟨a8, q8, k8⟩, b8, F9, ⟨a9, q9, k9⟩, b9, F10, ⟨a10, q10, k10⟩, b10, F11, ⟨a11, q11, k11⟩, b11, F12, ⟨a12, q12, k12⟩, b12, F13, PySem.W.mg_of X G a13, b13, F14, PySem.W.mg_of X G a14, b14, F15, PySem.W.mg_of X G a15, b15, F16, PySem.W.mg_of X G a16, b16, F17, PySem.W.mg_of X G a17, b17, F18, PySem.W.mg_of X G a18, b18, F19, PySem.W.mg_of X G a19, b19, F20, PySem.W.mg_of X G a20, b20, F21, PySem.W.mg_of X G a21, b21, F22, PySem.W.mg_of X G a22, b22, F23, PySem.W.mg_of X G a23, b23, F24, PySem.W.mg_of X G a24, b24, PySem.W.mg_of X G g_Disk, ⟨pg_Disk, hd_Disk, po_Disk, sa_Disk⟩, ⟨mk_Disk, a0, q0, kc_Disk⟩, na_Disk_in_use, na_Disk_lasting, na_Disk_seen, na_Disk_waiting, na_Disk_powered, na_Disk_left, na_Disk_failures, na_Disk_writes, na_Disk_syncs, PySem.W.mg_of X G g_InvalidArgument, x_InvalidArgument, kp_InvalidArgument, bs_InvalidArgument, ty_InvalidArgument, hd_InvalidArgument, s_InvalidArgument_InvalidArgument, s_InvalidArgument_PowerOff, s_InvalidArgument_RuleError, PySem.W.mg_of X G g_PowerOff, x_PowerOff, kp_PowerOff, bs_PowerOff, ty_PowerOff, hd_PowerOff, s_PowerOff_InvalidArgument, s_PowerOff_PowerOff, s_PowerOff_RuleError, PySem.W.mg_of X G g_RuleError, x_RuleError, kp_RuleError, bs_RuleError, ty_RuleError, hd_RuleError, s_RuleError_InvalidArgument, s_RuleError_PowerOff, s_RuleError_RuleError, ⟨e1_InvalidArgument, e2_InvalidArgument, bs_InvalidArgument, hd_InvalidArgument, e3_InvalidArgument, e4_InvalidArgument, e5_InvalidArgument, e6_InvalidArgument⟩, kit_self, kit_type (by decide +kernel) ki_InvalidArgument_ValueError, PySem.W.mg_none_of X G z0, PySem.W.mg_none_of X G z1, PySem.W.mg_none_of X G z2, PySem.W.mg_none_of X G z3, PySem.W.mg_none_of X G z4, PySem.W.mg_none_of X G z5, PySem.W.mg_none_of X G z6, PySem.W.mg_none_of X G z7, PySem.W.mg_none_of X G z8, PySem.W.mg_none_of X G z9, PySem.W.mg_none_of X G z10, PySem.W.mg_of X G i0, PySem.W.mg_of X G i1, PySem.W.mg_of X G i2⟩
  exact ⟨_, fun s v => .of_eq rfl, fun base _ _ => ok_law T⟩
end K06
open PySem PySem.W PyProof.Rows
set_option maxRecDepth 100000 in
set_option maxHeartbeats 0 in
theorem PySem.Challenge.cw_rulestead_k06_disk_keeps_what_was_synced_holds : PySem.Challenge.rw_rulestead_k06_disk_keeps_what_was_synced.Holds := by
  w_on; o_law; k_head; (case hw => w_witness2)
  k_fill
  refine L2.walk_ofB (l := PySem.Challenge.rw_rulestead_k06_disk_keeps_what_was_synced) (n := 63) (k := 6) (x := "_law_script") (CX := fun _ => L2.CX0) (sp := fun w => Ab.scriptA _) rfl (by decide) rfl ⟨rfl, by decide, by decide⟩ (fun w h Y => PySem.W.kIn_of Y) ?F (fun _ H a ns hl hb hO hS => Ab.script_in hl hb hS) (fun _ _ _ _ _ h => h)
  case F =>
    intro w mg fa h KX G hmg
    refine' K06.all_mk KX G hmg ?a0 ?q0 ?l0 ?c_0 ?k0 ?a1 ?q1 ?l1 ?c_1 ?k1 ?a2 ?q2 ?l2 ?c_2 ?k2 ?a3 ?q3 ?l3 ?c_3 ?k3 ?a4 ?q4 ?l4 ?c_4 ?k4 ?a5 ?q5 ?l5 ?c_5 ?k5 ?a6 ?q6 ?l6 ?c_6 ?k6 ?a7 ?q7 ?l7 ?c_7 ?k7 ?a8 ?q8 ?l8 ?c_8 ?k8 ?a9 ?q9 ?l9 ?c_9 ?k9 ?a10 ?q10 ?l10 ?c_10 ?k10 ?a11 ?q11 ?l11 ?c_11 ?k11 ?a12 ?q12 ?l12 ?c_12 ?k12 ?a13 ?l13 ?c_13 ?k13 ?a14 ?l14 ?c_14 ?k14 ?a15 ?l15 ?c_15 ?k15 ?a16 ?l16 ?c_16 ?k16 ?a17 ?l17 ?c_17 ?k17 ?a18 ?l18 ?c_18 ?k18 ?a19 ?l19 ?c_19 ?k19 ?a20 ?l20 ?c_20 ?k20 ?a21 ?l21 ?c_21 ?k21 ?a22 ?l22 ?c_22 ?k22 ?a23 ?l23 ?c_23 ?k23 ?a24 ?l24 ?c_24 ?k24 ?g_Disk ?pg_Disk ?hd_Disk ?po_Disk ?sa_Disk ?mk_Disk ?kc_Disk ?na_Disk_in_use ?na_Disk_lasting ?na_Disk_seen ?na_Disk_waiting ?na_Disk_powered ?na_Disk_left ?na_Disk_failures ?na_Disk_writes ?na_Disk_syncs ?g_InvalidArgument ?x_InvalidArgument ?kp_InvalidArgument ?bs_InvalidArgument ?ty_InvalidArgument ?hd_InvalidArgument ?e1_InvalidArgument ?e2_InvalidArgument ?e3_InvalidArgument ?e4_InvalidArgument ?e5_InvalidArgument ?e6_InvalidArgument ?s_InvalidArgument_InvalidArgument ?s_InvalidArgument_PowerOff ?s_InvalidArgument_RuleError ?g_PowerOff ?x_PowerOff ?kp_PowerOff ?bs_PowerOff ?ty_PowerOff ?hd_PowerOff ?s_PowerOff_InvalidArgument ?s_PowerOff_PowerOff ?s_PowerOff_RuleError ?g_RuleError ?x_RuleError ?kp_RuleError ?bs_RuleError ?ty_RuleError ?hd_RuleError ?s_RuleError_InvalidArgument ?s_RuleError_PowerOff ?s_RuleError_RuleError ?ki_InvalidArgument_ValueError ?z0 ?z1 ?z2 ?z3 ?z4 ?z5 ?z6 ?z7 ?z8 ?z9 ?z10 ?i0 ?i1 ?i2
    (case g_Disk => k_is)
    (case g_InvalidArgument => k_is)
    (case g_PowerOff => k_is)
    (case g_RuleError => k_is)
    (case a0 => k_is)
    (case q0 => k_is)
    (case l0 => k_is)
    (case c_0 => k_is)
    (case k0 => k_is)
    (case a1 => k_is)
    (case q1 => k_is)
    (case l1 => k_is)
    (case c_1 => k_is)
    (case k1 => k_is)
    (case a2 => k_is)
    (case q2 => k_is)
    (case l2 => k_is)
    (case c_2 => k_is)
    (case k2 => k_is)
    (case a3 => k_is)
    (case q3 => k_is)
    (case l3 => k_is)
    (case c_3 => k_is)
    (case k3 => k_is)
    (case a4 => k_is)
    (case q4 => k_is)
    (case l4 => k_is)
    (case c_4 => k_is)
    (case k4 => k_is)
    (case a5 => k_is)
    (case q5 => k_is)
    (case l5 => k_is)
    (case c_5 => k_is)
    (case k5 => k_is)
    (case a6 => k_is)
    (case q6 => k_is)
    (case l6 => k_is)
    (case c_6 => k_is)
    (case k6 => k_is)
    (case a7 => k_is)
    (case q7 => k_is)
    (case l7 => k_is)
    (case c_7 => k_is)
    (case k7 => k_is)
    (case a8 => k_is)
    (case q8 => k_is)
    (case l8 => k_is)
    (case c_8 => k_is)
    (case k8 => k_is)
    (case a9 => k_is)
    (case q9 => k_is)
    (case l9 => k_is)
    (case c_9 => k_is)
    (case k9 => k_is)
    (case a10 => k_is)
    (case q10 => k_is)
    (case l10 => k_is)
    (case c_10 => k_is)
    (case k10 => k_is)
    (case a11 => k_is)
    (case q11 => k_is)
    (case l11 => k_is)
    (case c_11 => k_is)
    (case k11 => k_is)
    (case a12 => k_is)
    (case q12 => k_is)
    (case l12 => k_is)
    (case c_12 => k_is)
    (case k12 => k_is)
    (case a13 => k_is)
    (case l13 => k_is)
    (case c_13 => k_is)
    (case k13 => k_is)
    (case a14 => k_is)
    (case l14 => k_is)
    (case c_14 => k_is)
    (case k14 => k_is)
    (case a15 => k_is)
    (case l15 => k_is)
    (case c_15 => k_is)
    (case k15 => k_is)
    (case a16 => k_is)
    (case l16 => k_is)
    (case c_16 => k_is)
    (case k16 => k_is)
    (case a17 => k_is)
    (case l17 => k_is)
    (case c_17 => k_is)
    (case k17 => k_is)
    (case a18 => k_is)
    (case l18 => k_is)
    (case c_18 => k_is)
    (case k18 => k_is)
    (case a19 => k_is)
    (case l19 => k_is)
    (case c_19 => k_is)
    (case k19 => k_is)
    (case a20 => k_is)
    (case l20 => k_is)
    (case c_20 => k_is)
    (case k20 => k_is)
    (case a21 => k_is)
    (case l21 => k_is)
    (case c_21 => k_is)
    (case k21 => k_is)
    (case a22 => k_is)
    (case l22 => k_is)
    (case c_22 => k_is)
    (case k22 => k_is)
    (case a23 => k_is)
    (case l23 => k_is)
    (case c_23 => k_is)
    (case k23 => k_is)
    (case a24 => k_is)
    (case l24 => k_is)
    (case c_24 => k_is)
    (case k24 => k_is)
    (case pg_Disk => k_is)
    (case hd_Disk => k_is)
    (case po_Disk => k_is)
    (case sa_Disk => k_is)
    (case mk_Disk => k_is)
    (case kc_Disk => k_is)
    (case na_Disk_in_use => k_is)
    (case na_Disk_lasting => k_is)
    (case na_Disk_seen => k_is)
    (case na_Disk_waiting => k_is)
    (case na_Disk_powered => k_is)
    (case na_Disk_left => k_is)
    (case na_Disk_failures => k_is)
    (case na_Disk_writes => k_is)
    (case na_Disk_syncs => k_is)
    (case x_InvalidArgument => k_exc)
    (case kp_InvalidArgument => k_is)
    (case bs_InvalidArgument => k_is)
    (case ty_InvalidArgument => k_is)
    (case hd_InvalidArgument => k_is)
    (case e1_InvalidArgument => k_is)
    (case e2_InvalidArgument => k_is)
    (case e3_InvalidArgument => k_is)
    (case e4_InvalidArgument => k_is)
    (case e5_InvalidArgument => k_is)
    (case e6_InvalidArgument => k_is)
    (case s_InvalidArgument_InvalidArgument => k_is)
    (case s_InvalidArgument_PowerOff => k_is)
    (case s_InvalidArgument_RuleError => k_is)
    (case x_PowerOff => k_exc)
    (case kp_PowerOff => k_is)
    (case bs_PowerOff => k_is)
    (case ty_PowerOff => k_is)
    (case hd_PowerOff => k_is)
    (case s_PowerOff_InvalidArgument => k_is)
    (case s_PowerOff_PowerOff => k_is)
    (case s_PowerOff_RuleError => k_is)
    (case x_RuleError => k_exc)
    (case kp_RuleError => k_is)
    (case bs_RuleError => k_is)
    (case ty_RuleError => k_is)
    (case hd_RuleError => k_is)
    (case s_RuleError_InvalidArgument => k_is)
    (case s_RuleError_PowerOff => k_is)
    (case s_RuleError_RuleError => k_is)
    (case ki_InvalidArgument_ValueError => k_is)
    (case z0 => k_is)
    (case z1 => k_is)
    (case z2 => k_is)
    (case z3 => k_is)
    (case z4 => k_is)
    (case z5 => k_is)
    (case z6 => k_is)
    (case z7 => k_is)
    (case z8 => k_is)
    (case z9 => k_is)
    (case z10 => k_is)
    (case i0 => k_is)
    (case i1 => k_is)
    (case i2 => k_is)


