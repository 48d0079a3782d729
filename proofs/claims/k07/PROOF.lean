import PyProof.Rows.All
import Wide.All
import OpenK.AllK
import Wide.FinOn
import HandS.ForMost
import HandS.Wide
import HandS.IsInst
import HandS.Style
import HandS.Deep
import HandS.EndBits
import PySem.Challenge.RW_rulestead_k07_blocks_and_heads
set_option Elab.async false
set_option linter.all false
set_option maxRecDepth 100000
set_option  maxHeartbeats 4000000
/-! Ab: a calculus over HandS's readings in which data (lists, tuples of data that nobody changes any more) are plain values and only what may change stands in a small map. -/
namespace Ab
open PySem L2

/-! ### heaps -/
theorem same_new {H : Hp} {p : Addr} {o : HO} (h : H p = none) : Same H (upd H p o) := fun b u e => by
  rw [upd_ne (ne_of_none e h)]
  exact e
theorem same_rd {H H' : Hp} {a : Addr} {u : HO} (e : Same H H') (h : Rd H a u) : Rd H' a u := by
  rcases h with h | ⟨o, h⟩
  · exact .inl (e _ _ h)
  · exact .inr ⟨o, e _ _ h⟩
theorem same_l {K : PySem.W.Frag} {H H' : Hp} {a : Addr} {xs : List V} (e : Same H H') (h : SqL K H a xs) : SqL K H' a xs := by
  rcases h with h | h
  · exact .inl (same_rd e h)
  · exact .inr h
theorem same_t {K : PySem.W.Frag} {H H' : Hp} {a : Addr} {xs : List V} (e : Same H H') (h : SqT K H a xs) : SqT K H' a xs := by
  rcases h with h | h
  · exact .inl (same_rd e h)
  · exact .inr h
/-! data that stands in the heap: lists tracked (none of the module's own), tuples of any kind -/
mutual
inductive Dq (K : PySem.W.Frag) (H : Hp) : V → PyData → Prop
  | non : Dq K H .non .none
  | bl (b : Bool) : Dq K H (.bl b) (.bool b)
  | int (i : Int) : Dq K H (.int i) (.int i)
  | str (x : Str) : Dq K H (.str x) (.str x)
  | lst {a : Addr} {xs : List V} {ds : List PyData} : Rd H a (.lst xs) → DqAll K H xs ds → Dq K H (.ref a) (.list ds)
  | tup {a : Addr} {xs : List V} {ds : List PyData} : SqT K H a xs → DqAll K H xs ds → Dq K H (.ref a) (.tuple ds)
inductive DqAll (K : PySem.W.Frag) (H : Hp) : List V → List PyData → Prop
  | nil : DqAll K H [] []
  | cons {v : V} {vs : List V} {d : PyData} {ds : List PyData} : Dq K H v d → DqAll K H vs ds → DqAll K H (v :: vs) (d :: ds)
end
section
variable {K : PySem.W.Frag} {B B' : Hp}
mutual
theorem dq_dp : ∀ (d : PyData) (v : V), Dq K B v d → Dp K B v d
  | .none, _, h => by cases h; exact .non
  | .bool b, _, h => by cases h; exact .bl b
  | .int i, _, h => by cases h; exact .int i
  | .str x, _, h => by cases h; exact .str x
  | .list ds, _, h => by
    cases h with
    | lst hs ha => exact .lst (.inl hs) (dqa_dp ds _ ha)
  | .tuple ds, _, h => by
    cases h with
    | tup hs ha => exact .tup hs (dqa_dp ds _ ha)
  | .dict _, _, h => by cases h
theorem dqa_dp : ∀ (ds : List PyData) (vs : List V), DqAll K B vs ds → DpAll K B vs ds
  | [], _, h => by cases h; exact .nil
  | d :: ds, _, h => by
    cases h with
    | cons h1 h2 => exact .cons (dq_dp d _ h1) (dqa_dp ds _ h2)
end
mutual
theorem dp_same (e : Same B B') : ∀ (d : PyData) (v : V), Dq K B v d → Dq K B' v d
  | .none, _, h => by cases h; exact .non
  | .bool b, _, h => by cases h; exact .bl b
  | .int i, _, h => by cases h; exact .int i
  | .str x, _, h => by cases h; exact .str x
  | .list ds, _, h => by
    cases h with
    | lst hs ha => exact .lst (same_rd e hs) (dpa_same e ds _ ha)
  | .tuple ds, _, h => by
    cases h with
    | tup hs ha => exact .tup (same_t e hs) (dpa_same e ds _ ha)
  | .dict _, _, h => by cases h
theorem dpa_same (e : Same B B') : ∀ (ds : List PyData) (vs : List V), DqAll K B vs ds → DqAll K B' vs ds
  | [], _, h => by cases h; exact .nil
  | d :: ds, _, h => by
    cases h with
    | cons h1 h2 => exact .cons (dp_same e d _ h1) (dpa_same e ds _ h2)
end
end

/-! ### what a slot holds -/
inductive Sl where
  /-- data that nobody changes -/
  | dat (d : PyData)
  /-- just this value -/
  | raw (v : V)
  /-- what else is known of it, as long as things are only added -/
  | abs (P : Hp → V → Prop) (m : ∀ B B' v, Same B B' → P B v → P B' v)
abbrev Sl.int (i : Int) : Sl := .dat (.int i)
abbrev Sl.bl (b : Bool) : Sl := .dat (.bool b)
abbrev Sl.str (x : Str) : Sl := .dat (.str x)
abbrev Sl.non : Sl := .dat .none
abbrev Sl.ls (ds : List PyData) : Sl := .dat (.list ds)
abbrev Sl.tp (ds : List PyData) : Sl := .dat (.tuple ds)
abbrev Sl.ref (a : Addr) : Sl := .raw (.ref a)

def SlOk (K : PySem.W.Frag) (B : Hp) (v : V) : Sl → Prop
  | .dat d => Dq K B v d
  | .raw u => v = u
  | .abs P _ => P B v
section
variable {K : PySem.W.Frag} {B B' : Hp} {v : V} {s : Sl}
theorem SlOk.mono (e : Same B B') (h : SlOk K B v s) : SlOk K B' v s := by
  cases s with
  | dat d => exact dp_same e d v h
  | raw u => exact h
  | abs P m => exact m _ _ _ e h
theorem slok_int {i : Int} : SlOk K B (.int i) (.int i) := Dq.int i
theorem slok_bl {b : Bool} : SlOk K B (.bl b) (.bl b) := Dq.bl b
theorem slok_str {x : Str} : SlOk K B (.str x) (.str x) := Dq.str x
theorem slok_non : SlOk K B .non .non := Dq.non
theorem slok_ref {a : Addr} : SlOk K B (.ref a) (.ref a) := rfl
theorem of_int {i : Int} (h : SlOk K B v (.int i)) : v = .int i := by cases h; rfl
theorem of_bl {b : Bool} (h : SlOk K B v (.bl b)) : v = .bl b := by cases h; rfl
theorem of_str {x : Str} (h : SlOk K B v (.str x)) : v = .str x := by cases h; rfl
theorem of_non (h : SlOk K B v .non) : v = .non := by cases h; rfl
abbrev SlAll (K : PySem.W.Frag) (B : Hp) : List V → List Sl → Prop := Paired fun v s => SlOk K B v s
theorem SlAll.mono (e : Same B B') {vs : List V} {ss : List Sl} (h : SlAll K B vs ss) : SlAll K B' vs ss := Paired.mapP h fun _ _ q => q.mono e
theorem sla_dat : ∀ {vs : List V} {ds : List PyData}, DqAll K B vs ds → SlAll K B vs (ds.map .dat)
  | _, _, .nil => .nil
  | _, _, .cons h t => .cons h (sla_dat t)
theorem dpa_of : ∀ {vs : List V} {ds : List PyData}, SlAll K B vs (ds.map .dat) → DqAll K B vs ds
  | _, [], .nil => .nil
  | _, _ :: _, .cons h t => .cons h (dpa_of t)
theorem DqAll.length : ∀ {vs : List V} {ds : List PyData}, DqAll K B vs ds → vs.length = ds.length
  | _, _, .nil => rfl
  | _, _, .cons _ t => congrArg (· + 1) (DqAll.length t)
theorem DqAll.app : ∀ {vs ws : List V} {ds es : List PyData}, DqAll K B vs ds → DqAll K B ws es → DqAll K B (vs ++ ws) (ds ++ es)
  | _, _, _, _, .nil, h => h
  | _, _, _, _, .cons h t, h' => .cons h (DqAll.app t h')
theorem DqAll.take : ∀ (n : Nat) {vs : List V} {ds : List PyData}, DqAll K B vs ds → DqAll K B (vs.take n) (ds.take n)
  | 0, _, _, _ => .nil
  | _ + 1, _, _, .nil => .nil
  | n + 1, _, _, .cons h t => .cons h (DqAll.take n t)
theorem DqAll.drop : ∀ (n : Nat) {vs : List V} {ds : List PyData}, DqAll K B vs ds → DqAll K B (vs.drop n) (ds.drop n)
  | 0, _, _, h => h
  | _ + 1, _, _, .nil => .nil
  | n + 1, _, _, .cons _ t => DqAll.drop n t
theorem DqAll.get : ∀ {i : Nat} {vs : List V} {ds : List PyData} {d : PyData}, DqAll K B vs ds → ds[i]? = some d → ∃ v, vs[i]? = some v ∧ Dq K B v d
  | _, _, _, _, .nil, e => by simp at e
  | 0, _, _, _, .cons h _, e => by simp at e; subst e; exact ⟨_, rfl, h⟩
  | i + 1, _, _, _, .cons _ t, e => by
    obtain ⟨v, h1, h2⟩ := DqAll.get (i := i) t (by simpa using e)
    exact ⟨v, by simpa using h1, h2⟩
theorem SlAll.get : ∀ {i : Nat} {vs : List V} {ss : List Sl} {s : Sl}, SlAll K B vs ss → ss[i]? = some s → ∃ v, vs[i]? = some v ∧ SlOk K B v s
  | _, _, _, _, .nil, e => by simp at e
  | 0, _, _, _, .cons h _, e => by simp at e; subst e; exact ⟨_, rfl, h⟩
  | i + 1, _, _, _, .cons _ t, e => by
    obtain ⟨v, h1, h2⟩ := SlAll.get (i := i) t (by simpa using e)
    exact ⟨v, by simpa using h1, h2⟩
theorem SlAll.setI {v : V} {s : Sl} (r : SlOk K B v s) : ∀ (i : Nat) {vs : List V} {ss : List Sl}, SlAll K B vs ss → SlAll K B (vs.set i v) (ss.set i s)
  | _, _, _, .nil => .nil
  | 0, _, _, .cons _ t => .cons r t
  | i + 1, _, _, .cons q t => .cons q (SlAll.setI r i t)
theorem SlAll.app : ∀ {vs ws : List V} {ds es : List Sl}, SlAll K B vs ds → SlAll K B ws es → SlAll K B (vs ++ ws) (ds ++ es)
  | _, _, _, _, .nil, h => h
  | _, _, _, _, .cons h t, h' => .cons h (SlAll.app t h')
end

/-! ### the frame -/
abbrev Rho := List (Option Sl)
def Rl (K : PySem.W.Frag) (B : Hp) : L2.St → Rho → Prop
  | [], [] => True
  | x :: σ, y :: ρ => (∀ s, y = some s → ∃ v, x = some v ∧ SlOk K B v s) ∧ Rl K B σ ρ
  | _, _ => False
section
variable {K : PySem.W.Frag} {B B' : Hp}
theorem Rl.mono (e : Same B B') : ∀ {σ : L2.St} {ρ : Rho}, Rl K B σ ρ → Rl K B' σ ρ
  | [], [], _ => trivial
  | _ :: _, _ :: _, ⟨h, t⟩ => ⟨fun s q => let ⟨v, e1, e2⟩ := h s q; ⟨v, e1, e2.mono e⟩, Rl.mono e t⟩
theorem Rl.get : ∀ {i : Nat} {σ : L2.St} {ρ : Rho} {s : Sl}, Rl K B σ ρ → ρ[i]? = some (some s) → ∃ v, σ[i]? = some (some v) ∧ SlOk K B v s
  | _, [], [], _, _, e => by simp at e
  | 0, _ :: _, _ :: _, s, ⟨h, _⟩, e => by
    obtain ⟨v, e1, e2⟩ := h s (by simpa using e)
    exact ⟨v, by rw [e1]; rfl, e2⟩
  | i + 1, _ :: _, _ :: _, s, ⟨_, t⟩, e => by
    obtain ⟨v, h1, h2⟩ := Rl.get (i := i) t (by simpa using e)
    exact ⟨v, by simpa using h1, h2⟩
theorem Rl.put {v : V} {s : Sl} (r : SlOk K B v s) : ∀ (i : Nat) {σ : L2.St} {ρ : Rho}, Rl K B σ ρ → Rl K B (σ.set i (some v)) (ρ.set i (some s))
  | _, [], [], _ => trivial
  | 0, _ :: _, _ :: _, ⟨_, t⟩ => ⟨fun s' q => (by cases q; exact ⟨v, rfl, r⟩), t⟩
  | i + 1, _ :: _, _ :: _, ⟨h, t⟩ => ⟨h, Rl.put r i t⟩
theorem Rl.non : ∀ (i : Nat) {σ : L2.St} {ρ : Rho}, Rl K B σ ρ → Rl K B (σ.set i none) (ρ.set i none)
  | _, [], [], _ => trivial
  | 0, _ :: _, _ :: _, ⟨_, t⟩ => ⟨fun s' q => (by cases q), t⟩
  | i + 1, _ :: _, _ :: _, ⟨h, t⟩ => ⟨h, Rl.non i t⟩
/-- less may be known -/
theorem Rl.less : ∀ (i : Nat) {σ : L2.St} {ρ : Rho}, Rl K B σ ρ → Rl K B σ (ρ.set i none)
  | _, [], [], _ => trivial
  | 0, _ :: _, _ :: _, ⟨_, t⟩ => ⟨fun s' q => (by simp at q), t⟩
  | i + 1, _ :: _, _ :: _, ⟨h, t⟩ => ⟨h, Rl.less i t⟩
def wipeR (ρ : Rho) : List Nat → Rho
  | [] => ρ
  | v :: vs => (wipeR ρ vs).set v none
theorem Rl.wiped {σ : L2.St} {ρ : Rho} (h : Rl K B σ ρ) : ∀ vs : List Nat, Rl K B (wipe σ vs) (wipeR ρ vs)
  | [] => h
  | v :: vs => Rl.non v (Rl.wiped h vs)
theorem rl_start : ∀ {vs : List V} {ss : List Sl} (n : Nat), SlAll K B vs ss → Rl K B (vs.map some ++ List.replicate n none) (ss.map some ++ List.replicate n none)
  | _, _, n, .nil => by
    show Rl K B (List.replicate n none) (List.replicate n none)
    induction n with
    | zero => trivial
    | succ n ih => exact ⟨fun s q => (by cases q), ih⟩
  | _, _, n, .cons h t => ⟨fun s q => (by cases q; exact ⟨_, rfl, h⟩), rl_start n t⟩
/-- what is known of a frame stands in another list of what is known, slot by slot -/
theorem wipe_set (σ : L2.St) (x : Option V) : ∀ (vs : List Nat) (j : Nat), j ∈ vs → wipe (σ.set j x) vs = wipe σ vs
  | [], _, h => by cases h
  | v :: vs, j, h => by
    show (wipe (σ.set j x) vs).set v none = (wipe σ vs).set v none
    by_cases hj : j ∈ vs
    · rw [wipe_set σ x vs j hj]
    · have e : j = v := by
        rcases List.mem_cons.mp h with h | h
        · exact h
        · exact absurd h hj
      subst e
      have out : ∀ (vs : List Nat) (σ : L2.St), j ∉ vs → wipe (σ.set j x) vs = (wipe σ vs).set j x := by
        intro vs
        induction vs with
        | nil => intro σ _; rfl
        | cons w ws ih =>
          intro σ hn
          have h1 : j ≠ w := fun e => hn (by rw [e]; exact List.mem_cons_self)
          have h2 : j ∉ ws := fun e => hn (List.mem_cons_of_mem _ e)
          show (wipe (σ.set j x) ws).set w none = ((wipe σ ws).set w none).set j x
          rw [ih σ h2, List.set_comm _ _ h1]
      rw [out vs σ hj, List.set_set]
theorem wipe_wipe (σ : L2.St) : ∀ (vs : List Nat), wipe (wipe σ vs) vs = wipe σ vs
  | [] => rfl
  | v :: vs => by
    show (wipe ((wipe σ vs).set v none) vs).set v none = (wipe σ vs).set v none
    by_cases hv : v ∈ vs
    · rw [wipe_set _ _ vs v hv, wipe_wipe σ vs]
    · have out : ∀ (vs : List Nat) (σ : L2.St), v ∉ vs → wipe (σ.set v none) vs = (wipe σ vs).set v none := by
        intro vs
        induction vs with
        | nil => intro σ _; rfl
        | cons w ws ih =>
          intro σ hn
          have h1 : v ≠ w := fun e => hn (by rw [e]; exact List.mem_cons_self)
          have h2 : v ∉ ws := fun e => hn (List.mem_cons_of_mem _ e)
          show (wipe (σ.set v none) ws).set w none = ((wipe σ ws).set w none).set v none
          rw [ih σ h2, List.set_comm _ _ h1]
      rw [out vs _ hv, wipe_wipe σ vs, List.set_set]
end

/-! ### what may change -/
inductive MO where
  | lst (xs : List Sl)
  | dK (kvs : List (Key × Sl))
  | ins (C dx : Addr) (fs : List (Str × Sl))
  | ho (o : HO)
abbrev MH := Addr → Option MO
def um (M : MH) (a : Addr) (o : MO) : MH := fun b => if b = a then some o else M b
def del (M : MH) (a : Addr) : MH := fun b => if b = a then none else M b
theorem um_same {M : MH} {a : Addr} {o : MO} : um M a o a = some o := by unfold um; rw [if_pos rfl]
theorem um_ne {M : MH} {a b : Addr} {o : MO} (h : b ≠ a) : um M a o b = M b := by unfold um; rw [if_neg h]
theorem um_um {M : MH} {a : Addr} {o u : MO} : um (um M a o) a u = um M a u := by
  funext b; unfold um; split <;> rfl
theorem um_id {M : MH} {a : Addr} {o : MO} (h : M a = some o) : um M a o = M := by
  funext b
  by_cases e : b = a
  · subst e; rw [um_same, h]
  · rw [um_ne e]
theorem um_comm {M : MH} {a b : Addr} {o u : MO} (h : a ≠ b) : um (um M a o) b u = um (um M b u) a o := by
  funext c
  by_cases e1 : c = a
  · subst e1
    rw [um_ne h, um_same, um_same]
  · by_cases e2 : c = b
    · subst e2
      rw [um_same, um_ne e1, um_same]
    · rw [um_ne e2, um_ne e1, um_ne e1, um_ne e2]
theorem del_same {M : MH} {a : Addr} : del M a a = none := by unfold del; rw [if_pos rfl]
theorem del_ne {M : MH} {a b : Addr} (h : b ≠ a) : del M a b = M b := by unfold del; rw [if_neg h]
theorem del_um {M : MH} {a : Addr} {o : MO} (h : M a = none) : del (um M a o) a = M := by
  funext b
  by_cases e : b = a
  · subst e; rw [del_same, h]
  · rw [del_ne e, um_ne e]
theorem mne {M : MH} {a b : Addr} {o : MO} (h : M a = some o) (h' : M b = none) : a ≠ b := by
  intro e; subst e; rw [h] at h'; cases h'
abbrev SlKs {κ : Type} (K : PySem.W.Frag) (B : Hp) : List (κ × V) → List (κ × Sl) → Prop := Paired fun p q => p.1 = q.1 ∧ SlOk K B p.2 q.2
def MOk (K : PySem.W.Frag) (B : Hp) (u : HO) : MO → Prop
  | .lst xs => ∃ vs, u = .lst vs ∧ SlAll K B vs xs
  | .dK kvs => ∃ vs, u = .dK vs ∧ SlKs K B vs kvs
  | .ins C dx fs => ∃ vs, u = .ins C dx vs ∧ SlKs K B vs fs
  | .ho o => u = o
theorem MOk.mono {K : PySem.W.Frag} {B B' : Hp} (e : Same B B') {u : HO} {o : MO} (h : MOk K B u o) : MOk K B' u o := by
  cases o with
  | lst xs => obtain ⟨vs, h1, h2⟩ := h; exact ⟨vs, h1, h2.mono e⟩
  | dK xs => obtain ⟨vs, h1, h2⟩ := h; exact ⟨vs, h1, Paired.mapP h2 fun _ _ q => ⟨q.1, q.2.mono e⟩⟩
  | ins C dx xs => obtain ⟨vs, h1, h2⟩ := h; exact ⟨vs, h1, Paired.mapP h2 fun _ _ q => ⟨q.1, q.2.mono e⟩⟩
  | ho o => exact h
structure Sep (K : PySem.W.Frag) (B : Hp) (M : MH) (H : Hp) : Prop where
  sub : Same B H
  has : ∀ a o, M a = some o → B a = none ∧ ∃ u, H a = some u ∧ MOk K B u o
section
variable {K : PySem.W.Frag} {B H : Hp} {M : MH}
theorem Sep.freeB (S : Sep K B M H) {p : Addr} (h : H p = none) : B p = none := S.sub.free h
theorem Sep.freeM (S : Sep K B M H) {p : Addr} (h : H p = none) : M p = none := by
  cases e : M p with
  | none => rfl
  | some o =>
    obtain ⟨_, u, hu, _⟩ := S.has p o e
    rw [h] at hu; cases hu
/-- a new object that nobody will change -/
theorem Sep.alloc (S : Sep K B M H) {p : Addr} {o : HO} (h : H p = none) : Sep K (upd B p o) M (upd H p o) := by
  have hB := S.freeB h
  refine ⟨fun b u e => ?_, fun a u e => ?_⟩
  · by_cases hb : b = p
    · subst hb; rw [upd_same] at e ⊢; exact e
    · rw [upd_ne hb] at e ⊢; exact S.sub b u e
  · obtain ⟨h1, w, h2, h3⟩ := S.has a u e
    have hne : a ≠ p := ne_of_none h2 h
    exact ⟨by rw [upd_ne hne]; exact h1, w, by rw [upd_ne hne]; exact h2, h3.mono (same_new hB)⟩
/-- a new object that may be changed -/
theorem Sep.new (S : Sep K B M H) {p : Addr} {u : HO} {o : MO} (h : H p = none) (ok : MOk K B u o) : Sep K B (um M p o) (upd H p u) := by
  have hB := S.freeB h
  refine ⟨fun b w e => ?_, fun a w e => ?_⟩
  · rw [upd_ne (ne_of_none e hB)]; exact S.sub b w e
  · by_cases ha : a = p
    · subst ha
      rw [um_same] at e; cases e
      exact ⟨hB, u, upd_same, ok⟩
    · rw [um_ne ha] at e
      obtain ⟨h1, w', h2, h3⟩ := S.has a w e
      exact ⟨h1, w', by rw [upd_ne ha]; exact h2, h3⟩
/-- it is changed -/
theorem Sep.put (S : Sep K B M H) {p : Addr} {u : HO} {o o' : MO} (h : M p = some o) (ok : MOk K B u o') : Sep K B (um M p o') (upd H p u) := by
  obtain ⟨hB, _, _, _⟩ := S.has p o h
  refine ⟨fun b w e => ?_, fun a w e => ?_⟩
  · rw [upd_ne (ne_of_none e hB)]; exact S.sub b w e
  · by_cases ha : a = p
    · subst ha
      rw [um_same] at e; cases e
      exact ⟨hB, u, upd_same, ok⟩
    · rw [um_ne ha] at e
      obtain ⟨h1, w', h2, h3⟩ := S.has a w e
      exact ⟨h1, w', by rw [upd_ne ha]; exact h2, h3⟩
/-- it will not be changed any more -/
theorem Sep.freeze (S : Sep K B M H) {p : Addr} {u : HO} {o : MO} (h : M p = some o) (hu : H p = some u) : Sep K (upd B p u) (del M p) H := by
  obtain ⟨hB, _, _, _⟩ := S.has p o h
  refine ⟨fun b w e => ?_, fun a w e => ?_⟩
  · by_cases hb : b = p
    · subst hb; rw [upd_same] at e; cases e; exact hu
    · rw [upd_ne hb] at e; exact S.sub b w e
  · by_cases ha : a = p
    · subst ha; rw [del_same] at e; cases e
    · rw [del_ne ha] at e
      obtain ⟨h1, w', h2, h3⟩ := S.has a w e
      exact ⟨by rw [upd_ne ha]; exact h1, w', h2, h3.mono (same_new hB)⟩
/-- less may be said -/
theorem Sep.drop (S : Sep K B M H) {p : Addr} : Sep K B (del M p) H := ⟨S.sub, fun a o e => by
  by_cases ha : a = p
  · subst ha; rw [del_same] at e; cases e
  · rw [del_ne ha] at e; exact S.has a o e⟩
theorem Sep.sub' (S : Sep K B M H) {M' : MH} (h : ∀ a o, M' a = some o → M a = some o) : Sep K B M' H := ⟨S.sub, fun a o e => S.has a o (h a o e)⟩
end

/-! ### lists and tuples that are read -/
/-- a list that is read: data, or one that may change -/
def LsV (K : PySem.W.Frag) (s : Sl) (M : MH) (xs : List Sl) : Prop := (∃ ds, s = .dat (.list ds) ∧ xs = ds.map .dat) ∨ (∃ a, s = .raw (.ref a) ∧ M a = some (.lst xs)) ∨ ∃ a vs, s = .raw (.ref a) ∧ (∀ H, SqL K H a vs) ∧ ∀ B, SlAll K B vs xs
def TpV (s : Sl) (xs : List Sl) : Prop := ∃ ds, s = .dat (.tuple ds) ∧ xs = ds.map .dat
theorem lsv_dat {K : PySem.W.Frag} {ds : List PyData} {M : MH} : LsV K (.dat (.list ds)) M (ds.map .dat) := .inl ⟨ds, rfl, rfl⟩
theorem lsv_ref {K : PySem.W.Frag} {a : Addr} {M : MH} {xs : List Sl} (h : M a = some (.lst xs)) : LsV K (.raw (.ref a)) M xs := .inr (.inl ⟨a, rfl, h⟩)
theorem tpv_dat {ds : List PyData} : TpV (.dat (.tuple ds)) (ds.map .dat) := ⟨ds, rfl, rfl⟩
section
variable {K : PySem.W.Frag} {B H : Hp} {M : MH} {v : V} {s : Sl} {xs : List Sl}
theorem LsV.get (h : LsV K s M xs) (S : Sep K B M H) (o : SlOk K B v s) : ∃ a vs, v = .ref a ∧ SqL K H a vs ∧ SlAll K B vs xs := by
  rcases h with ⟨ds, rfl, rfl⟩ | ⟨a, rfl, e⟩ | ⟨a, vs, rfl, h1, h2⟩
  · cases o with
    | lst hs ha => exact ⟨_, _, rfl, .inl (same_rd S.sub hs), sla_dat ha⟩
  · obtain ⟨_, u, hu, vs, rfl, ha⟩ := S.has a _ e
    exact ⟨a, vs, o, SqL.of hu, ha⟩
  · exact ⟨a, vs, o, h1 H, h2 B⟩
/-- a list that is no constant of the module -/
def LsR (s : Sl) (M : MH) (xs : List Sl) : Prop := (∃ ds, s = .dat (.list ds) ∧ xs = ds.map .dat) ∨ ∃ a, s = .raw (.ref a) ∧ M a = some (.lst xs)
theorem lsr_dat {ds : List PyData} {M : MH} : LsR (.dat (.list ds)) M (ds.map .dat) := .inl ⟨ds, rfl, rfl⟩
theorem lsr_ref {a : Addr} {M : MH} {xs : List Sl} (h : M a = some (.lst xs)) : LsR (.raw (.ref a)) M xs := .inr ⟨a, rfl, h⟩
theorem LsR.get (h : LsR s M xs) (S : Sep K B M H) (o : SlOk K B v s) : ∃ a vs, v = .ref a ∧ Rd H a (.lst vs) ∧ SlAll K B vs xs := by
  rcases h with ⟨ds, rfl, rfl⟩ | ⟨a, rfl, e⟩
  · cases o with
    | lst hs ha => exact ⟨_, _, rfl, same_rd S.sub hs, sla_dat ha⟩
  · obtain ⟨_, u, hu, vs, rfl, ha⟩ := S.has a _ e
    exact ⟨a, vs, o, Rd.of hu, ha⟩
theorem TpV.get (h : TpV s xs) (S : Sep K B M H) (o : SlOk K B v s) : ∃ a vs, v = .ref a ∧ SqT K H a vs ∧ SlAll K B vs xs := by
  obtain ⟨ds, rfl, rfl⟩ := h
  cases o with
  | tup hs ha => exact ⟨_, _, rfl, same_t S.sub hs, sla_dat ha⟩
theorem SlAll.len {vs : List V} (h : SlAll K B vs xs) : vs.length = xs.length := Paired.length h
end

/-! ### the calculus -/
def W (K : PySem.W.Frag) (te : TE) (ρ : Rho) (M : MH) (Q : Sl → MH → Prop) : Prop :=
  ∀ σ B H, Rl K B σ ρ → Sep K B M H → ∀ Q0 : VK, (∀ s v M' B' H', Q s M' → Same B B' → Sep K B' M' H' → SlOk K B' v s → Q0 v H') → te σ H Q0
def WT (K : PySem.W.Frag) (te : TT) (ρ : Rho) (M : MH) (Q : Bool → MH → Prop) : Prop :=
  ∀ σ B H, Rl K B σ ρ → Sep K B M H → ∀ Q0 : Bool → Hp → Prop, (∀ b M' B' H', Q b M' → Same B B' → Sep K B' M' H' → Q0 b H') → te σ H Q0
def WA (K : PySem.W.Frag) (te : TA) (ρ : Rho) (M : MH) (Q : List Sl → MH → Prop) : Prop :=
  ∀ σ B H, Rl K B σ ρ → Sep K B M H → ∀ Q0 : List V → Hp → Prop, (∀ ss vs M' B' H', Q ss M' → Same B B' → Sep K B' M' H' → SlAll K B' vs ss → Q0 vs H') → te σ H Q0
def WO (K : PySem.W.Frag) (te : TO) (ρ : Rho) (M : MH) (Q : Option Int → MH → Prop) : Prop :=
  ∀ σ B H, Rl K B σ ρ → Sep K B M H → ∀ Q0 : Option Int → Hp → Prop, (∀ b M' B' H', Q b M' → Same B B' → Sep K B' M' H' → Q0 b H') → te σ H Q0
/-- operations on values -/
def W2 (K : PySem.W.Frag) (r : R2) (x y : Sl) (M : MH) (Q : Sl → MH → Prop) : Prop :=
  ∀ B H v w, Sep K B M H → SlOk K B v x → SlOk K B w y → ∀ Q0 : VK, (∀ s z M' B' H', Q s M' → Same B B' → Sep K B' M' H' → SlOk K B' z s → Q0 z H') → r v w H Q0
def W1 (K : PySem.W.Frag) (r : V → Hp → VK → Prop) (x : Sl) (M : MH) (Q : Sl → MH → Prop) : Prop :=
  ∀ B H v, Sep K B M H → SlOk K B v x → ∀ Q0 : VK, (∀ s z M' B' H', Q s M' → Same B B' → Sep K B' M' H' → SlOk K B' z s → Q0 z H') → r v H Q0
def WL (K : PySem.W.Frag) (r : List V → Hp → VK → Prop) (xs : List Sl) (M : MH) (Q : Sl → MH → Prop) : Prop :=
  ∀ B H vs, Sep K B M H → SlAll K B vs xs → ∀ Q0 : VK, (∀ s z M' B' H', Q s M' → Same B B' → Sep K B' M' H' → SlOk K B' z s → Q0 z H') → r vs H Q0
def WM (K : PySem.W.Frag) (r : V → List V → Hp → VK → Prop) (x : Sl) (xs : List Sl) (M : MH) (Q : Sl → MH → Prop) : Prop :=
  ∀ B H v vs, Sep K B M H → SlOk K B v x → SlAll K B vs xs → ∀ Q0 : VK, (∀ s z M' B' H', Q s M' → Same B B' → Sep K B' M' H' → SlOk K B' z s → Q0 z H') → r v vs H Q0
def WSl (K : PySem.W.Frag) (r : V → Option Int → Option Int → Hp → VK → Prop) (x : Sl) (lo hi : Option Int) (M : MH) (Q : Sl → MH → Prop) : Prop :=
  ∀ B H v, Sep K B M H → SlOk K B v x → ∀ Q0 : VK, (∀ s z M' B' H', Q s M' → Same B B' → Sep K B' M' H' → SlOk K B' z s → Q0 z H') → r v lo hi H Q0
/-- targets -/
def WG (K : PySem.W.Frag) (g : TG) (x : Sl) (ρ : Rho) (M : MH) (Q : Rho → MH → Prop) : Prop :=
  ∀ σ B H v, Rl K B σ ρ → Sep K B M H → SlOk K B v x → ∀ Q0 : L2.St → Hp → Prop, (∀ ρ' M' σ' B' H', Q ρ' M' → Same B B' → Rl K B' σ' ρ' → Sep K B' M' H' → Q0 σ' H') → g v σ H Q0
/-- statements -/
structure AE where
  nx : Rho → MH → Prop
  rt : Sl → MH → Prop
  bk : Rho → MH → Prop
  ct : Rho → MH → Prop
def NoR : Rho → MH → Prop := fun _ _ => False
def WS (K : PySem.W.Frag) (t : TS) (ρ : Rho) (M : MH) (P : AE) : Prop :=
  ∀ σ B H D, Rl K B σ ρ → Sep K B M H →
    (∀ ρ' M' σ' B' H', P.nx ρ' M' → Same B B' → Rl K B' σ' ρ' → Sep K B' M' H' → D.nx σ' H') →
    (∀ s v M' B' H', P.rt s M' → Same B B' → Sep K B' M' H' → SlOk K B' v s → D.rt v H') →
    (∀ ρ' M' σ' B' H', P.bk ρ' M' → Same B B' → Rl K B' σ' ρ' → Sep K B' M' H' → D.bk σ' H') →
    (∀ ρ' M' σ' B' H', P.ct ρ' M' → Same B B' → Rl K B' σ' ρ' → Sep K B' M' H' → D.ct σ' H') → t D σ H

section
variable {K : PySem.W.Frag} {ρ : Rho} {M : MH} {Q Q' : Sl → MH → Prop} {ta tb te tc : TE} {r r' : R2} {P : AE}
theorem W.imp (h : W K te ρ M Q) (k : ∀ s M', Q s M' → Q' s M') : W K te ρ M Q' := fun σ B H hR hS Q0 q => h σ B H hR hS Q0 fun s v M' B' H' z => q s v M' B' H' (k _ _ z)
theorem WS.imp {t : TS} {P' : AE} (h : WS K t ρ M P) (h1 : ∀ ρ' M', P.nx ρ' M' → P'.nx ρ' M') (h2 : ∀ s M', P.rt s M' → P'.rt s M') (h3 : ∀ ρ' M', P.bk ρ' M' → P'.bk ρ' M') (h4 : ∀ ρ' M', P.ct ρ' M' → P'.ct ρ' M') : WS K t ρ M P' :=
  fun σ B H D hR hS a b c d => h σ B H D hR hS (fun ρ' M' σ' B' H' z => a ρ' M' σ' B' H' (h1 _ _ z)) (fun s v M' B' H' z => b s v M' B' H' (h2 _ _ z)) (fun ρ' M' σ' B' H' z => c ρ' M' σ' B' H' (h3 _ _ z)) (fun ρ' M' σ' B' H' z => d ρ' M' σ' B' H' (h4 _ _ z))
theorem w_var {i : Nat} {s : Sl} (h : ρ[i]? = some (some s)) (q : Q s M) : W K (tVar i) ρ M Q := fun σ B H hR hS Q0 k => by
  obtain ⟨v, e, o⟩ := hR.get h
  exact ⟨v, e, k s v M B H q (Same.refl B) hS o⟩
theorem w_int {i : Int} (q : Q (.int i) M) : W K (tC (.int i)) ρ M Q := fun σ B H hR hS Q0 k => k _ _ M B H q (Same.refl B) hS slok_int
theorem w_str {x : Str} (q : Q (.str x) M) : W K (tC (.str x)) ρ M Q := fun σ B H hR hS Q0 k => k _ _ M B H q (Same.refl B) hS slok_str
theorem w_bl {b : Bool} (q : Q (.bl b) M) : W K (tC (.bl b)) ρ M Q := fun σ B H hR hS Q0 k => k _ _ M B H q (Same.refl B) hS slok_bl
theorem w_non (q : Q .non M) : W K (tC .non) ρ M Q := fun σ B H hR hS Q0 k => k _ _ M B H q (Same.refl B) hS slok_non
theorem w_raw {v : V} (q : Q (.raw v) M) : W K (tC v) ρ M Q := fun σ B H hR hS Q0 k => k (.raw v) v M B H q (Same.refl B) hS rfl
/-- a constant of the module that is data -/
theorem w_cdat {v : V} {d : PyData} (h : ∀ B, Dq K B v d) (q : Q (.dat d) M) : W K (tC v) ρ M Q := fun σ B H hR hS Q0 k => k (.dat d) v M B H q (Same.refl B) hS (h B)
theorem w_op (h : W K ta ρ M fun x M1 => W K tb ρ M1 fun y M2 => W2 K r x y M2 Q) : W K (tOp r ta tb) ρ M Q := fun σ B H hR hS Q0 k =>
  h σ B H hR hS _ fun x v M1 B1 H1 hb e1 S1 o1 => hb σ B1 H1 (hR.mono e1) S1 _ fun y w M2 B2 H2 hr e2 S2 o2 =>
    hr B2 H2 v w S2 (o1.mono e2) o2 Q0 fun s z M3 B3 H3 q e3 S3 o3 => k s z M3 B3 H3 q ((e1.trans e2).trans e3) S3 o3
theorem w_un {r : V → Hp → VK → Prop} (h : W K ta ρ M fun x M1 => W1 K r x M1 Q) : W K (tUn r ta) ρ M Q := fun σ B H hR hS Q0 k =>
  h σ B H hR hS _ fun x v M1 B1 H1 hr e1 S1 o1 => hr B1 H1 v S1 o1 Q0 fun s z M3 B3 H3 q e3 S3 o3 => k s z M3 B3 H3 q (e1.trans e3) S3 o3
theorem wa_nil {Q : List Sl → MH → Prop} (q : Q [] M) : WA K tNil ρ M Q := fun σ B H hR hS Q0 k => k [] [] M B H q (Same.refl B) hS .nil
theorem wa_cons {tr : TA} {Q : List Sl → MH → Prop} (h : W K ta ρ M fun x M1 => WA K tr ρ M1 fun xs M2 => Q (x :: xs) M2) : WA K (tCons ta tr) ρ M Q := fun σ B H hR hS Q0 k =>
  h σ B H hR hS _ fun x v M1 B1 H1 hb e1 S1 o1 => hb σ B1 H1 (hR.mono e1) S1 _ fun xs vs M2 B2 H2 q e2 S2 o2 =>
    k (x :: xs) (v :: vs) M2 B2 H2 q (e1.trans e2) S2 (.cons (o1.mono e2) o2)
/-- a built-in called -/
theorem w_cb {t : TA} {r : List V → Hp → VK → Prop} (h : WA K t ρ M fun xs M1 => WL K r xs M1 Q) : W K (tCB r t) ρ M Q := fun σ B H hR hS Q0 k =>
  h σ B H hR hS _ fun xs vs M1 B1 H1 hr e1 S1 o1 => hr B1 H1 vs S1 o1 Q0 fun s z M3 B3 H3 q e3 S3 o3 => k s z M3 B3 H3 q (e1.trans e3) S3 o3
/-- a tuple, a list of data -/
theorem w_tup {t : TA} (h : WA K t ρ M fun xs M1 => ∃ ds, xs = ds.map .dat ∧ ds.length ≤ 100000 ∧ Q (.dat (.tuple ds)) M1) : W K (tTup t) ρ M Q := fun σ B H hR hS Q0 k =>
  h σ B H hR hS _ fun xs vs M1 B1 H1 ⟨ds, e, hl, q⟩ e1 S1 o1 => by
    subst e
    have hd := dpa_of o1
    have hlen := DqAll.length hd
    exact ⟨Nat.le_trans (by omega) (show 100000 ≤ sizeLine by decide), fun p hp => k _ _ M1 (upd B1 p (.tup vs)) _ q (e1.trans (same_new (S1.freeB hp))) (S1.alloc hp) (Dq.tup (SqT.of upd_same) (dpa_same (same_new (S1.freeB hp)) _ _ hd))⟩
theorem w_lst {t : TA} (h : WA K t ρ M fun xs M1 => ∃ ds, xs = ds.map .dat ∧ ds.length ≤ 100000 ∧ Q (.dat (.list ds)) M1) : W K (tLst t) ρ M Q := fun σ B H hR hS Q0 k =>
  h σ B H hR hS _ fun xs vs M1 B1 H1 ⟨ds, e, hl, q⟩ e1 S1 o1 => by
    subst e
    have hd := dpa_of o1
    have hlen := DqAll.length hd
    exact ⟨Nat.le_trans (by omega) (show 100000 ≤ sizeLine by decide), fun p hp => k _ _ M1 (upd B1 p (.lst vs)) _ q (e1.trans (same_new (S1.freeB hp))) (S1.alloc hp) (Dq.lst (Rd.of upd_same) (dpa_same (same_new (S1.freeB hp)) _ _ hd))⟩
/-- a list that will be changed -/
theorem w_lstM {t : TA} (h : WA K t ρ M fun xs M1 => xs.length ≤ 100000 ∧ ∀ p, M1 p = none → Q (.raw (.ref p)) (um M1 p (.lst xs))) : W K (tLst t) ρ M Q := fun σ B H hR hS Q0 k =>
  h σ B H hR hS _ fun xs vs M1 B1 H1 ⟨hl, q⟩ e1 S1 o1 => by
    have hlen := SlAll.len o1
    exact ⟨Nat.le_trans (by omega) (show 100000 ≤ sizeLine by decide), fun p hp => k _ _ _ B1 _ (q p (S1.freeM hp)) e1 (S1.new hp ⟨vs, rfl, o1⟩) rfl⟩
/-- tests -/
theorem wt_test {Q : Bool → MH → Prop} (h : W K te ρ M fun s M1 => ∃ b, s = .bl b ∧ Q b M1) : WT K (tTest te) ρ M Q := fun σ B H hR hS Q0 k =>
  h σ B H hR hS _ fun s v M1 B1 H1 ⟨b, e, q⟩ e1 S1 o1 => by
    subst e
    exact ⟨b, of_bl o1, k b M1 B1 H1 q e1 S1⟩
theorem wt_B {Q : Bool → MH → Prop} (h : W K te ρ M fun s M1 => ∃ b, s = .bl b ∧ Q b M1) : WT K (tB te) ρ M Q := fun σ B H hR hS Q0 k =>
  h σ B H hR hS _ fun s v M1 B1 H1 ⟨b, e, q⟩ e1 S1 o1 => by
    subst e
    exact ⟨b, of_bl o1, k b M1 B1 H1 q e1 S1⟩
theorem wt_and {t u : TT} {Q : Bool → MH → Prop} (h : WT K t ρ M fun b M1 => if b = true then WT K u ρ M1 Q else Q false M1) : WT K (tAnd t u) ρ M Q := fun σ B H hR hS Q0 k =>
  h σ B H hR hS _ fun b M1 B1 H1 q e1 S1 => by
    cases b with
    | true => exact q σ B1 H1 (hR.mono e1) S1 Q0 fun b2 M2 B2 H2 q2 e2 S2 => k b2 M2 B2 H2 q2 (e1.trans e2) S2
    | false => exact k false M1 B1 H1 q e1 S1
theorem wt_or {t u : TT} {Q : Bool → MH → Prop} (h : WT K t ρ M fun b M1 => if b = true then Q true M1 else WT K u ρ M1 Q) : WT K (tOr t u) ρ M Q := fun σ B H hR hS Q0 k =>
  h σ B H hR hS _ fun b M1 B1 H1 q e1 S1 => by
    cases b with
    | false => exact q σ B1 H1 (hR.mono e1) S1 Q0 fun b2 M2 B2 H2 q2 e2 S2 => k b2 M2 B2 H2 q2 (e1.trans e2) S2
    | true => exact k true M1 B1 H1 q e1 S1
theorem wt_not {t : TT} {Q : Bool → MH → Prop} (h : WT K t ρ M fun b M1 => Q (!b) M1) : WT K (tNot t) ρ M Q := fun σ B H hR hS Q0 k =>
  h σ B H hR hS _ fun b M1 B1 H1 q e1 S1 => k _ M1 B1 H1 q e1 S1
theorem w_if {t : TT} (h : WT K t ρ M fun b M1 => if b = true then W K ta ρ M1 Q else W K tb ρ M1 Q) : W K (tIf t ta tb) ρ M Q := fun σ B H hR hS Q0 k =>
  h σ B H hR hS _ fun b M1 B1 H1 q e1 S1 => by
    cases b with
    | true => exact q σ B1 H1 (hR.mono e1) S1 Q0 fun s v M2 B2 H2 q2 e2 S2 o2 => k s v M2 B2 H2 q2 (e1.trans e2) S2 o2
    | false => exact q σ B1 H1 (hR.mono e1) S1 Q0 fun s v M2 B2 H2 q2 e2 S2 o2 => k s v M2 B2 H2 q2 (e1.trans e2) S2 o2
theorem w_andV (h : W K ta ρ M fun s M1 => ∃ b, s = .bl b ∧ if b = true then W K tb ρ M1 Q else Q (.bl false) M1) : W K (tAndV ta tb) ρ M Q := fun σ B H hR hS Q0 k =>
  h σ B H hR hS _ fun s v M1 B1 H1 ⟨b, e, q⟩ e1 S1 o1 => by
    subst e
    refine ⟨b, of_bl o1, ?_⟩
    cases b with
    | true => exact q σ B1 H1 (hR.mono e1) S1 Q0 fun s v M2 B2 H2 q2 e2 S2 o2 => k s v M2 B2 H2 q2 (e1.trans e2) S2 o2
    | false => exact k _ _ M1 B1 H1 q e1 S1 slok_bl
theorem w_orV (h : W K ta ρ M fun s M1 => ∃ b, s = .bl b ∧ if b = true then Q (.bl true) M1 else W K tb ρ M1 Q) : W K (tOrV ta tb) ρ M Q := fun σ B H hR hS Q0 k =>
  h σ B H hR hS _ fun s v M1 B1 H1 ⟨b, e, q⟩ e1 S1 o1 => by
    subst e
    refine ⟨b, of_bl o1, ?_⟩
    cases b with
    | false => exact q σ B1 H1 (hR.mono e1) S1 Q0 fun s v M2 B2 H2 q2 e2 S2 o2 => k s v M2 B2 H2 q2 (e1.trans e2) S2 o2
    | true => exact k _ _ M1 B1 H1 q e1 S1 slok_bl
theorem w_notV (h : W K ta ρ M fun s M1 => ∃ b, s = .bl b ∧ Q (.bl (!b)) M1) : W K (tNotV ta) ρ M Q := fun σ B H hR hS Q0 k =>
  h σ B H hR hS _ fun s v M1 B1 H1 ⟨b, e, q⟩ e1 S1 o1 => by
    subst e
    exact ⟨b, of_bl o1, k _ _ M1 B1 H1 q e1 S1 slok_bl⟩
theorem w_chain (h : W K ta ρ M fun x M1 => W K tb ρ M1 fun y M2 => W2 K r x y M2 fun z M3 => ∃ b, z = .bl b ∧ if b = true then W K tc ρ M3 fun w M4 => W2 K r' y w M4 Q else Q (.bl false) M3) :
    W K (tChain r r' ta tb tc) ρ M Q := fun σ B H hR hS Q0 k =>
  h σ B H hR hS _ fun x v M1 B1 H1 hb e1 S1 o1 => hb σ B1 H1 (hR.mono e1) S1 _ fun y w M2 B2 H2 hr e2 S2 o2 =>
    hr B2 H2 v w S2 (o1.mono e2) o2 _ fun s z M3 B3 H3 ⟨b, eb, q⟩ e3 S3 o3 => by
      subst eb
      refine ⟨b, of_bl o3, ?_⟩
      cases b with
      | true =>
        show tc σ H3 _
        exact q σ B3 H3 (hR.mono ((e1.trans e2).trans e3)) S3 _ fun y' w' M4 B4 H4 q4 e4 S4 o4 => q4 B4 H4 w w' S4 (o2.mono (e3.trans e4)) o4 Q0 fun s5 z5 M5 B5 H5 q5 e5 S5 o5 => k s5 z5 M5 B5 H5 q5 ((((e1.trans e2).trans e3).trans e4).trans e5) S5 o5
      | false =>
        show Q0 (.bl false) H3
        exact k _ _ M3 B3 H3 q ((e1.trans e2).trans e3) S3 slok_bl
/-- slices -/
theorem wo_none {Q : Option Int → MH → Prop} (q : Q none M) : WO K tNoPart ρ M Q := fun σ B H hR hS Q0 k => k none M B H q (Same.refl B) hS
theorem wo_some {Q : Option Int → MH → Prop} (h : W K te ρ M fun s M1 => ∃ i, s = .int i ∧ Q (some i) M1) : WO K (tPart te) ρ M Q := fun σ B H hR hS Q0 k =>
  h σ B H hR hS _ fun s v M1 B1 H1 ⟨i, e, q⟩ e1 S1 o1 => by
    subst e
    exact ⟨i, of_int o1, k _ M1 B1 H1 q e1 S1⟩
theorem w_sl {r : V → Option Int → Option Int → Hp → VK → Prop} {tl th : TO} (h : W K te ρ M fun x M1 => WO K tl ρ M1 fun lo M2 => WO K th ρ M2 fun hi M3 => WSl K r x lo hi M3 Q) : W K (tSl r te tl th) ρ M Q := fun σ B H hR hS Q0 k =>
  h σ B H hR hS _ fun x v M1 B1 H1 h1 e1 S1 o1 => h1 σ B1 H1 (hR.mono e1) S1 _ fun lo M2 B2 H2 h2 e2 S2 => h2 σ B2 H2 (hR.mono (e1.trans e2)) S2 _ fun hi M3 B3 H3 h3 e3 S3 =>
    h3 B3 H3 v S3 (o1.mono (e2.trans e3)) Q0 fun s z M4 B4 H4 q e4 S4 o4 => k s z M4 B4 H4 q (((e1.trans e2).trans e3).trans e4) S4 o4
/-- methods of built-in types -/
theorem w_bm {T : String} {r : V → List V → Hp → VK → Prop} {t : TA} (h : W K ta ρ M fun x M1 => (∀ B H v, Sep K B M1 H → SlOk K B v x → tyV K T v H) ∧ WA K t ρ M1 fun xs M2 => WM K r x xs M2 Q) : W K (tBM K T r ta t) ρ M Q := fun σ B H hR hS Q0 k =>
  h σ B H hR hS _ fun x v M1 B1 H1 ⟨ht, h1⟩ e1 S1 o1 => ⟨ht B1 H1 v S1 o1, h1 σ B1 H1 (hR.mono e1) S1 _ fun xs vs M2 B2 H2 h2 e2 S2 o2 =>
    h2 B2 H2 v vs S2 (o1.mono e2) o2 Q0 fun s z M4 B4 H4 q e4 S4 o4 => k s z M4 B4 H4 q ((e1.trans e2).trans e4) S4 o4⟩
theorem w_bm0 {T : String} {r : V → List V → Hp → VK → Prop} (h : W K ta ρ M fun x M1 => (∀ B H v, Sep K B M1 H → SlOk K B v x → tyV K T v H) ∧ WM K r x [] M1 Q) : W K (tBM0 K T r ta) ρ M Q := fun σ B H hR hS Q0 k =>
  h σ B H hR hS _ fun x v M1 B1 H1 ⟨ht, h1⟩ e1 S1 o1 => ⟨ht B1 H1 v S1 o1, h1 B1 H1 v [] S1 o1 .nil Q0 fun s z M4 B4 H4 q e4 S4 o4 => k s z M4 B4 H4 q (e1.trans e4) S4 o4⟩
theorem ty_lst {s : Sl} {xs : List Sl} (h : LsV K s M xs) : ∀ B H v, Sep K B M H → SlOk K B v s → tyV K "list" v H := fun B H v S o => by
  obtain ⟨a, vs, e, hq, _⟩ := h.get S o
  subst e
  exact .inl ⟨rfl, _, hq⟩
end
end Ab

set_option Elab.async false
set_option linter.all false
set_option maxRecDepth 100000
set_option  maxHeartbeats 4000000
namespace Ab
open PySem L2
section
variable {K : PySem.W.Frag} {ρ : Rho} {M : MH} {Q Q' : Sl → MH → Prop} {ta tb te tc : TE} {r r' : R2} {nx bk ct : Rho → MH → Prop} {rt : Sl → MH → Prop}

/-! ### statements -/
theorem ws_next (q : nx ρ M) : WS K tNext ρ M ⟨nx, rt, bk, ct⟩ := fun σ B H D hR hS a b c d => a ρ M σ B H q (Same.refl B) hR hS
theorem ws_break (q : bk ρ M) : WS K tBreak ρ M ⟨nx, rt, bk, ct⟩ := fun σ B H D hR hS a b c d => c ρ M σ B H q (Same.refl B) hR hS
theorem ws_cont (q : ct ρ M) : WS K tCont ρ M ⟨nx, rt, bk, ct⟩ := fun σ B H D hR hS a b c d => d ρ M σ B H q (Same.refl B) hR hS
theorem ws_seq {t u : TS} (h : WS K t ρ M ⟨fun ρ' M' => WS K u ρ' M' ⟨nx, rt, bk, ct⟩, rt, bk, ct⟩) : WS K (tSeq t u) ρ M ⟨nx, rt, bk, ct⟩ := fun σ B H D hR hS a b c d =>
  h σ B H { D with nx := u D } hR hS (fun ρ1 M1 σ1 B1 H1 q e1 R1 S1 => q σ1 B1 H1 D R1 S1 (fun ρ2 M2 σ2 B2 H2 q2 e2 => a ρ2 M2 σ2 B2 H2 q2 (e1.trans e2)) (fun s v M2 B2 H2 q2 e2 => b s v M2 B2 H2 q2 (e1.trans e2))
    (fun ρ2 M2 σ2 B2 H2 q2 e2 => c ρ2 M2 σ2 B2 H2 q2 (e1.trans e2)) (fun ρ2 M2 σ2 B2 H2 q2 e2 => d ρ2 M2 σ2 B2 H2 q2 (e1.trans e2))) b c d
theorem ws_drop (h : W K te ρ M fun _ M' => nx ρ M') : WS K (tDrop te) ρ M ⟨nx, rt, bk, ct⟩ := fun σ B H D hR hS a b c d =>
  h σ B H hR hS _ fun s v M' B' H' q e S o => a ρ M' σ B' H' q e (hR.mono e) S
theorem ws_ret (h : W K te ρ M rt) : WS K (tRet te) ρ M ⟨nx, rt, bk, ct⟩ := fun σ B H D hR hS a b c d => h σ B H hR hS _ fun s v M' B' H' q e S o => b s v M' B' H' q e S o
theorem ws_retN (h : rt .non M) : WS K tRetN ρ M ⟨nx, rt, bk, ct⟩ := fun σ B H D hR hS a b c d => b .non .non M B H h (Same.refl B) hS slok_non
theorem ws_if {t : TT} {tu tw : TS} (h : WT K t ρ M fun b M' => if b = true then WS K tu ρ M' ⟨nx, rt, bk, ct⟩ else WS K tw ρ M' ⟨nx, rt, bk, ct⟩) : WS K (tIfS t tu tw) ρ M ⟨nx, rt, bk, ct⟩ := fun σ B H D hR hS a b c d =>
  h σ B H hR hS _ fun k M1 B1 H1 q e1 S1 => by
    cases k with
    | true =>
      exact q σ B1 H1 D (hR.mono e1) S1 (fun ρ2 M2 σ2 B2 H2 q2 e2 => a ρ2 M2 σ2 B2 H2 q2 (e1.trans e2)) (fun s v M2 B2 H2 q2 e2 => b s v M2 B2 H2 q2 (e1.trans e2)) (fun ρ2 M2 σ2 B2 H2 q2 e2 => c ρ2 M2 σ2 B2 H2 q2 (e1.trans e2)) (fun ρ2 M2 σ2 B2 H2 q2 e2 => d ρ2 M2 σ2 B2 H2 q2 (e1.trans e2))
    | false =>
      exact q σ B1 H1 D (hR.mono e1) S1 (fun ρ2 M2 σ2 B2 H2 q2 e2 => a ρ2 M2 σ2 B2 H2 q2 (e1.trans e2)) (fun s v M2 B2 H2 q2 e2 => b s v M2 B2 H2 q2 (e1.trans e2)) (fun ρ2 M2 σ2 B2 H2 q2 e2 => c ρ2 M2 σ2 B2 H2 q2 (e1.trans e2)) (fun ρ2 M2 σ2 B2 H2 q2 e2 => d ρ2 M2 σ2 B2 H2 q2 (e1.trans e2))
theorem ws_asg {g : TG} (h : W K te ρ M fun s M1 => WG K g s ρ M1 nx) : WS K (tAsg te g) ρ M ⟨nx, rt, bk, ct⟩ := fun σ B H D hR hS a b c d =>
  h σ B H hR hS _ fun s v M1 B1 H1 q e1 S1 o1 => q σ B1 H1 v (hR.mono e1) S1 o1 D.nx fun ρ2 M2 σ2 B2 H2 q2 e2 R2 S2 => a ρ2 M2 σ2 B2 H2 q2 (e1.trans e2) R2 S2
theorem wg_name {i : Nat} {x : Sl} {Q : Rho → MH → Prop} (q : Q (ρ.set i (some x)) M) : WG K (gName i) x ρ M Q := fun σ B H v hR hS o Q0 k => k _ M _ B H q (Same.refl B) (Rl.put o i hR) hS
theorem ws_set {i : Nat} (h : W K te ρ M fun s M1 => nx (ρ.set i (some s)) M1) : WS K (tAsg te (gName i)) ρ M ⟨nx, rt, bk, ct⟩ := ws_asg (h.imp fun s M1 q => wg_name q)
/-- targets a, b -/
def WGs (K : PySem.W.Frag) (g : TGs) (xs : List Sl) (ρ : Rho) (M : MH) (Q : Rho → MH → Prop) : Prop :=
  ∀ σ B H vs, Rl K B σ ρ → Sep K B M H → SlAll K B vs xs → ∀ Q0 : L2.St → Hp → Prop, (∀ ρ' M' σ' B' H', Q ρ' M' → Same B B' → Rl K B' σ' ρ' → Sep K B' M' H' → Q0 σ' H') → g vs σ H Q0
theorem wgs_nil {Q : Rho → MH → Prop} (q : Q ρ M) : WGs K gNil [] ρ M Q := fun σ B H vs hR hS o Q0 k => by
  cases o
  exact ⟨rfl, k ρ M σ B H q (Same.refl B) hR hS⟩
theorem wgs_cons {g : TG} {gs : TGs} {x : Sl} {xs : List Sl} {Q : Rho → MH → Prop} (h : WG K g x ρ M fun ρ1 M1 => WGs K gs xs ρ1 M1 Q) : WGs K (gCons g gs) (x :: xs) ρ M Q := fun σ B H vs hR hS o Q0 k => by
  cases o with
  | cons o1 o2 =>
    exact ⟨_, _, rfl, h σ B H _ hR hS o1 _ fun ρ1 M1 σ1 B1 H1 q e1 R1 S1 => q σ1 B1 H1 _ R1 S1 (SlAll.mono e1 o2) Q0 fun ρ2 M2 σ2 B2 H2 q2 e2 R2 S2 => k ρ2 M2 σ2 B2 H2 q2 (e1.trans e2) R2 S2⟩
theorem wg_tup {n : Nat} {g : TGs} {x : Sl} {ds : List PyData} {Q : Rho → MH → Prop} (hx : x = .dat (.tuple ds)) (hn : ds.length = n) (h : WGs K g (ds.map .dat) ρ M Q) : WG K (gTup K n g) x ρ M Q := fun σ B H v hR hS o Q0 k => by
  subst hx
  obtain ⟨a, vs, e, hq, ha⟩ := (tpv_dat (ds := ds)).get hS o
  exact ⟨a, vs, e, hq, by rw [SlAll.len ha, List.length_map, hn], h σ B H vs hR hS ha Q0 k⟩
theorem ws_aug {i : Nat} {f : Int → Int → Int} {a : Int} (hx : ρ[i]? = some (some (.int a))) (h : W K te ρ M fun s M1 => ∃ b, s = .int b ∧ nx (ρ.set i (some (.int (f a b)))) M1) : WS K (tAug i te (ipI f)) ρ M ⟨nx, rt, bk, ct⟩ := fun σ B H D hR hS p1 p2 p3 p4 => by
  obtain ⟨v, e, o⟩ := hR.get hx
  exact ⟨v, e, h σ B H hR hS _ fun s w M1 B1 H1 ⟨b, es, q⟩ e1 S1 o1 => by
    subst es
    exact ⟨a, b, of_int o, of_int o1, p1 _ M1 _ B1 H1 q e1 (Rl.put slok_int i (hR.mono e1)) S1⟩⟩
/-- o[i] = e, a list that may change -/
theorem ws_setL {to ti : TE} (h : W K te ρ M fun s M1 => W K to ρ M1 fun o M2 => W K ti ρ M2 fun ix M3 => ∃ a xs k j, o = .raw (.ref a) ∧ ix = .int k ∧ M3 a = some (.lst xs) ∧ ixN xs.length k = some j ∧ nx ρ (um M3 a (.lst (xs.set j s)))) : WS K (tAsg te (gSub to ti rSetL)) ρ M ⟨nx, rt, bk, ct⟩ := fun σ B H D hR hS p1 p2 p3 p4 =>
  h σ B H hR hS _ fun s v M1 B1 H1 h1 e1 S1 o1 => h1 σ B1 H1 (hR.mono e1) S1 _ fun o w M2 B2 H2 h2 e2 S2 o2 => h2 σ B2 H2 (hR.mono (e1.trans e2)) S2 _ fun ix u M3 B3 H3 ⟨a, xs, k, j, eo, ei, hM, hj, q⟩ e3 S3 o3 => by
    subst eo ei
    obtain ⟨_, u1, hu, vs, rfl, ha⟩ := S3.has a _ hM
    have hl := SlAll.len ha
    refine ⟨a, vs, k, j, o2, of_int o3, hu, by rw [hl]; exact hj, ?_⟩
    exact p1 ρ _ σ B3 _ q ((e1.trans e2).trans e3) (hR.mono ((e1.trans e2).trans e3)) (S3.put hM ⟨_, rfl, SlAll.setI (o1.mono (e2.trans e3)) j ha⟩)
/-- o[i] += e, a list of ints -/
def rGetL (K : PySem.W.Frag) : V → V → Hp → VK → Prop := fun o i H Q => ∃ p xs k j v, o = .ref p ∧ i = .int k ∧ SqL K H p xs ∧ 0 ≤ k ∧ k.toNat = j ∧ xs[j]? = some v ∧ Q v H
theorem pget_list {X : Cx} : PGet X (rGetL X.K) := by
  intro pins s σ H o i ov iv Q I ro ri h
  obtain ⟨p, xs, k, j, v, rfl, rfl, hq, h0, hj, hv, q⟩ := h
  cases ro
  obtain ⟨t, rfl⟩ := ri
  obtain ⟨its, r, pl, fits⟩ := I.list hq
  obtain ⟨w, ew, rw'⟩ := r.get hv
  have hl := r.length
  have hn := line63
  have hjl := (List.getElem?_eq_some_iff.mp ew).1
  subst hj
  exact wpAny_getItem_list pl.isList h0 (by omega) (by simpa using ew) ⟨v, H, I, rw', q⟩
theorem ws_augL {to ti : TE} {f : Int → Int → Int} (h : W K to ρ M fun o M1 => W K ti ρ M1 fun ix M2 => ∃ a xs k x, o = .raw (.ref a) ∧ ix = .int (k : Nat) ∧ M2 a = some (.lst xs) ∧ xs[k]? = some (.int x) ∧ W K te ρ M2 fun s M3 => ∃ b, s = .int b ∧ M3 a = some (.lst xs) ∧ nx ρ (um M3 a (.lst (xs.set k (.int (f x b)))))) :
    WS K (tAugS to ti te (rGetL K) (ipI f) rSetL) ρ M ⟨nx, rt, bk, ct⟩ := fun σ B H D hR hS p1 p2 p3 p4 =>
  h σ B H hR hS _ fun o v M1 B1 H1 h1 e1 S1 o1 => h1 σ B1 H1 (hR.mono e1) S1 _ fun ix w M2 B2 H2 ⟨a, xs, k, x, eo, ei, hM, hx, h2⟩ e2 S2 o2 => by
    subst eo ei
    obtain ⟨_, u1, hu, vs, rfl, ha⟩ := S2.has a _ hM
    obtain ⟨y, hy, oy⟩ := SlAll.get ha hx
    refine ⟨a, vs, k, k, y, o1, of_int o2, SqL.of hu, by omega, by omega, hy, ?_⟩
    refine h2 σ B2 H2 (hR.mono (e1.trans e2)) S2 _ fun s z M3 B3 H3 ⟨b, es, hM3, q⟩ e3 S3 o3 => ?_
    subst es
    obtain ⟨_, u3, hu3, vs3, rfl, ha3⟩ := S3.has a _ hM3
    have hk : k < xs.length := (List.getElem?_eq_some_iff.mp hx).1
    have hl := SlAll.len ha3
    refine ⟨x, b, of_int oy, of_int o3, a, vs3, k, k, o1, of_int o2, hu3, ?_, ?_⟩
    · unfold ixN
      iterate 2 rw [if_pos (by omega)]
      simp
    · exact p1 ρ _ σ B3 _ q ((e1.trans e2).trans e3) (hR.mono ((e1.trans e2).trans e3)) (S3.put hM3 ⟨_, rfl, SlAll.setI slok_int k ha3⟩)
/-- less is known -/
theorem ws_weak {t : TS} (i : Nat) (h : WS K t (ρ.set i none) M ⟨nx, rt, bk, ct⟩) : WS K t ρ M ⟨nx, rt, bk, ct⟩ := fun σ B H D hR hS => h σ B H D (hR.less i) hS
theorem ws_del {t : TS} (a : Addr) (h : WS K t ρ (del M a) ⟨nx, rt, bk, ct⟩) : WS K t ρ M ⟨nx, rt, bk, ct⟩ := fun σ B H D hR hS => h σ B H D hR hS.drop
/-- a list of ours will not be changed any more -/
theorem ws_freeze {t : TS} {i : Nat} {a : Addr} {ds : List PyData} (hi : ρ[i]? = some (some (.raw (.ref a)))) (hM : M a = some (.lst (ds.map .dat))) (h : WS K t (ρ.set i (some (.dat (.list ds)))) (del M a) ⟨nx, rt, bk, ct⟩) : WS K t ρ M ⟨nx, rt, bk, ct⟩ := fun σ B H D hR hS p1 p2 p3 p4 => by
  obtain ⟨hB, u, hu, vs, rfl, ha⟩ := hS.has a _ hM
  have e : Same B (upd B a (.lst vs)) := same_new hB
  have S' := hS.freeze hM hu
  have o : SlOk K (upd B a (.lst vs)) (.ref a) (.dat (.list ds)) := Dq.lst (Rd.of upd_same) (dpa_same e _ _ (dpa_of ha))
  obtain ⟨v, hv, ov⟩ := hR.get hi
  have ev : v = .ref a := ov
  subst ev
  have hR' := Rl.put o i (hR.mono e)
  have hσ : σ.set i (some (.ref a)) = σ := by
    obtain ⟨h1, h2⟩ := List.getElem?_eq_some_iff.mp hv
    rw [← h2]
    exact List.set_getElem_self h1
  rw [hσ] at hR'
  exact h σ _ H D hR' S' (fun ρ2 M2 σ2 B2 H2 q2 e2 => p1 ρ2 M2 σ2 B2 H2 q2 (e.trans e2)) (fun s v M2 B2 H2 q2 e2 => p2 s v M2 B2 H2 q2 (e.trans e2)) (fun ρ2 M2 σ2 B2 H2 q2 e2 => p3 ρ2 M2 σ2 B2 H2 q2 (e.trans e2)) (fun ρ2 M2 σ2 B2 H2 q2 e2 => p4 ρ2 M2 σ2 B2 H2 q2 (e.trans e2))

/-! ### operations -/
theorem w2_i0 {f : Int → Int → Int} {i j : Int} (q : Q (.int (f i j)) M) : W2 K (rI0 fun i j => .int (f i j)) (.int i) (.int j) M Q := fun B H v w hS h1 h2 Q0 k => ⟨i, j, of_int h1, of_int h2, k _ _ M B H q (Same.refl B) hS slok_int⟩
theorem w2_b0 {f : Int → Int → Bool} {i j : Int} (q : Q (.bl (f i j)) M) : W2 K (rI0 fun i j => .bl (f i j)) (.int i) (.int j) M Q := fun B H v w hS h1 h2 Q0 k => ⟨i, j, of_int h1, of_int h2, k _ _ M B H q (Same.refl B) hS slok_bl⟩
theorem w2_i {C : Int → Int → Prop} {f : Int → Int → Int} {i j : Int} (hc : C i j) (q : Q (.int (f i j)) M) : W2 K (rI C fun i j => .int (f i j)) (.int i) (.int j) M Q := fun B H v w hS h1 h2 Q0 k => ⟨i, j, of_int h1, of_int h2, hc, k _ _ M B H q (Same.refl B) hS slok_int⟩
theorem w1_neg {i : Int} (q : Q (.int (-i)) M) : W1 K (rU fun i => .int (-i)) (.int i) M Q := fun B H v hS h1 Q0 k => ⟨i, of_int h1, k _ _ M B H q (Same.refl B) hS slok_int⟩
theorem w2_eq {d e : PyData} (h1 : SeqAt.shaped d = true) (h2 : SeqAt.shaped e = true) (q : Q (.bl (PyData.eqv d e)) M) : W2 K (rEqD K) (.dat d) (.dat e) M Q := fun B H v w hS o1 o2 Q0 k =>
  ⟨d, e, dq_dp _ _ (dp_same hS.sub _ _ o1), dq_dp _ _ (dp_same hS.sub _ _ o2), h1, h2, k _ _ M B H q (Same.refl B) hS slok_bl⟩
theorem w2_ne {d e : PyData} (h1 : SeqAt.shaped d = true) (h2 : SeqAt.shaped e = true) (q : Q (.bl (!PyData.eqv d e)) M) : W2 K (rNeD K) (.dat d) (.dat e) M Q := fun B H v w hS o1 o2 Q0 k =>
  ⟨d, e, dq_dp _ _ (dp_same hS.sub _ _ o1), dq_dp _ _ (dp_same hS.sub _ _ o2), h1, h2, k _ _ M B H q (Same.refl B) hS slok_bl⟩
theorem w2_in {d : PyData} {ds : List PyData} (h1 : SeqAt.shaped d = true) (h2 : SeqAt.shaped (.list ds) = true) (q : Q (.bl (ds.any fun z => PyData.eqv z d)) M) : W2 K (rInD K) (.dat d) (.dat (.list ds)) M Q := fun B H v w hS o1 o2 Q0 k =>
  ⟨d, ds, dq_dp _ _ (dp_same hS.sub _ _ o1), dq_dp _ _ (dp_same hS.sub _ _ o2), h1, h2, k _ _ M B H q (Same.refl B) hS slok_bl⟩
theorem w2_notIn {d : PyData} {ds : List PyData} (h1 : SeqAt.shaped d = true) (h2 : SeqAt.shaped (.list ds) = true) (q : Q (.bl (!ds.any fun z => PyData.eqv z d)) M) : W2 K (rNotInD K) (.dat d) (.dat (.list ds)) M Q := fun B H v w hS o1 o2 Q0 k =>
  ⟨d, ds, dq_dp _ _ (dp_same hS.sub _ _ o1), dq_dp _ _ (dp_same hS.sub _ _ o2), h1, h2, k _ _ M B H q (Same.refl B) hS slok_bl⟩
/-- is None, is not None -/
def rIsN : R2 := fun u z H Q => z = .non ∧ Q (.bl (decide (u = .non))) H
def rNotN : R2 := fun u z H Q => z = .non ∧ Q (.bl (!decide (u = .non))) H
def isNon : PyData → Bool
  | .none => true
  | _ => false
theorem dp_non {B : Hp} {v : V} {d : PyData} (h : Dq K B v d) : decide (v = .non) = isNon d := by
  cases h <;> first | rfl | exact decide_eq_false (fun e => nomatch e)
theorem w2_isN {d : PyData} (q : Q (.bl (isNon d)) M) : W2 K rIsN (.dat d) .non M Q := fun B H v w hS o1 o2 Q0 k => ⟨of_non o2, by
  rw [dp_non o1]
  exact k _ _ M B H q (Same.refl B) hS slok_bl⟩
theorem w2_notN {d : PyData} (q : Q (.bl (!isNon d)) M) : W2 K rNotN (.dat d) .non M Q := fun B H v w hS o1 o2 Q0 k => ⟨of_non o2, by
  rw [dp_non o1]
  exact k _ _ M B H q (Same.refl B) hS slok_bl⟩
/-- xs[i], t[i], s[i] -/
theorem atI_map {α β : Type} (f : α → β) (xs : List α) (i : Int) : atI (xs.map f) i = (atI xs i).map f := by
  unfold atI
  rw [List.length_map]
  cases ixN xs.length i with
  | none => rfl
  | some j => simp
theorem slall_atI {B : Hp} {vs : List V} {ss : List Sl} {s : Sl} {i : Int} (h : SlAll K B vs ss) (e : atI ss i = some s) : ∃ v, atI vs i = some v ∧ SlOk K B v s := by
  unfold atI at e ⊢
  rw [SlAll.len h]
  cases hj : ixN ss.length i with
  | none => rw [hj] at e; cases e
  | some j =>
    rw [hj] at e
    exact SlAll.get h e
theorem w2_ixL {s x : Sl} {xs : List Sl} {i : Int} (hs : LsV K s M xs) (hx : atI xs i = some x) (q : Q x M) : W2 K (rIxL K) s (.int i) M Q := fun B H v w hS o1 o2 Q0 k => by
  obtain ⟨a, vs, rfl, hq, ha⟩ := hs.get hS o1
  obtain ⟨z, hz, oz⟩ := slall_atI ha hx
  exact ⟨a, vs, i, z, rfl, of_int o2, hq, hz, k x z M B H q (Same.refl B) hS oz⟩
theorem w2_ixT {d : PyData} {ds : List PyData} {i : Int} (hx : atI ds i = some d) (q : Q (.dat d) M) : W2 K (rIxT K) (.dat (.tuple ds)) (.int i) M Q := fun B H v w hS o1 o2 Q0 k => by
  obtain ⟨a, vs, rfl, hq, ha⟩ := (tpv_dat (ds := ds)).get hS o1
  obtain ⟨z, hz, oz⟩ := slall_atI (s := .dat d) ha (by rw [atI_map, hx]; rfl)
  exact ⟨a, vs, i, z, rfl, of_int o2, hq, hz, k _ z M B H q (Same.refl B) hS oz⟩
theorem w2_ixS {z : Str} {i : Int} {c : Nat} (hz : z.length ≤ 100000) (hx : atI z.cps.toList i = some c) (q : Q (.str ⟨#[c]⟩) M) : W2 K rIxS (.str z) (.int i) M Q := fun B H v w hS o1 o2 Q0 k =>
  ⟨z, i, c, of_str o1, of_int o2, Nat.le_trans hz (by decide), hx, k _ _ M B H q (Same.refl B) hS slok_str⟩
/-- xs + ys, lists that are read -/
def rCatL (K : PySem.W.Frag) : R2 := fun x y H Q => ∃ l b xs zs, x = .ref l ∧ y = .ref b ∧ SqL K H l xs ∧ SqL K H b zs ∧ xs.length + zs.length ≤ sizeLine ∧ ∀ p, H p = none → Q (.ref p) (upd H p (.lst (xs ++ zs)))
theorem op_catL {X : Cx} : OpR X (binaryOp .Add) (rCatL X.K) := fun pins s σ H x y v u Q I rx ry ⟨l, m, us, ws, e1, e2, hU, hW, hz, q⟩ => by
  subst e1 e2
  cases rx
  cases ry
  have sizes : us.length + ws.length ≤ sizeLine := hz
  obtain ⟨is, r, ⟨⟨_, _, _, sl⟩, n, ho, hc, hdn, hd⟩, _⟩ := I.list hU
  obtain ⟨js, r2, ⟨⟨_, _, _, sl2⟩, n2, ho2, hc2, hdn2, hd2⟩, _⟩ := I.list hW
  simp only at hc hd hdn hc2 hd2 hdn2
  subst hc hd hdn hc2 hd2 hdn2
  have k1 := r.length
  have k2 := r2.length
  refine concat_meets ⟨_, ho, rfl⟩ ⟨_, ho2, rfl⟩ PySem.noFill_list_add PySem.seq_list_add PySem.F.slot_list_add PySem.F.entry_list_add (PySem.F.args_list_add_2 _ _) (PyProof.Rows.list_addW l m is.toArray js.toArray n n2 none none sl sl2 (by simp; omega)) ⟨ho, ho2, ?_⟩
  rw [show is.toArray ++ js.toArray = (is ++ js).toArray by simp]
  exact ⟨.ref _, _, I.lnew (t' := s.toks) (r.append r2) (by simp; omega), rfl, q _ I.fresh⟩
theorem lst_ok {B : Hp} {p : Addr} {vs : List V} {ds : List PyData} (h : DqAll K B vs ds) (hp : B p = none) : SlOk K (upd B p (.lst vs)) (.ref p) (.dat (.list ds)) := Dq.lst (Rd.of upd_same) (dpa_same (same_new hp) _ _ h)
theorem tup_ok {B : Hp} {p : Addr} {vs : List V} {ds : List PyData} (h : DqAll K B vs ds) (hp : B p = none) : SlOk K (upd B p (.tup vs)) (.ref p) (.dat (.tuple ds)) := Dq.tup (SqT.of upd_same) (dpa_same (same_new hp) _ _ h)
theorem w2_cat {s t : Sl} {ds es : List PyData} (h1 : LsV K s M (ds.map .dat)) (h2 : LsV K t M (es.map .dat)) (hl : ds.length + es.length ≤ 100000) (q : Q (.dat (.list (ds ++ es))) M) : W2 K (rCatL K) s t M Q := fun B H v w hS o1 o2 Q0 k => by
  obtain ⟨a, vs, rfl, hq, ha⟩ := h1.get hS o1
  obtain ⟨b, ws, rfl, hq2, ha2⟩ := h2.get hS o2
  have l1 := SlAll.len ha
  have l2 := SlAll.len ha2
  rw [List.length_map] at l1 l2
  refine ⟨a, b, vs, ws, rfl, rfl, hq, hq2, Nat.le_trans (by omega) (show 100000 ≤ sizeLine by decide), fun p hp => ?_⟩
  exact k _ _ M (upd B p (.lst (vs ++ ws))) _ q (same_new (hS.freeB hp)) (hS.alloc hp) (lst_ok (DqAll.app (dpa_of ha) (dpa_of ha2)) (hS.freeB hp))
/-- [x] * n -/
def repD (ds : List PyData) (n : Nat) : List PyData := (List.replicate n ds).flatten
theorem dpa_rep {B : Hp} {vs : List V} {ds : List PyData} (h : DqAll K B vs ds) : ∀ n : Nat, DqAll K B (List.replicate n vs).flatten (repD ds n)
  | 0 => .nil
  | n + 1 => by
    unfold repD
    simp only [List.replicate_succ, List.flatten_cons]
    exact DqAll.app h (dpa_rep h n)
/-- a list that is read, times an int -/
def rRepL : R2 := fun x y H Q => ∃ l k xs, x = .ref l ∧ y = .int k ∧ Rd H l (.lst xs) ∧ -(2 ^ 63) ≤ k ∧ k < 2 ^ 63 ∧ xs.length * k.toNat ≤ sizeLine ∧ ∀ p, H p = none → Q (.ref p) (upd H p (.lst (List.replicate k.toNat xs).flatten))
theorem rep_arr (r : List Value) (m : Nat) : (List.replicate (if r.toArray.isEmpty = true then 0 else m) r.toArray).foldl (· ++ ·) #[] = (List.replicate m r).flatten.toArray := by
  have all : (List.replicate m r.toArray).foldl (· ++ ·) #[] = (List.replicate m r).flatten.toArray := by simpa using foldl_rep r m []
  match r, all with
  | [], _ => simp
  | _ :: _, e => rw [if_neg (by simp)]; exact e
theorem op_repL {X : Cx} : OpR X (binaryOp .Mult) rRepL := fun pins s σ H x y v u Q I rx ry ⟨l, n, vs, e1, e2, hR, n1, n2, hn, q⟩ => by
  subst e1 e2
  cases rx
  obtain ⟨t, rfl⟩ := ry
  obtain ⟨_, rs, m, r, o⟩ := hR.ok I.hok
  have sz : rs.toArray.size * n.toNat ≤ sizeLine := by simpa [← r.length] using hn
  have big : (sizeLine : Nat) ≤ (2 ^ 63 - 1) / 8 := by decide
  have call := AutoListH.list___mul___list_int_3 l rs.toArray m n t (by rw [fitsIndex_both n1 n2]; simp) (by omega) (by rw [notLongL sz]; simp)
  refine wpAny_binaryOp_repeat_ref (T := "list") (U := "int") (by decide) ⟨_, o, rfl⟩ (fun z => typeIs_int z n t) PySem.noFill_list_mul F.fills_int_mul F.slot_int_rmul PySem.repeat_list F.slot_int_index.lookup ?_
  refine call_meets F.slot_int_rmul (typeIs_int s n t) F.entry_int_rmul (F.args_int_rmul_2 _ _) (int___rmul___int_list n t l rs.toArray m) ⟨o, rfl, ⟨_, o, rfl⟩, ?_⟩
  refine call_meets F.slot_list_mul ⟨_, o, rfl⟩ F.entry_list_mul (F.args_list_mul_2 _ _) call ⟨o, ?_⟩
  rw [show List.foldl (fun x1 x2 => x1 ++ x2) #[] (List.replicate (if rs.toArray.isEmpty = true then 0 else n.toNat) rs.toArray) = _ from rep_arr rs n.toNat]
  have fit : (List.replicate n.toNat vs).flatten.length ≤ sizeLine := by simpa [Nat.mul_comm] using hn
  exact ⟨.ref _, _, I.lnew (t' := s.toks) (r.rep n.toNat) fit, rfl, q _ I.fresh⟩
theorem w2_rep {s : Sl} {ds : List PyData} {i : Int} (h : LsR s M (ds.map .dat)) (i1 : -(2 ^ 63) ≤ i) (i2 : i < 2 ^ 63) (hl : ds.length * i.toNat ≤ 100000) (q : Q (.dat (.list (repD ds i.toNat))) M) : W2 K rRepL s (.int i) M Q := fun B H v w hS o1 o2 Q0 k => by
  obtain ⟨a, vs, rfl, hq, ha⟩ := h.get hS o1
  have l1 := SlAll.len ha
  rw [List.length_map] at l1
  refine ⟨a, i, vs, rfl, of_int o2, hq, i1, i2, Nat.le_trans (by rw [l1]; exact hl) (show 100000 ≤ sizeLine by decide), fun p hp => ?_⟩
  exact k _ _ _ (upd B p (.lst (List.replicate i.toNat vs).flatten)) _ q (same_new (hS.freeB hp)) (hS.alloc hp) (lst_ok (dpa_rep (dpa_of ha) _) (hS.freeB hp))
/-- xs[lo:hi] -/
def cutG {α : Type} (xs : List α) (lo hi : Option Int) : List α := (xs.drop (HT.sIx xs.length 0 lo)).take (HT.sIx xs.length xs.length hi - HT.sIx xs.length 0 lo)
theorem cutG_map {α β : Type} (f : α → β) (xs : List α) (lo hi : Option Int) : cutG (xs.map f) lo hi = (cutG xs lo hi).map f := by
  unfold cutG
  rw [List.length_map, List.map_take, List.map_drop]
theorem dpa_cut {B : Hp} {vs : List V} {ds : List PyData} (h : DqAll K B vs ds) (lo hi : Option Int) : DqAll K B (cutV vs lo hi) (cutG ds lo hi) := by
  unfold cutV cutG
  rw [DqAll.length h]
  exact DqAll.take _ (DqAll.drop _ h)
theorem wsl_lst {s : Sl} {ds : List PyData} {lo hi : Option Int} (h : LsV K s M (ds.map .dat)) (q : Q (.dat (.list (cutG ds lo hi))) M) : WSl K (rSlL K) s lo hi M Q := fun B H v hS o Q0 k => by
  obtain ⟨a, vs, rfl, hq, ha⟩ := h.get hS o
  exact ⟨a, vs, rfl, hq, fun p hp => k _ _ M (upd B p (.lst (cutV vs lo hi))) _ q (same_new (hS.freeB hp)) (hS.alloc hp) (lst_ok (dpa_cut (dpa_of ha) lo hi) (hS.freeB hp))⟩
theorem dpa_rev {B : Hp} : ∀ {vs : List V} {ds : List PyData}, DqAll K B vs ds → DqAll K B vs.reverse ds.reverse
  | _, _, .nil => .nil
  | _, _, .cons h t => by
    simp only [List.reverse_cons]
    exact DqAll.app (dpa_rev t) (.cons h .nil)
/-- xs[::-1] -/
theorem w_rev (h : W K ta ρ M fun s M1 => ∃ ds : List PyData, LsV K s M1 (ds.map .dat) ∧ Q (.dat (.list ds.reverse)) M1) : W K (tRevL K ta) ρ M Q := fun σ B H hR hS Q0 k =>
  h σ B H hR hS _ fun s v M1 B1 H1 ⟨ds, hl, q⟩ e1 S1 o1 => by
    obtain ⟨a, vs, rfl, hq, ha⟩ := hl.get S1 o1
    exact ⟨a, vs, rfl, hq, fun p hp => k _ _ M1 (upd B1 p (.lst vs.reverse)) _ q (e1.trans (same_new (S1.freeB hp))) (S1.alloc hp) (lst_ok (dpa_rev (dpa_of ha)) (S1.freeB hp))⟩
/-- built-ins -/
def rLenS (K : PySem.W.Frag) : List V → Hp → VK → Prop := fun us H Q => ∃ p zs, us = [.ref p] ∧ (SqL K H p zs ∨ SqT K H p zs) ∧ Q (.int zs.length) H
def rListS (K : PySem.W.Frag) : List V → Hp → VK → Prop := fun us H Q => ∃ p zs, us = [.ref p] ∧ (SqL K H p zs ∨ SqT K H p zs) ∧ ∀ l, H l = none → Q (.ref l) (upd H l (.lst zs))
def rTupS (K : PySem.W.Frag) : List V → Hp → VK → Prop := fun xs H Q => ∃ p ys, xs = [.ref p] ∧ ((SqL K H p ys ∧ ∀ l, H l = none → Q (.ref l) (upd H l (.tup ys))) ∨ (SqT K H p ys ∧ Q (.ref p) H))
def rInt1 : List V → Hp → VK → Prop := fun xs H Q => (∃ i, xs = [.int i] ∧ Q (.int i) H) ∨ ∃ k, xs = [.bl k] ∧ Q (.int (if k then 1 else 0)) H
theorem wl_len {s : Sl} {xs : List Sl} (h : LsV K s M xs) (q : Q (.int (xs.length : Int)) M) : WL K (rLenS K) [s] M Q := fun B H vs hS o Q0 k => by
  cases o with
  | cons o1 o2 =>
    cases o2
    obtain ⟨a, ws, rfl, hq, ha⟩ := h.get hS o1
    refine ⟨a, ws, rfl, .inl hq, ?_⟩
    rw [SlAll.len ha]
    exact k _ _ M B H q (Same.refl B) hS slok_int
theorem wl_lenT {s : Sl} {xs : List Sl} (h : TpV s xs) (q : Q (.int (xs.length : Int)) M) : WL K (rLenS K) [s] M Q := fun B H vs hS o Q0 k => by
  cases o with
  | cons o1 o2 =>
    cases o2
    obtain ⟨a, ws, rfl, hq, ha⟩ := h.get hS o1
    refine ⟨a, ws, rfl, .inr hq, ?_⟩
    rw [SlAll.len ha]
    exact k _ _ M B H q (Same.refl B) hS slok_int
theorem wl_list {s : Sl} {ds : List PyData} (h : LsV K s M (ds.map .dat) ∨ TpV s (ds.map .dat)) (q : Q (.dat (.list ds)) M) : WL K (rListS K) [s] M Q := fun B H vs hS o Q0 k => by
  cases o with
  | cons o1 o2 =>
    cases o2
    rcases h with h | h
    · obtain ⟨a, ws, rfl, hq, ha⟩ := h.get hS o1
      exact ⟨a, ws, rfl, .inl hq, fun p hp => k _ _ M (upd B p (.lst ws)) _ q (same_new (hS.freeB hp)) (hS.alloc hp) (lst_ok (dpa_of ha) (hS.freeB hp))⟩
    · obtain ⟨a, ws, rfl, hq, ha⟩ := h.get hS o1
      exact ⟨a, ws, rfl, .inr hq, fun p hp => k _ _ M (upd B p (.lst ws)) _ q (same_new (hS.freeB hp)) (hS.alloc hp) (lst_ok (dpa_of ha) (hS.freeB hp))⟩
theorem wl_listM {s : Sl} {xs : List Sl} (h : LsV K s M xs ∨ TpV s xs) (q : ∀ p, M p = none → Q (.raw (.ref p)) (um M p (.lst xs))) : WL K (rListS K) [s] M Q := fun B H vs hS o Q0 k => by
  cases o with
  | cons o1 o2 =>
    cases o2
    rcases h with h | h
    · obtain ⟨a, ws, rfl, hq, ha⟩ := h.get hS o1
      exact ⟨a, ws, rfl, .inl hq, fun p hp => k _ _ _ B _ (q p (hS.freeM hp)) (Same.refl B) (hS.new hp ⟨ws, rfl, ha⟩) rfl⟩
    · obtain ⟨a, ws, rfl, hq, ha⟩ := h.get hS o1
      exact ⟨a, ws, rfl, .inr hq, fun p hp => k _ _ _ B _ (q p (hS.freeM hp)) (Same.refl B) (hS.new hp ⟨ws, rfl, ha⟩) rfl⟩
theorem wl_tuple {s : Sl} {ds : List PyData} (h : LsV K s M (ds.map .dat)) (q : Q (.dat (.tuple ds)) M) : WL K (rTupS K) [s] M Q := fun B H vs hS o Q0 k => by
  cases o with
  | cons o1 o2 =>
    cases o2
    obtain ⟨a, ws, rfl, hq, ha⟩ := h.get hS o1
    exact ⟨a, ws, rfl, .inl ⟨hq, fun p hp => k _ _ M (upd B p (.tup ws)) _ q (same_new (hS.freeB hp)) (hS.alloc hp) (tup_ok (dpa_of ha) (hS.freeB hp))⟩⟩
theorem wl_int {i : Int} (q : Q (.int i) M) : WL K rInt1 [.int i] M Q := fun B H vs hS o Q0 k => by
  cases o with
  | cons o1 o2 =>
    cases o2
    exact .inl ⟨i, by rw [of_int o1], k _ _ M B H q (Same.refl B) hS slok_int⟩
theorem wl_intb {b : Bool} (q : Q (.int (if b then 1 else 0)) M) : WL K rInt1 [.bl b] M Q := fun B H vs hS o Q0 k => by
  cases o with
  | cons o1 o2 =>
    cases o2
    exact .inr ⟨b, by rw [of_bl o1], k _ _ M B H q (Same.refl B) hS slok_int⟩
/-- isinstance of data, a built-in class -/
def tyD : PyData → String
  | .none => "NoneType"
  | .bool _ => "bool"
  | .int _ => "int"
  | .str _ => "str"
  | .list _ => "list"
  | .tuple _ => "tuple"
  | .dict _ => "dict"
theorem dp_ty {B H : Hp} (S : Same B H) {v : V} {d : PyData} (h : Dq K B v d) : TyX K H v (.type (tyD d)) := by
  cases h with
  | non => exact .base .non
  | bl b => exact .base (.bl b)
  | int i => exact .base (.int i)
  | str x => exact .base (.str x)
  | lst hs _ =>
    rcases hs with h | ⟨o, h⟩
    · exact .base (.lst (S _ _ h))
    · exact .base (.frz (S _ _ h))
  | tup hs _ =>
    rcases hs with (h | ⟨o, h⟩) | ⟨o, _, _, hk, hc, _⟩
    · exact .base (.tup (S _ _ h))
    · exact .fTuple (S _ _ h)
    · exact .kTuple hk hc
theorem wl_isi {d : PyData} {n : String} {b : Bool} (hb : kitB (tyD d) n = some b) (q : Q (.bl b) M) : WL K (rIsi K) [.dat d, .raw (.ty n)] M Q := fun B H vs hS o Q0 k => by
  cases o with
  | cons o1 o2 =>
    cases o2 with
    | cons o2 o3 =>
      cases o3
      obtain rfl : _ = V.ty n := o2
      exact ⟨_, .ty n, _, _, b, rfl, .ty n, dp_ty hS.sub o1, kit_ty hb, k _ _ M B H q (Same.refl B) hS slok_bl⟩
/-- xs.append(e) -/
theorem wm_append {a : Addr} {xs : List Sl} {s : Sl} (h : M a = some (.lst xs)) (hl : xs.length < 100000) (q : Q .non (um M a (.lst (xs ++ [s])))) : WM K rAppend (.raw (.ref a)) [s] M Q := fun B H v vs hS o1 o2 Q0 k => by
  cases o2 with
  | cons o2 o3 =>
    cases o3
    obtain ⟨_, u, hu, ws, rfl, ha⟩ := hS.has a _ h
    have hlen := SlAll.len ha
    obtain rfl : v = .ref a := o1
    exact ⟨a, ws, _, rfl, rfl, hu, Nat.lt_of_lt_of_le (by omega) (show 100000 ≤ sizeLine by decide), k _ _ _ B _ q (Same.refl B) (hS.put h ⟨_, rfl, SlAll.app ha (.cons o2 .nil)⟩) slok_non⟩
end
end Ab

set_option Elab.async false
set_option linter.all false
set_option maxRecDepth 100000
set_option  maxHeartbeats 4000000
namespace Ab
open PySem L2
section
variable {K : PySem.W.Frag} {ρ : Rho} {M : MH} {Q Q' : Sl → MH → Prop} {ta tb te tc : TE} {r r' : R2} {nx bk ct : Rho → MH → Prop} {rt : Sl → MH → Prop}

/-! ### what is walked -/
structure ItOk (K : PySem.W.Frag) (B : Hp) (J : It) (n : Nat) (item : Nat → Sl) (stay : MH → Prop) : Prop where
  go : ∀ i B2 M2 H2, i < n → Same B B2 → Sep K B2 M2 H2 → stay M2 → J.go i H2
  yld : ∀ i B2 M2 H2 x H3, i < n → Same B B2 → Sep K B2 M2 H2 → stay M2 → J.yld i H2 x H3 → ∃ B3, Same B2 B3 ∧ Sep K B3 M2 H3 ∧ SlOk K B3 x (item i)
  stop : ∀ i B2 M2 H2, n ≤ i → Same B B2 → Sep K B2 M2 H2 → stay M2 → J.stop i H2
def WI (K : PySem.W.Frag) (wi : TI) (ρ : Rho) (M : MH) (R : Nat → (Nat → Sl) → (MH → Prop) → MH → Prop) : Prop :=
  ∀ σ B H, Rl K B σ ρ → Sep K B M H → ∀ R0 : It → Hp → Prop, (∀ n item stay M' B' H' J, R n item stay M' → Same B B' → Sep K B' M' H' → ItOk K B' J n item stay → R0 J H') → wi σ H R0
theorem ws_for {wi : TI} {g : TG} {tb : TS} (h : WI K wi ρ M fun n item stay M1 => ∃ J : Nat → Rho → MH → Prop, J 0 ρ M1 ∧ (∀ i ρ' M', i ≤ n → J i ρ' M' → stay M') ∧
    (∀ i ρ' M', i < n → J i ρ' M' → WG K g (item i) ρ' M' fun ρ2 M2 => WS K tb ρ2 M2 ⟨J (i + 1), rt, nx, J (i + 1)⟩) ∧ ∀ ρ' M', J n ρ' M' → nx ρ' M') : WS K (tFor wi g tb) ρ M ⟨nx, rt, bk, ct⟩ := fun σ B H D hR hS a b c d =>
  h σ B H hR hS _ fun n item stay M1 B1 H1 It ⟨J, j0, js, jt, je⟩ e1 S1 ok => by
    refine ⟨fun i m σ' H' => m = n - i ∧ i ≤ n ∧ ∃ ρ' M' B', J i ρ' M' ∧ Same B1 B' ∧ Rl K B' σ' ρ' ∧ Sep K B' M' H', ⟨n, by simp, Nat.zero_le _, ρ, M1, B1, j0, Same.refl _, hR.mono e1, S1⟩, ?_⟩
    rintro i m σ' H' ⟨rfl, hi, ρ', M', B', hj, e2, R2, S2⟩
    by_cases hlt : i < n
    · refine .inr ⟨ok.go i B' M' H' hlt e2 S2 (js i ρ' M' hi hj), fun σ2 H2 => ∃ ρ2 M2 B2, J (i + 1) ρ2 M2 ∧ Same B1 B2 ∧ Rl K B2 σ2 ρ2 ∧ Sep K B2 M2 H2, fun σ2 H2 ⟨ρ2, M2, B2, q⟩ => ⟨n - (i + 1), by omega, rfl, hlt, ρ2, M2, B2, q⟩, fun x H3 y => ?_⟩
      obtain ⟨B3, e3, S3, o3⟩ := ok.yld i B' M' H' x H3 hlt e2 S2 (js i ρ' M' hi hj) y
      refine jt i ρ' M' hlt hj σ' B3 H3 x (R2.mono e3) S3 o3 _ fun ρ4 M4 σ4 B4 H4 q4 e4 R4 S4 => ?_
      have e14 : Same B1 B4 := (e2.trans e3).trans e4
      exact q4 σ4 B4 H4 _ R4 S4 (fun ρ5 M5 σ5 B5 H5 q5 e5 R5 S5 => ⟨ρ5, M5, B5, q5, e14.trans e5, R5, S5⟩) (fun s v M5 B5 H5 q5 e5 => b s v M5 B5 H5 q5 ((e1.trans e14).trans e5))
        (fun ρ5 M5 σ5 B5 H5 q5 e5 R5 S5 => a ρ5 M5 σ5 B5 H5 q5 ((e1.trans e14).trans e5) R5 S5) (fun ρ5 M5 σ5 B5 H5 q5 e5 R5 S5 => ⟨ρ5, M5, B5, q5, e14.trans e5, R5, S5⟩)
    · have ei : i = n := by omega
      subst ei
      exact .inl ⟨ok.stop i B' M' H' (Nat.le_refl _) e2 S2 (js i ρ' M' hi hj), a ρ' M' σ' B' H' (je ρ' M' hj) (e1.trans e2) R2 S2⟩
/-- a list -/
theorem wi_list {tl : TE} {R : Nat → (Nat → Sl) → (MH → Prop) → MH → Prop} (h : W K tl ρ M fun s M1 => ∃ xs, LsV K s M1 xs ∧ R xs.length (fun i => xs.getD i .non) (fun M2 => LsV K s M2 xs) M1) : WI K (iList K tl) ρ M R := fun σ B H hR hS R0 k =>
  h σ B H hR hS _ fun s v M1 B1 H1 ⟨xs, hl, q⟩ e1 S1 o1 => by
    obtain ⟨a, vs, rfl, hq, ha⟩ := hl.get S1 o1
    refine ⟨a, rfl, ⟨vs, hq⟩, k xs.length _ _ M1 B1 H1 _ q e1 S1 ⟨fun i B2 M2 H2 hi e2 S2 st => ?_, fun i B2 M2 H2 x H3 hi e2 S2 st y => ?_, fun i B2 M2 H2 hi e2 S2 st => ?_⟩⟩
    · obtain ⟨b, ws, eb, hq2, ha2⟩ := st.get S2 (o1.mono e2)
      cases eb
      obtain ⟨z, hz, _⟩ := SlAll.get ha2 (List.getElem?_eq_getElem hi)
      exact ⟨ws, z, hq2, hz⟩
    · obtain ⟨b, ws, eb, hq2, ha2⟩ := st.get S2 (o1.mono e2)
      cases eb
      obtain ⟨z, hz, oz⟩ := SlAll.get ha2 (List.getElem?_eq_getElem hi)
      obtain ⟨rfl, hy⟩ := y
      have ez : z = x := Option.some.inj (hz.symm.trans (hy ws hq2))
      subst ez
      refine ⟨B2, Same.refl _, S2, ?_⟩
      rw [List.getD_eq_getElem?_getD, List.getElem?_eq_getElem hi]
      exact oz
    · obtain ⟨b, ws, eb, hq2, ha2⟩ := st.get S2 (o1.mono e2)
      cases eb
      exact ⟨ws, hq2, by rw [SlAll.len ha2]; exact hi⟩
/-- a tuple -/
theorem wi_tup {tl : TE} {R : Nat → (Nat → Sl) → (MH → Prop) → MH → Prop} (h : W K tl ρ M fun s M1 => ∃ xs, TpV s xs ∧ R xs.length (fun i => xs.getD i .non) (fun _ => True) M1) : WI K (iTup K tl) ρ M R := fun σ B H hR hS R0 k =>
  h σ B H hR hS _ fun s v M1 B1 H1 ⟨xs, hl, q⟩ e1 S1 o1 => by
    obtain ⟨a, vs, rfl, hq, ha⟩ := hl.get S1 o1
    refine ⟨a, rfl, ⟨vs, hq⟩, k xs.length _ _ M1 B1 H1 _ q e1 S1 ⟨fun i B2 M2 H2 hi e2 S2 st => ?_, fun i B2 M2 H2 x H3 hi e2 S2 st y => ?_, fun i B2 M2 H2 hi e2 S2 st => ?_⟩⟩
    · obtain ⟨b, ws, eb, hq2, ha2⟩ := hl.get S2 (o1.mono e2)
      cases eb
      obtain ⟨z, hz, _⟩ := SlAll.get ha2 (List.getElem?_eq_getElem hi)
      exact ⟨ws, z, hq2, hz⟩
    · obtain ⟨b, ws, eb, hq2, ha2⟩ := hl.get S2 (o1.mono e2)
      cases eb
      obtain ⟨z, hz, oz⟩ := SlAll.get ha2 (List.getElem?_eq_getElem hi)
      obtain ⟨rfl, hy⟩ := y
      have ez : z = x := Option.some.inj (hz.symm.trans (hy ws hq2))
      subst ez
      refine ⟨B2, Same.refl _, S2, ?_⟩
      rw [List.getD_eq_getElem?_getD, List.getElem?_eq_getElem hi]
      exact oz
    · obtain ⟨b, ws, eb, hq2, ha2⟩ := hl.get S2 (o1.mono e2)
      cases eb
      exact ⟨ws, hq2, by rw [SlAll.len ha2]; exact hi⟩
/-- ranges -/
theorem wi_r1 {t : TA} {R : Nat → (Nat → Sl) → (MH → Prop) → MH → Prop} (h : WA K t ρ M fun xs M1 => ∃ n : Int, xs = [.int n] ∧ -(2 ^ 62) ≤ n ∧ n < 2 ^ 62 ∧ R n.toNat (fun i => .int (i : Int)) (fun _ => True) M1) : WI K (iRng1 t) ρ M R := fun σ B H hR hS R0 k =>
  h σ B H hR hS _ fun xs vs M1 B1 H1 ⟨n, e, h1, h2, q⟩ e1 S1 o1 => by
    subst e
    cases o1 with
    | cons o1 o2 =>
      cases o2
      refine ⟨n, by rw [of_int o1], h1, h2, k _ _ _ M1 B1 H1 _ q e1 S1 ⟨fun i B2 M2 H2 hi e2 S2 st => hi, fun i B2 M2 H2 x H3 hi e2 S2 st y => ?_, fun i B2 M2 H2 hi e2 S2 st => hi⟩⟩
      obtain ⟨rfl, rfl⟩ := y
      exact ⟨B2, Same.refl _, S2, by rw [Int.zero_add]; exact slok_int⟩
theorem wi_r2 {t : TA} {R : Nat → (Nat → Sl) → (MH → Prop) → MH → Prop} (h : WA K t ρ M fun xs M1 => ∃ lo n : Int, xs = [.int lo, .int n] ∧ (-(2 ^ 62) ≤ lo ∧ lo < 2 ^ 62 ∧ -(2 ^ 62) ≤ n ∧ n < 2 ^ 62) ∧ R (n - lo).toNat (fun i => .int (lo + (i : Int))) (fun _ => True) M1) : WI K (iRng2 t) ρ M R := fun σ B H hR hS R0 k =>
  h σ B H hR hS _ fun xs vs M1 B1 H1 ⟨lo, n, e, h1, q⟩ e1 S1 o1 => by
    subst e
    cases o1 with
    | cons o1 o2 =>
      cases o2 with
      | cons o2 o3 =>
        cases o3
        refine ⟨lo, n, by rw [of_int o1, of_int o2], h1, k _ _ _ M1 B1 H1 _ q e1 S1 ⟨fun i B2 M2 H2 hi e2 S2 st => hi, fun i B2 M2 H2 x H3 hi e2 S2 st y => ?_, fun i B2 M2 H2 hi e2 S2 st => hi⟩⟩
        obtain ⟨rfl, rfl⟩ := y
        exact ⟨B2, Same.refl _, S2, slok_int⟩
theorem wi_r3 {t : TA} {R : Nat → (Nat → Sl) → (MH → Prop) → MH → Prop} (h : WA K t ρ M fun xs M1 => ∃ (i j c : Int) (n : Nat), xs = [.int i, .int j, .int c] ∧ RgC i j c n ∧ R n (fun k => .int (i + (k : Int) * c)) (fun _ => True) M1) : WI K (iRng3 t) ρ M R := fun σ B H hR hS R0 k =>
  h σ B H hR hS _ fun xs vs M1 B1 H1 ⟨i, j, c, n, e, h1, q⟩ e1 S1 o1 => by
    subst e
    cases o1 with
    | cons o1 o2 =>
      cases o2 with
      | cons o2 o3 =>
        cases o3 with
        | cons o3 o4 =>
          cases o4
          refine ⟨i, j, c, n, by rw [of_int o1, of_int o2, of_int o3], h1, k _ _ _ M1 B1 H1 _ q e1 S1 ⟨fun i B2 M2 H2 hi e2 S2 st => hi, fun i B2 M2 H2 x H3 hi e2 S2 st y => ?_, fun i B2 M2 H2 hi e2 S2 st => hi⟩⟩
          obtain ⟨rfl, rfl⟩ := y
          exact ⟨B2, Same.refl _, S2, slok_int⟩
/-- for x in a list of data, by the part that was taken -/
theorem getD_map {α : Type} {enc : α → PyData} {xs : List α} {i : Nat} (h : i < xs.length) : ((xs.map enc).map Sl.dat).getD i .non = .dat (enc xs[i]) := by
  rw [List.getD_eq_getElem?_getD, List.getElem?_map, List.getElem?_map, List.getElem?_eq_getElem h]
  rfl
theorem split_at {α : Type} {xs : List α} {i : Nat} (h : i < xs.length) : xs = xs.take i ++ xs[i] :: xs.drop (i + 1) := by
  rw [List.getElem_cons_drop, List.take_append_drop]
theorem ws_forD {α : Type} {enc : α → PyData} {xs : List α} {tl : TE} {g : TG} {tb : TS} {M1 : MH} (hl : W K tl ρ M fun s M2 => s = .dat (.list (xs.map enc)) ∧ M2 = M1) (J : List α → Rho → MH → Prop) (h0 : J [] ρ M1)
    (hs : ∀ pre x post ρ' M', xs = pre ++ x :: post → J pre ρ' M' → WG K g (.dat (enc x)) ρ' M' fun ρ2 M2 => WS K tb ρ2 M2 ⟨J (pre ++ [x]), rt, nx, J (pre ++ [x])⟩) (hd : ∀ ρ' M', J xs ρ' M' → nx ρ' M') : WS K (tFor (iList K tl) g tb) ρ M ⟨nx, rt, bk, ct⟩ :=
  ws_for (wi_list (hl.imp fun s M2 ⟨e1, e2⟩ => by
    subst e1 e2
    refine ⟨_, lsv_dat, fun i => J (xs.take i), h0, fun _ _ _ _ _ => lsv_dat, fun i ρ' M' hi hj => ?_, fun ρ' M' hj => hd ρ' M' (by rwa [List.length_map, List.length_map, List.take_length] at hj)⟩
    have hi' : i < xs.length := by simpa using hi
    have q := hs (xs.take i) xs[i] (xs.drop (i + 1)) ρ' M' (split_at hi') hj
    rw [← List.take_succ_eq_append_getElem hi'] at q
    show WG K g (((xs.map enc).map Sl.dat).getD i .non) ρ' M' _
    rw [getD_map hi']
    exact q))
theorem ws_forR1 {n : Int} {t : TA} {g : TG} {tb : TS} {M1 : MH} (hl : WA K t ρ M fun xs M2 => xs = [.int n] ∧ M2 = M1) (hn : -(2 ^ 62) ≤ n ∧ n < 2 ^ 62) (J : Nat → Rho → MH → Prop) (h0 : J 0 ρ M1)
    (hs : ∀ (i : Nat) ρ' M', (i : Int) < n → J i ρ' M' → WG K g (.int (i : Int)) ρ' M' fun ρ2 M2 => WS K tb ρ2 M2 ⟨J (i + 1), rt, nx, J (i + 1)⟩) (hd : ∀ ρ' M', J n.toNat ρ' M' → nx ρ' M') : WS K (tFor (iRng1 t) g tb) ρ M ⟨nx, rt, bk, ct⟩ :=
  ws_for (wi_r1 fun σ B H hR hS Q0 k => hl σ B H hR hS Q0 fun ss vs M' B' H' ⟨e1, e2⟩ => by
    subst e1 e2
    exact k _ vs _ B' H' ⟨n, rfl, hn.1, hn.2, J, h0, fun _ _ _ _ _ => trivial, fun i ρ' M' hi hj => hs i ρ' M' (by omega) hj, hd⟩)

/-! ### comprehensions -/
/-- [te for x in ..], x the slot j; J: how many, what was made, what else stands -/
theorem w_lc {wi : TI} {tt : TT} {j : Nat} {vs : List Nat} (hj : j ∈ vs) (h : WI K wi ρ M fun n item stay M1 => ∃ J : Nat → List PyData → MH → Prop, J 0 [] M1 ∧ (∀ i acc M', i ≤ n → J i acc M' → ∀ D o, M' D = none → stay (um M' D o)) ∧
    (∀ i acc M' D, i < n → J i acc M' → M' D = none → WT K tt ((wipeR ρ vs).set j (some (item i))) (um M' D (.lst (acc.map .dat))) fun b M3 =>
      if b = true then W K te ((wipeR ρ vs).set j (some (item i))) M3 fun s M4 => ∃ d M5, s = .dat d ∧ M4 = um M5 D (.lst (acc.map .dat)) ∧ M5 D = none ∧ acc.length < 100000 ∧ J (i + 1) (acc ++ [d]) M5
      else ∃ M5, M3 = um M5 D (.lst (acc.map .dat)) ∧ M5 D = none ∧ J (i + 1) acc M5) ∧
    ∀ acc M', J n acc M' → Q (.dat (.list acc)) M') : W K (tLc wi (gName j) tt te vs) ρ M Q := fun σ B H hR hS Q0 k =>
  h σ B H hR hS _ fun n item stay M1 B1 H1 It ⟨J, j0, js, jt, je⟩ e1 S1 ok => fun D hD => by
    have hwp : ∀ x, wipe ((wipe σ vs).set j (some x)) vs = wipe σ vs := fun x => by rw [wipe_set _ _ _ _ hj, wipe_wipe]
    refine ⟨fun i m H' => m = n - i ∧ i ≤ n ∧ ∃ acc M' B', J i acc M' ∧ M' D = none ∧ Same B1 B' ∧ Sep K B' (um M' D (.lst (acc.map .dat))) H', ⟨n, by simp, Nat.zero_le _, [], M1, B1, j0, S1.freeM hD, Same.refl _, S1.new hD ⟨[], rfl, .nil⟩⟩, ?_⟩
    rintro i m H' ⟨rfl, hi, acc, M', B', hj', hMD, e2, S2⟩
    by_cases hlt : i < n
    · refine .inr ⟨ok.go i B' _ H' hlt e2 S2 (js i acc M' hi hj' D _ hMD), fun H2 => ∃ acc M2 B2, J (i + 1) acc M2 ∧ M2 D = none ∧ Same B1 B2 ∧ Sep K B2 (um M2 D (.lst (acc.map .dat))) H2, fun H2 ⟨acc, M2, B2, q⟩ => ⟨n - (i + 1), by omega, rfl, hlt, acc, M2, B2, q⟩, fun x H3 y => ?_⟩
      obtain ⟨B3, e3, S3, o3⟩ := ok.yld i B' _ H' x H3 hlt e2 S2 (js i acc M' hi hj' D _ hMD) y
      refine ⟨hwp x, ?_⟩
      have R3 : Rl K B3 ((wipe σ vs).set j (some x)) ((wipeR ρ vs).set j (some (item i))) := Rl.put o3 j ((hR.mono ((e1.trans e2).trans e3)).wiped vs)
      refine jt i acc M' D hlt hj' hMD _ B3 H3 R3 S3 _ fun b M4 B4 H4 q4 e4 S4 => ?_
      have e14 := (e2.trans e3).trans e4
      cases b with
      | true =>
        refine q4 _ B4 H4 (R3.mono e4) S4 _ fun s v M5 B5 H5 ⟨d, M6, es, em, hn6, hl6, hj6⟩ e5 S5 o5 => ?_
        subst es em
        obtain ⟨_, u, hu, ws, rfl, ha⟩ := S5.has D _ um_same
        have hlen := SlAll.len ha
        rw [List.length_map] at hlen
        refine ⟨ws, hu, Nat.lt_of_lt_of_le (by omega) (show 100000 ≤ sizeLine by decide), acc ++ [d], M6, B5, hj6, hn6, e14.trans e5, ?_⟩
        have S6 := S5.put (u := .lst (ws ++ [v])) (o' := .lst ((acc ++ [d]).map .dat)) um_same ⟨_, rfl, by rw [List.map_append]; exact SlAll.app ha (.cons o5 .nil)⟩
        rw [um_um] at S6
        exact S6
      | false =>
        obtain ⟨M5, em, hn5, hj5⟩ := q4
        subst em
        exact ⟨acc, M5, B4, hj5, hn5, e14, S4⟩
    · have ei : i = n := by omega
      subst ei
      refine .inl ⟨ok.stop i B' _ H' (Nat.le_refl _) e2 S2 (js i acc M' hi hj' D _ hMD), ?_⟩
      obtain ⟨hB, u, hu, ws, rfl, ha⟩ := S2.has D _ um_same
      have S3 := S2.freeze um_same hu
      rw [del_um hMD] at S3
      exact k _ _ M' _ H' (je acc M' hj') ((e1.trans e2).trans (same_new hB)) S3 (lst_ok (dpa_of ha) hB)
theorem wt_yes {Q : Bool → MH → Prop} (q : Q true M) : WT K tYes ρ M Q := fun σ B H hR hS Q0 k => k true M B H q (Same.refl B) hS
/-- [f(x) for x in a list of data], nothing else is touched -/
theorem w_lcD {α : Type} {enc : α → PyData} {xs : List α} {tl : TE} {j : Nat} {vs : List Nat} {M1 : MH} (hj : j ∈ vs) (hl : W K tl ρ M fun s M2 => s = .dat (.list (xs.map enc)) ∧ M2 = M1) (hz : xs.length ≤ 100000) (f : α → PyData)
    (he : ∀ x D o, x ∈ xs → M1 D = none → W K te ((wipeR ρ vs).set j (some (.dat (enc x)))) (um M1 D o) fun s M' => s = .dat (f x) ∧ M' = um M1 D o) (q : Q (.dat (.list (xs.map f))) M1) : W K (tLc (iList K tl) (gName j) tYes te vs) ρ M Q :=
  w_lc hj (wi_list (hl.imp fun s M2 ⟨e1, e2⟩ => by
    subst e1 e2
    refine ⟨_, lsv_dat, fun i acc M' => M' = M2 ∧ acc = (xs.take i).map f, ⟨rfl, by simp⟩, fun _ _ _ _ _ _ _ _ => lsv_dat, fun i acc M' D hi ⟨eM, ea⟩ hD => ?_, fun acc M' ⟨eM, ea⟩ => ?_⟩
    · subst eM ea
      have hi' : i < xs.length := by simpa using hi
      refine wt_yes ?_
      show W K te ((wipeR ρ vs).set j (some (((xs.map enc).map Sl.dat).getD i .non))) _ _
      rw [getD_map hi']
      refine (he xs[i] D _ (List.getElem_mem hi') hD).imp fun s M' ⟨e1, e2⟩ => ⟨f xs[i], _, e1, e2, hD, ?_, rfl, ?_⟩
      · rw [List.length_map, List.length_take]
        omega
      · rw [List.take_succ_eq_append_getElem hi', List.map_append]
        rfl
    · subst eM ea
      rw [List.length_map, List.length_map, List.take_length]
      exact q))
end
end Ab

set_option Elab.async false
set_option linter.all false
set_option maxRecDepth 100000
set_option  maxHeartbeats 4000000
namespace Ab
open PySem PySem.Spec PyProof.Rows L2
/-! ### defs -/
/-- what a def makes of what it is given, and of what may change -/
abbrev ASp := List Sl → MH → (Sl → MH → Prop) → Prop
def conc (K : PySem.W.Frag) (A : ASp) : Sp := fun vs H Q _ => ∃ (B : Hp) (M : MH) (ss : List Sl) (QA : Sl → MH → Prop), Sep K B M H ∧ SlAll K B vs ss ∧ A ss M QA ∧ ∀ s v M' B' H', QA s M' → Same B B' → Sep K B' M' H' → SlOk K B' v s → Q v H'
section
variable {K : PySem.W.Frag} {ρ : Rho} {M : MH} {Q Q' : Sl → MH → Prop} {ta tb te tc : TE} {P : AE}
theorem w_call {A : ASp} {E : XK} {t : TA} (h : WA K t ρ M fun ss M1 => A ss M1 Q) : W K (tCall (conc K A) [] E t) ρ M Q := fun σ B H hR hS Q0 k =>
  h σ B H hR hS _ fun ss vs M1 B1 H1 q e1 S1 o1 => ⟨B1, M1, ss, Q, S1, by rw [List.append_nil]; exact o1, q, fun s v M2 B2 H2 q2 e2 S2 o2 => k s v M2 B2 H2 q2 (e1.trans e2) S2 o2⟩
def rho0 (n : Nat) (ss : List Sl) : Rho := ss.map some ++ List.replicate (n - ss.length) none
theorem ab_ok {P : Program} {w : World} {mg : Str → Option Value} {base : Heap} {x qual : Str} {st : Stmt} {f : Addr} {fd : FuncData} {N ps : List Str} {k : Nat} {A : ASp} (F : Fun K x qual st f fd) (S : FnScope N ps (defScope st))
    (hlen : ∀ ss M Q, A ss M Q → ss.length = ps.length)
    (hb : ∀ (cdv : Value) (Ar : Around) (outer : List Env) (s : Shared) (H : Hp) (E : XK), Room k (Ar.deeper (envOfC qual (defScope st) s.heap.objs.size f cdv)) →
      ∃ t, PSs (cxOf CX0 P w K mg base N qual (defScope st) f cdv Ar outer s H E).nox (defBody st) t ∧ ∀ ss M Q, A ss M Q → WS K t (rho0 N.length ss) M ⟨fun _ M' => Q .non M', Q, NoR, NoR⟩) :
    FnOk P w K mg base CX0 (k + 1) f fd ps (conc K A) := by
  refine F.ok S (fun vs H Q E h => ?_) (fun cdv Ar outer s H vs Q E hr h => ?_)
  · obtain ⟨B, M, ss, QA, hS, hv, ha, _⟩ := h
    rw [SlAll.len hv]
    exact hlen ss M QA ha
  · obtain ⟨B, M, ss, QA, hS, hv, ha, hq⟩ := h
    obtain ⟨t, ht, hw⟩ := hb cdv Ar outer s H E hr
    refine ⟨t, ht, ?_⟩
    have hR : Rl K B (L2.start N vs) (rho0 N.length ss) := by
      unfold L2.start rho0
      rw [SlAll.len hv]
      exact rl_start _ hv
    exact hw ss M QA ha (L2.start N vs) B H ⟨fun _ H' => Q .non H', Q, _, _⟩ hR hS (fun ρ' M' σ' B' H' q e _ S' => hq .non .non M' B' H' q e S' slok_non) (fun s v M' B' H' q e S' o => hq s v M' B' H' q e S' o) (fun _ _ _ _ _ z => z.elim) (fun _ _ _ _ _ z => z.elim)
/-- a def that works on data alone and changes nothing -/
def pureA (R : List PyData → PyData → Prop) : ASp := fun ss M Q => ∃ ds d, ss = ds.map .dat ∧ R ds d ∧ Q (.dat d) M
end
end Ab

set_option Elab.async false
set_option linter.all false
set_option maxRecDepth 100000
set_option  maxHeartbeats 4000000
namespace Ab
open PySem PyProof.Rows L2
/-! ### for the steps that need no thought -/
def datsOf : List Sl → Option (List PyData)
  | [] => some []
  | .dat d :: r => match datsOf r with
    | some ds => some (d :: ds)
    | none => none
  | _ :: _ => none
theorem datsOf_eq : ∀ {xs : List Sl} {ds : List PyData}, datsOf xs = some ds → xs = ds.map .dat
  | [], _, h => by cases h; rfl
  | .dat d :: r, ds, h => by
    unfold datsOf at h
    cases e : datsOf r with
    | none => rw [e] at h; cases h
    | some es =>
      rw [e] at h
      cases h
      rw [datsOf_eq e]
      rfl
  | .raw _ :: _, _, h => by cases h
  | .abs _ _ :: _, _, h => by cases h
section
variable {K : PySem.W.Frag} {ρ : Rho} {M : MH} {Q Q' : Sl → MH → Prop} {ta tb te tc : TE} {P : AE}
theorem w_tupD {t : TA} (h : WA K t ρ M fun xs M1 => ∃ ds, datsOf xs = some ds ∧ ds.length ≤ 100000 ∧ Q (.dat (.tuple ds)) M1) : W K (tTup t) ρ M Q :=
  w_tup fun σ B H hR hS Q0 k => h σ B H hR hS Q0 fun ss vs M' B' H' ⟨ds, e, l, q⟩ => k ss vs M' B' H' ⟨ds, datsOf_eq e, l, q⟩
theorem w_lstD {t : TA} (h : WA K t ρ M fun xs M1 => ∃ ds, datsOf xs = some ds ∧ ds.length ≤ 100000 ∧ Q (.dat (.list ds)) M1) : W K (tLst t) ρ M Q :=
  w_lst fun σ B H hR hS Q0 k => h σ B H hR hS Q0 fun ss vs M' B' H' ⟨ds, e, l, q⟩ => k ss vs M' B' H' ⟨ds, datsOf_eq e, l, q⟩
theorem ite_b {b : Bool} {A B : Prop} (h1 : b = true → A) (h2 : b = false → B) : if b = true then A else B := by
  cases b with
  | true => exact h1 rfl
  | false => exact h2 rfl
theorem ite_t {b : Bool} {A B : Prop} (e : b = true) (h : A) : if b = true then A else B := by
  rw [if_pos e]; exact h
theorem ite_f {b : Bool} {A B : Prop} (e : b = false) (h : B) : if b = true then A else B := by
  rw [if_neg (by rw [e]; decide)]; exact h
theorem wa_imp {Q Q' : List Sl → MH → Prop} {t : TA} (h : WA K t ρ M Q) (k : ∀ s M', Q s M' → Q' s M') : WA K t ρ M Q' := fun σ B H hR hS Q0 q => h σ B H hR hS Q0 fun s v M' B' H' z => q s v M' B' H' (k _ _ z)
theorem wt_imp {Q Q' : Bool → MH → Prop} {t : TT} (h : WT K t ρ M Q) (k : ∀ s M', Q s M' → Q' s M') : WT K t ρ M Q' := fun σ B H hR hS Q0 q => h σ B H hR hS Q0 fun s M' B' H' z => q s M' B' H' (k _ _ z)
end
/-- a word between a statement and the rest -/
theorem ws_mid {K : PySem.W.Frag} {ρ : Rho} {M : MH} {nx bk ct : Rho → MH → Prop} {rt : Sl → MH → Prop} {t u : TS} (Mid : Rho → MH → Prop) (h : WS K t ρ M ⟨Mid, rt, bk, ct⟩) (k : ∀ ρ' M', Mid ρ' M' → WS K u ρ' M' ⟨nx, rt, bk, ct⟩) : WS K (tSeq t u) ρ M ⟨nx, rt, bk, ct⟩ :=
  ws_seq (h.imp k (fun _ _ z => z) (fun _ _ z => z) (fun _ _ z => z))
theorem atI_ok {α : Type} {xs : List α} {i : Int} {x : α} (h0 : 0 ≤ i) (h : xs[i.toNat]? = some x) : atI xs i = some x := by
  obtain ⟨n, rfl⟩ := Int.eq_ofNat_of_zero_le h0
  exact atI_nat (by simpa using h)
theorem get_two {α : Type} {f : α → PyData} {xs : List α} {i : Nat} {x : α} (h : xs[i]? = some x) : ((xs.map f).map Sl.dat)[i]? = some (.dat (f x)) := by
  rw [List.getElem?_map, List.getElem?_map, h]
  rfl
theorem atI_two {α : Type} {f : α → PyData} {xs : List α} {i : Int} (d : α) (h0 : 0 ≤ i) (h : i.toNat < xs.length) : atI ((xs.map f).map Sl.dat) i = some (.dat (f (xs.getD i.toNat d))) :=
  atI_ok h0 (by rw [get_two (List.getElem?_eq_getElem h), List.getD_eq_getElem?_getD, List.getElem?_eq_getElem h]; rfl)
theorem atI_one {α : Type} {f : α → PyData} {xs : List α} {i : Int} (d : α) (h0 : 0 ≤ i) (h : i.toNat < xs.length) : atI (xs.map f) i = some (f (xs.getD i.toNat d)) :=
  atI_ok h0 (by rw [List.getElem?_map, List.getD_eq_getElem?_getD, List.getElem?_eq_getElem h]; rfl)
/-- data of small depth whose texts are texts -/
theorem shaped_int (i : Int) : SeqAt.shaped (.int i) = true := by simp [SeqAt.shaped, PyData.canLay0, PyData.depth]
theorem shaped_bool (b : Bool) : SeqAt.shaped (.bool b) = true := by simp [SeqAt.shaped, PyData.canLay0, PyData.depth]
theorem shaped_none : SeqAt.shaped .none = true := by simp [SeqAt.shaped, PyData.canLay0, PyData.depth]
theorem eqv_int (i j : Int) : PyData.eqv (.int i) (.int j) = decide (i = j) := by
  simp only [PyData.eqv]
  by_cases e : i = j
  · subst e; simp
  · rw [decide_eq_false e]; exact beq_eq_false_iff_ne.mpr e
mutual
/-- depth below n, texts that are texts -/
def okD : Nat → PyData → Bool
  | _, .none => true
  | _, .bool _ => true
  | _, .int _ => true
  | _, .str x => PyData.strOk x
  | 0, _ => false
  | n + 1, .list xs => decide (xs.length ≤ 100000) && okAll n xs
  | n + 1, .tuple xs => decide (xs.length ≤ 100000) && okAll n xs
  | _, .dict _ => false
def okAll : Nat → List PyData → Bool
  | _, [] => true
  | n, x :: xs => okD n x && okAll n xs
end
mutual
theorem okD_lay : ∀ (n : Nat) (d : PyData), okD n d = true → d.canLay0 = true ∧ d.depth ≤ n + 1
  | n, .none, _ => by simp [PyData.canLay0, PyData.depth]
  | n, .bool _, _ => by simp [PyData.canLay0, PyData.depth]
  | n, .int _, _ => by simp [PyData.canLay0, PyData.depth]
  | n, .str x, h => by
    have h' : PyData.strOk x = true := by cases n <;> simpa [okD] using h
    simp [PyData.canLay0, PyData.depth, h']
  | 0, .list xs, h => by simp [okD] at h
  | 0, .tuple xs, h => by simp [okD] at h
  | n + 1, .list xs, h => by
    have h' : xs.length ≤ 100000 ∧ okAll n xs = true := by simpa [okD] using h
    have q := okAll_lay n xs h'.2
    simp only [PyData.canLay0, PyData.depth]
    exact ⟨q.1, by omega⟩
  | n + 1, .tuple xs, h => by
    have h' : xs.length ≤ 100000 ∧ okAll n xs = true := by simpa [okD] using h
    have q := okAll_lay n xs h'.2
    simp only [PyData.canLay0, PyData.depth]
    exact ⟨q.1, by omega⟩
  | n, .dict _, h => by cases n <;> simp [okD] at h
theorem okAll_lay : ∀ (n : Nat) (ds : List PyData), okAll n ds = true → PyData.canLayAll0 ds = true ∧ PyData.depthAll ds ≤ n + 1
  | n, [], _ => by simp [PyData.canLayAll0, PyData.depthAll]
  | n, d :: ds, h => by
    have h' : okD n d = true ∧ okAll n ds = true := by
      simp only [okAll, Bool.and_eq_true] at h
      exact h
    have q1 := okD_lay n d h'.1
    have q2 := okAll_lay n ds h'.2
    simp only [PyData.canLayAll0, PyData.depthAll, Bool.and_eq_true]
    exact ⟨⟨q1.1, q2.1⟩, by omega⟩
end
theorem okD_shaped {n : Nat} {d : PyData} (h : okD n d = true) (hn : n ≤ 60) : SeqAt.shaped d = true := by
  obtain ⟨h1, h2⟩ := okD_lay n d h
  unfold SeqAt.shaped
  rw [h1, decide_eq_true (by omega)]
  rfl
theorem okAll_of {n : Nat} : ∀ {ds : List PyData}, (∀ d ∈ ds, okD n d = true) → okAll n ds = true
  | [], _ => rfl
  | d :: ds, h => by
    show (okD n d && okAll n ds) = true
    rw [h d List.mem_cons_self, okAll_of fun e he => h e (List.mem_cons_of_mem _ he)]
    rfl
theorem okD_mem {n : Nat} : ∀ {ds : List PyData} {d : PyData}, okAll n ds = true → d ∈ ds → okD n d = true
  | [], _, _, h => by cases h
  | x :: xs, d, h, hm => by
    have h' : okD n x = true ∧ okAll n xs = true := by
      simp only [okAll, Bool.and_eq_true] at h
      exact h
    rcases List.mem_cons.mp hm with rfl | hm
    · exact h'.1
    · exact okD_mem h'.2 hm
theorem okD_up : ∀ {n : Nat} {d : PyData}, okD n d = true → okD (n + 1) d = true
  | n, .none, _ => by cases n <;> rfl
  | n, .bool _, _ => by cases n <;> rfl
  | n, .int _, _ => by cases n <;> rfl
  | n, .str x, h => by cases n <;> simpa [okD] using h
  | 0, .list _, h => by simp [okD] at h
  | 0, .tuple _, h => by simp [okD] at h
  | n + 1, .list xs, h => by
    have h' : xs.length ≤ 100000 ∧ okAll n xs = true := by simpa [okD] using h
    show (decide (xs.length ≤ 100000) && okAll (n + 1) xs) = true
    rw [decide_eq_true h'.1, okAll_of fun d hd => okD_up (okD_mem h'.2 hd)]
    rfl
  | n + 1, .tuple xs, h => by
    have h' : xs.length ≤ 100000 ∧ okAll n xs = true := by simpa [okD] using h
    show (decide (xs.length ≤ 100000) && okAll (n + 1) xs) = true
    rw [decide_eq_true h'.1, okAll_of fun d hd => okD_up (okD_mem h'.2 hd)]
    rfl
  | n, .dict _, h => by cases n <;> simp [okD] at h
termination_by n => n
theorem okD_list {n : Nat} {xs : List PyData} (h : okD (n + 1) (.list xs) = true) : xs.length ≤ 100000 ∧ okAll n xs = true := by simpa [okD] using h
theorem okD_tuple {n : Nat} {xs : List PyData} (h : okD (n + 1) (.tuple xs) = true) : xs.length ≤ 100000 ∧ okAll n xs = true := by simpa [okD] using h
theorem okD_mkL {n : Nat} {xs : List PyData} (h : xs.length ≤ 100000) (h2 : okAll n xs = true) : okD (n + 1) (.list xs) = true := by simp [okD, h, h2]
theorem okD_mkT {n : Nat} {xs : List PyData} (h : xs.length ≤ 100000) (h2 : okAll n xs = true) : okD (n + 1) (.tuple xs) = true := by simp [okD, h, h2]
theorem okD_lsi (n : Nat) {xs : List Int} (h : xs.length ≤ 100000) : okD (n + 1) (.list (xs.map .int)) = true := okD_mkL (by simpa using h) (okAll_of fun d hd => by
  obtain ⟨i, _, rfl⟩ := List.mem_map.mp hd
  cases n <;> rfl)
theorem eqv_self {n : Nat} {d : PyData} (h : okD n d = true) : PyData.eqv d d = true := SeqAt.eqv_refl d (okD_lay n d h).1
/-! isinstance -/
@[reducible] def isB : PyData → Bool
  | .bool _ => true
  | _ => false
@[reducible] def isI : PyData → Bool
  | .bool _ => true
  | .int _ => true
  | _ => false
@[reducible] def isS : PyData → Bool
  | .str _ => true
  | _ => false
@[reducible] def isT : PyData → Bool
  | .tuple _ => true
  | _ => false
@[reducible] def isL : PyData → Bool
  | .list _ => true
  | _ => false
theorem isi_bool (d : PyData) : kitB (tyD d) "bool" = some (isB d) := by cases d <;> (simp only [tyD, isB]; decide +kernel)
theorem isi_int (d : PyData) : kitB (tyD d) "int" = some (isI d) := by cases d <;> (simp only [tyD, isI]; decide +kernel)
theorem isi_str (d : PyData) : kitB (tyD d) "str" = some (isS d) := by cases d <;> (simp only [tyD, isS]; decide +kernel)
theorem isi_tuple (d : PyData) : kitB (tyD d) "tuple" = some (isT d) := by cases d <;> (simp only [tyD, isT]; decide +kernel)
theorem isi_list (d : PyData) : kitB (tyD d) "list" = some (isL d) := by cases d <;> (simp only [tyD, isL]; decide +kernel)
section
variable {K : PySem.W.Frag} {ρ : Rho} {M : MH} {Q : Sl → MH → Prop}
/-- x[i] of a list, a tuple of data -/
theorem w2_ixDL {d : PyData} {ds : List PyData} {i : Int} (hx : atI ds i = some d) (q : Q (.dat d) M) : W2 K (rIx K) (.dat (.list ds)) (.int i) M Q := fun B H v w hS o1 o2 Q0 k =>
  .inl (w2_ixL lsv_dat (by rw [atI_map, hx]; rfl) q B H v w hS o1 o2 Q0 k)
theorem w2_ixDT {d : PyData} {ds : List PyData} {i : Int} (hx : atI ds i = some d) (q : Q (.dat d) M) : W2 K (rIx K) (.dat (.tuple ds)) (.int i) M Q := fun B H v w hS o1 o2 Q0 k =>
  .inr (.inl (w2_ixT hx q B H v w hS o1 o2 Q0 k))
end
end Ab

set_option Elab.async false
set_option linter.all false
set_option maxRecDepth 100000
set_option  maxHeartbeats 4000000
namespace Ab
open PySem PyProof.Rows L2
/-! the operations on lists that are pictures of lists -/
abbrev lsm {α : Type} (f : α → PyData) (xs : List α) : Sl := .dat (.list (xs.map f))
def itemsI : List Sl → Option (List Int)
  | [] => some []
  | .dat (.int i) :: r => match itemsI r with
    | some ds => some (i :: ds)
    | none => none
  | _ :: _ => none
theorem itemsI_eq : ∀ {xs : List Sl} {ns : List Int}, itemsI xs = some ns → xs = (ns.map PyData.int).map .dat
  | [], _, h => by cases h; rfl
  | .dat (.int i) :: r, ns, h => by
    unfold itemsI at h
    cases e : itemsI r with
    | none => rw [e] at h; cases h
    | some es =>
      rw [e] at h
      cases h
      rw [itemsI_eq e]
      rfl
  | .dat .none :: _, _, h => by cases h
  | .dat (.bool _) :: _, _, h => by cases h
  | .dat (.str _) :: _, _, h => by cases h
  | .dat (.list _) :: _, _, h => by cases h
  | .dat (.tuple _) :: _, _, h => by cases h
  | .dat (.dict _) :: _, _, h => by cases h
  | .raw _ :: _, _, h => by cases h
  | .abs _ _ :: _, _, h => by cases h
section
variable {K : PySem.W.Frag} {ρ : Rho} {M : MH} {Q Q' : Sl → MH → Prop} {ta tb te tc : TE} {α : Type} {f : α → PyData}
theorem w_lstI {t : TA} (h : WA K t ρ M fun xs M1 => ∃ ns, itemsI xs = some ns ∧ ns.length ≤ 100000 ∧ Q (lsm .int ns) M1) : W K (tLst t) ρ M Q :=
  w_lst fun σ B H hR hS Q0 k => h σ B H hR hS Q0 fun ss vs M' B' H' ⟨ns, e, l, q⟩ => k ss vs M' B' H' ⟨_, itemsI_eq e, by rw [List.length_map]; exact l, q⟩
theorem wl_lenE {xs : List α} (q : Q (.int (xs.length : Int)) M) : WL K (rLenS K) [lsm f xs] M Q := wl_len lsv_dat (by rw [List.length_map, List.length_map]; exact q)
theorem wl_lenD {ds : List PyData} (q : Q (.int (ds.length : Int)) M) : WL K (rLenS K) [.dat (.list ds)] M Q := wl_len lsv_dat (by rw [List.length_map]; exact q)
theorem wl_lenTD {ds : List PyData} (q : Q (.int (ds.length : Int)) M) : WL K (rLenS K) [.dat (.tuple ds)] M Q := wl_lenT tpv_dat (by rw [List.length_map]; exact q)
theorem wsl_E {xs : List α} {lo hi : Option Int} (q : Q (lsm f (cutG xs lo hi)) M) : WSl K (rSlL K) (lsm f xs) lo hi M Q := wsl_lst lsv_dat (by rw [cutG_map]; exact q)
theorem w2_catE {xs ys : List α} (hl : xs.length + ys.length ≤ 100000) (q : Q (lsm f (xs ++ ys)) M) : W2 K (rCatL K) (lsm f xs) (lsm f ys) M Q := w2_cat lsv_dat lsv_dat (by rw [List.length_map, List.length_map]; exact hl) (by rw [← List.map_append]; exact q)
theorem w2_ixE {xs : List α} {i : Int} (d : α) (h0 : 0 ≤ i) (h : i < xs.length) (q : Q (.dat (f (xs.getD i.toNat d))) M) : W2 K (rIxL K) (lsm f xs) (.int i) M Q := w2_ixL lsv_dat (atI_two d h0 (by omega)) q
theorem repD_map (xs : List α) (n : Nat) : repD (xs.map f) n = ((List.replicate n xs).flatten).map f := by
  unfold repD
  rw [List.map_flatten, List.map_replicate]
theorem w2_repE {xs : List α} {i : Int} (i1 : -(2 ^ 63) ≤ i) (i2 : i < 2 ^ 63) (hl : xs.length * i.toNat ≤ 100000) (q : Q (lsm f (List.replicate i.toNat xs).flatten) M) : W2 K rRepL (lsm f xs) (.int i) M Q := w2_rep lsr_dat i1 i2 (by rw [List.length_map]; exact hl) (by rw [repD_map]; exact q)
theorem rep_one {α : Type} (x : α) : ∀ n : Nat, (List.replicate n [x]).flatten = List.replicate n x
  | 0 => rfl
  | n + 1 => by rw [List.replicate_succ, List.flatten_cons, rep_one x n]; rfl
theorem w2_rep1 {x : α} {i : Int} (i1 : -(2 ^ 63) ≤ i) (i2 : i ≤ 100000) (q : Q (lsm f (List.replicate i.toNat x)) M) : W2 K rRepL (lsm f [x]) (.int i) M Q := w2_repE i1 (by omega) (by show 1 * i.toNat ≤ 100000; omega) (by rw [rep_one]; exact q)
theorem w_revE {xs : List α} (h : W K ta ρ M fun s M1 => s = lsm f xs ∧ Q (lsm f xs.reverse) M1) : W K (tRevL K ta) ρ M Q := w_rev (h.imp fun s M1 ⟨e, q⟩ => ⟨xs.map f, by subst e; exact lsv_dat, by rw [← List.map_reverse]; exact q⟩)
theorem wl_listE {xs : List α} (q : Q (lsm f xs) M) : WL K (rListS K) [lsm f xs] M Q := wl_list (.inl lsv_dat) q
end
section
variable {K : PySem.W.Frag} {ρ : Rho} {M : MH} {Q Q' : Sl → MH → Prop} {ta tb te tc : TE}
/-- [te for x in a list of data], what else changes told by J -/
theorem w_lcJ {α : Type} {enc : α → PyData} {xs : List α} {tl : TE} {j : Nat} {vs : List Nat} {M1 : MH} (hj : j ∈ vs) (hl : W K tl ρ M fun s M2 => s = lsm enc xs ∧ M2 = M1) (J : List α → List PyData → MH → Prop) (h0 : J [] [] M1)
    (hs : ∀ pre x post acc M' D, xs = pre ++ x :: post → J pre acc M' → M' D = none → W K te ((wipeR ρ vs).set j (some (.dat (enc x)))) (um M' D (.lst (acc.map .dat))) fun s M4 => ∃ d M5, s = .dat d ∧ M4 = um M5 D (.lst (acc.map .dat)) ∧ M5 D = none ∧ acc.length < 100000 ∧ J (pre ++ [x]) (acc ++ [d]) M5)
    (hd : ∀ acc M', J xs acc M' → Q (.dat (.list acc)) M') : W K (tLc (iList K tl) (gName j) tYes te vs) ρ M Q :=
  w_lc hj (wi_list (hl.imp fun s M2 ⟨e1, e2⟩ => by
    subst e1 e2
    refine ⟨_, lsv_dat, fun i acc M' => J (xs.take i) acc M', h0, fun _ _ _ _ _ _ _ _ => lsv_dat, fun i acc M' D hi hJ hD => ?_, fun acc M' hJ => ?_⟩
    · have hi' : i < xs.length := by simpa using hi
      refine wt_yes ?_
      show W K te ((wipeR ρ vs).set j (some (((xs.map enc).map Sl.dat).getD i .non))) _ _
      rw [getD_map hi']
      have q := hs (xs.take i) xs[i] (xs.drop (i + 1)) acc M' D (split_at hi') hJ hD
      rw [← List.take_succ_eq_append_getElem hi'] at q
      exact q
    · refine hd acc M' ?_
      rw [List.length_map, List.length_map, List.take_length] at hJ
      exact hJ))
/-- xs + ys, a list that will be changed -/
theorem w2_catM {s t : Sl} {xs ys : List Sl} (h1 : LsV K s M xs) (h2 : LsV K t M ys) (hl : xs.length + ys.length ≤ 100000) (q : ∀ p, M p = none → Q (.ref p) (um M p (.lst (xs ++ ys)))) : W2 K (rCatL K) s t M Q := fun B H v w hS o1 o2 Q0 k => by
  obtain ⟨a, vs, rfl, hq, ha⟩ := h1.get hS o1
  obtain ⟨b, ws, rfl, hq2, ha2⟩ := h2.get hS o2
  have l1 := SlAll.len ha
  have l2 := SlAll.len ha2
  refine ⟨a, b, vs, ws, rfl, rfl, hq, hq2, Nat.le_trans (by omega) (show 100000 ≤ sizeLine by decide), fun p hp => ?_⟩
  exact k _ _ _ B _ (q p (hS.freeM hp)) (Same.refl B) (hS.new hp ⟨_, rfl, SlAll.app ha ha2⟩) rfl
theorem um_swap {p D : Addr} {x y o : MO} (h : D ≠ p) : um (um (um M p x) D o) p y = um (um M p y) D o := by rw [um_comm h, um_um]
end
theorem eqv_lsi (xs ys : List Int) : PyData.eqv (.list (xs.map .int)) (.list (ys.map .int)) = decide (xs = ys) := by
  simp only [PyData.eqv]
  induction xs generalizing ys with
  | nil =>
    cases ys with
    | nil => simp [PyData.eqvAll]
    | cons y ys => simp [PyData.eqvAll]
  | cons x xs ih =>
    cases ys with
    | nil => simp [PyData.eqvAll]
    | cons y ys =>
      simp only [List.map_cons, PyData.eqvAll, ih ys, eqv_int]
      by_cases e : x = y
      · subst e
        simp
      · simp [e]
theorem cutG_len {α : Type} (xs : List α) (lo hi : Option Int) : (cutG xs lo hi).length ≤ xs.length := by
  unfold cutG
  rw [List.length_take, List.length_drop]
  omega
theorem cutG_int {α : Type} (xs : List α) {lo hi : Int} (h1 : 0 ≤ lo) (h2 : 0 ≤ hi) : cutG xs (some lo) (some hi) = (xs.drop lo.toNat).take (hi.toNat - lo.toNat) := by
  obtain ⟨l, rfl⟩ := Int.eq_ofNat_of_zero_le h1
  obtain ⟨h, rfl⟩ := Int.eq_ofNat_of_zero_le h2
  unfold cutG
  rw [HT.sIx_nat, HT.sIx_nat, Int.toNat_natCast, Int.toNat_natCast]
  apply List.ext_getElem?
  intro i
  simp only [List.getElem?_take, List.getElem?_drop]
  by_cases c1 : l + i < xs.length
  · rw [show min l xs.length = l by omega]
    by_cases c2 : i < h - l
    · rw [if_pos (by omega), if_pos c2]
    · rw [if_neg (by omega), if_neg c2]
  · rw [if_neg (by omega), List.getElem?_eq_none (by omega)]
    split <;> rfl
theorem cutG_hi {α : Type} (xs : List α) {hi : Int} (h2 : 0 ≤ hi) : cutG xs none (some hi) = xs.take hi.toNat := by
  obtain ⟨h, rfl⟩ := Int.eq_ofNat_of_zero_le h2
  unfold cutG
  rw [HT.sIx_none, HT.sIx_nat, Int.toNat_natCast, List.drop_zero, Nat.sub_zero]
  apply List.ext_getElem?
  intro i
  simp only [List.getElem?_take]
  by_cases c1 : i < xs.length
  · by_cases c2 : i < h
    · rw [if_pos (by omega), if_pos c2]
    · rw [if_neg (by omega), if_neg c2]
  · rw [if_neg (by omega), List.getElem?_eq_none (by omega)]
    split <;> rfl
theorem cutG_lo {α : Type} (xs : List α) {lo : Int} (h1 : 0 ≤ lo) : cutG xs (some lo) none = xs.drop lo.toNat := by
  obtain ⟨l, rfl⟩ := Int.eq_ofNat_of_zero_le h1
  unfold cutG
  rw [HT.sIx_none, HT.sIx_nat, Int.toNat_natCast]
  apply List.ext_getElem?
  intro i
  simp only [List.getElem?_take, List.getElem?_drop]
  by_cases c1 : l + i < xs.length
  · rw [show min l xs.length = l by omega, if_pos (by omega)]
  · rw [if_neg (by omega), List.getElem?_eq_none (by omega)]
/-! the script of a law -/
def scriptA (K : PySem.W.Frag) : Sp := conc K fun ss M Q => ∃ (s : Sl) (ns : List Int), ss = [s] ∧ ns.length ≤ 63 ∧ (∀ z ∈ ns, Builtin.Int.intBits z ≤ 1048576) ∧ (∀ M, LsV K s M ((ns.map PyData.int).map .dat)) ∧ ∀ M', Q (.bl true) M'
theorem slall_ints {K : PySem.W.Frag} {B : Hp} : ∀ ns : List Int, SlAll K B (ns.map V.int) ((ns.map PyData.int).map .dat)
  | [] => .nil
  | _ :: ns => .cons slok_int (slall_ints ns)
theorem script_in {K : PySem.W.Frag} {H : Hp} {a : Addr} {ns : List Int} (hl : ns.length ≤ 63) (hb : ∀ z ∈ ns, Builtin.Int.intBits z ≤ 1048576) (hS : SqL K H a (ns.map V.int)) : scriptA K [.ref a] H (fun v _ => v = .bl true) fun _ _ _ => False := by
  have S : Sep K H (fun _ => none) H := ⟨Same.refl H, fun a o e => by cases e⟩
  rcases hS with h | h
  · exact ⟨H, _, [.dat (.list (ns.map .int))], fun s _ => s = .bl true, S, .cons (Dq.lst h (dpa_of (slall_ints ns))) .nil, ⟨_, ns, rfl, hl, hb, fun M => lsv_dat, fun _ => rfl⟩, fun s v M' B' H' e _ _ o => by subst e; exact of_bl o⟩
  · exact ⟨H, _, [.raw (.ref a)], fun s _ => s = .bl true, S, .cons rfl .nil, ⟨_, ns, rfl, hl, hb, fun M => .inr (.inr ⟨a, _, rfl, fun H => .inr h, fun B => slall_ints ns⟩), fun _ => rfl⟩, fun s v M' B' H' e _ _ o => by subst e; exact of_bl o⟩
end Ab

set_option Elab.async false
set_option linter.all false
set_option maxRecDepth 100000
set_option  maxHeartbeats 4000000
namespace K07
open PySem PyProof.Rows L2 Ab
def topS (i : Nat) : Stmt := PySem.Challenge.pw_rulestead_k07_blocks_and_heads.main.body.getD i (.Pass ⟨0, 0, 0, 0⟩)
abbrev s_fixed : Stmt := topS 4
theorem sc_fixed : FnScope ["number", "count", "data", "_"] ["number", "count"] (defScope s_fixed) := ⟨rfl, rfl, rfl, by decide +kernel, rfl, by decide +kernel, by decide +kernel⟩
abbrev s_number_of : Stmt := topS 5
theorem sc_number_of : FnScope ["data", "total", "byte"] ["data"] (defScope s_number_of) := ⟨rfl, rfl, rfl, by decide +kernel, rfl, by decide +kernel, by decide +kernel⟩
abbrev s_turn_of : Stmt := topS 6
theorem sc_turn_of : FnScope ["sector"] ["sector"] (defScope s_turn_of) := ⟨rfl, rfl, rfl, by decide +kernel, rfl, by decide +kernel, by decide +kernel⟩
abbrev s_write_block : Stmt := topS 7
theorem sc_write_block : FnScope ["turn", "data", "content", "pieces", "start", "front", "piece"] ["turn", "data"] (defScope s_write_block) := ⟨rfl, rfl, rfl, by decide +kernel, rfl, by decide +kernel, by decide +kernel⟩
abbrev s_read_block : Stmt := topS 8
theorem sc_read_block : FnScope ["sectors", "turn", "count", "content", "sector", "size"] ["sectors", "turn"] (defScope s_read_block) := ⟨rfl, rfl, rfl, by decide +kernel, rfl, by decide +kernel, by decide +kernel⟩
abbrev s_area_size : Stmt := topS 9
theorem sc_area_size : FnScope ["size"] ["size"] (defScope s_area_size) := ⟨rfl, rfl, rfl, by decide +kernel, rfl, by decide +kernel, by decide +kernel⟩
abbrev s_area_start : Stmt := topS 10
theorem sc_area_start : FnScope ["size", "area"] ["size", "area"] (defScope s_area_start) := ⟨rfl, rfl, rfl, by decide +kernel, rfl, by decide +kernel, by decide +kernel⟩
abbrev s_head : Stmt := topS 11
theorem sc_head : FnScope ["turn", "area"] ["turn", "area"] (defScope s_head) := ⟨rfl, rfl, rfl, by decide +kernel, rfl, by decide +kernel, by decide +kernel⟩
abbrev s_read_head : Stmt := topS 12
theorem sc_read_head : FnScope ["sector", "turn", "area"] ["sector"] (defScope s_read_head) := ⟨rfl, rfl, rfl, by decide +kernel, rfl, by decide +kernel, by decide +kernel⟩
abbrev s_law_next : Stmt := topS 14
theorem sc_law_next : FnScope ["_law_state", "_law_limit", "_law_cell", "_law_value"] ["_law_state", "_law_limit"] (defScope s_law_next) := ⟨rfl, rfl, rfl, by decide +kernel, rfl, by decide +kernel, by decide +kernel⟩
abbrev s_law_same : Stmt := topS 15
theorem sc_law_same : FnScope ["_law_actual", "_law_expected", "_law_k"] ["_law_actual", "_law_expected"] (defScope s_law_same) := ⟨rfl, rfl, rfl, by decide +kernel, rfl, by decide +kernel, by decide +kernel⟩
abbrev s_law_fixed : Stmt := topS 16
theorem sc_law_fixed : FnScope ["_law_number", "_law_count", "_law_data", "_law_k"] ["_law_number", "_law_count"] (defScope s_law_fixed) := ⟨rfl, rfl, rfl, by decide +kernel, rfl, by decide +kernel, by decide +kernel⟩
abbrev s_law_block : Stmt := topS 17
theorem sc_law_block : FnScope ["_law_turn_here", "_law_data", "_law_rest", "_law_count", "_law_sectors", "_law_k", "_law_piece"] ["_law_turn_here", "_law_data"] (defScope s_law_block) := ⟨rfl, rfl, rfl, by decide +kernel, rfl, by decide +kernel, by decide +kernel⟩
abbrev s_law_turn : Stmt := topS 18
theorem sc_law_turn : FnScope ["_law_state"] ["_law_state"] (defScope s_law_turn) := ⟨rfl, rfl, rfl, by decide +kernel, rfl, by decide +kernel, by decide +kernel⟩
abbrev s_law_bytes : Stmt := topS 19
theorem sc_law_bytes : FnScope ["_law_state", "_law_count", "_law_start", "_law_k"] ["_law_state"] (defScope s_law_bytes) := ⟨rfl, rfl, rfl, by decide +kernel, rfl, by decide +kernel, by decide +kernel⟩
abbrev s_law_put : Stmt := topS 20
theorem sc_law_put : FnScope ["_law_sector", "_law_place", "_law_data"] ["_law_sector", "_law_place", "_law_data"] (defScope s_law_put) := ⟨rfl, rfl, rfl, by decide +kernel, rfl, by decide +kernel, by decide +kernel⟩
abbrev s_law_asks_block : Stmt := topS 21
theorem sc_law_asks_block : FnScope ["_law_state", "_law_turn_here", "_law_data", "_law_block_here", "_law_passed", "_law_others", "_law_sectors", "_law_sector", "_law_behind", "_law_each", "_law_told", "_law_place", "_law_at", "_law_wrong", "_law_spoilt", "_law_more"] ["_law_state"] (defScope s_law_asks_block) := ⟨rfl, rfl, rfl, by decide +kernel, rfl, by decide +kernel, by decide +kernel⟩
abbrev s_law_asks_head : Stmt := topS 22
theorem sc_law_asks_head : FnScope ["_law_state", "_law_turn_here", "_law_area", "_law_sector", "_law_place", "_law_wrong", "_law_each"] ["_law_state"] (defScope s_law_asks_head) := ⟨rfl, rfl, rfl, by decide +kernel, rfl, by decide +kernel, by decide +kernel⟩
abbrev s_law_asks_places : Stmt := topS 23
theorem sc_law_asks_places : FnScope ["_law_size", "_law_area"] ["_law_size"] (defScope s_law_asks_places) := ⟨rfl, rfl, rfl, by decide +kernel, rfl, by decide +kernel, by decide +kernel⟩
abbrev s_law : Stmt := topS 24
theorem sc_law : FnScope ["_law_script", "_law_state", "_law_k"] ["_law_script"] (defScope s_law) := ⟨rfl, rfl, rfl, by decide +kernel, rfl, by decide +kernel, by decide +kernel⟩
structure AD where
  fixed : Addr
  number_of : Addr
  turn_of : Addr
  write_block : Addr
  read_block : Addr
  area_size : Addr
  area_start : Addr
  head : Addr
  read_head : Addr
  law_next : Addr
  law_same : Addr
  law_fixed : Addr
  law_block : Addr
  law_turn : Addr
  law_bytes : Addr
  law_put : Addr
  law_asks_block : Addr
  law_asks_head : Addr
  law_asks_places : Addr
  law : Addr
  t_HEAD_ZEROS : Tok
  t_PIECE : Tok
  c_MARK : Addr
structure FD where
  fixed : FuncData
  number_of : FuncData
  turn_of : FuncData
  write_block : FuncData
  read_block : FuncData
  area_size : FuncData
  area_start : FuncData
  head : FuncData
  read_head : FuncData
  law_next : FuncData
  law_same : FuncData
  law_fixed : FuncData
  law_block : FuncData
  law_turn : FuncData
  law_bytes : FuncData
  law_put : FuncData
  law_asks_block : FuncData
  law_asks_head : FuncData
  law_asks_places : FuncData
  law : FuncData
structure Txt (K : PySem.W.Frag) (mg : Str → Option Value) (a : AD) (d : FD) : Prop where
  F_fixed : Fun K "fixed" "fixed" s_fixed a.fixed d.fixed
  g_fixed : mg "fixed" = some (.ref a.fixed)
  b_fixed : Binds K d.fixed ["number", "count"] []
  F_number_of : Fun K "number_of" "number_of" s_number_of a.number_of d.number_of
  g_number_of : mg "number_of" = some (.ref a.number_of)
  b_number_of : Binds K d.number_of ["data"] []
  F_turn_of : Fun K "turn_of" "turn_of" s_turn_of a.turn_of d.turn_of
  g_turn_of : mg "turn_of" = some (.ref a.turn_of)
  b_turn_of : Binds K d.turn_of ["sector"] []
  F_write_block : Fun K "write_block" "write_block" s_write_block a.write_block d.write_block
  g_write_block : mg "write_block" = some (.ref a.write_block)
  b_write_block : Binds K d.write_block ["turn", "data"] []
  F_read_block : Fun K "read_block" "read_block" s_read_block a.read_block d.read_block
  g_read_block : mg "read_block" = some (.ref a.read_block)
  b_read_block : Binds K d.read_block ["sectors", "turn"] []
  F_area_size : Fun K "area_size" "area_size" s_area_size a.area_size d.area_size
  g_area_size : mg "area_size" = some (.ref a.area_size)
  b_area_size : Binds K d.area_size ["size"] []
  F_area_start : Fun K "area_start" "area_start" s_area_start a.area_start d.area_start
  g_area_start : mg "area_start" = some (.ref a.area_start)
  b_area_start : Binds K d.area_start ["size", "area"] []
  F_head : Fun K "head" "head" s_head a.head d.head
  g_head : mg "head" = some (.ref a.head)
  b_head : Binds K d.head ["turn", "area"] []
  F_read_head : Fun K "read_head" "read_head" s_read_head a.read_head d.read_head
  g_read_head : mg "read_head" = some (.ref a.read_head)
  b_read_head : Binds K d.read_head ["sector"] []
  F_law_next : Fun K "_law_next" "_law_next" s_law_next a.law_next d.law_next
  g_law_next : mg "_law_next" = some (.ref a.law_next)
  b_law_next : Binds K d.law_next ["_law_state", "_law_limit"] []
  F_law_same : Fun K "_law_same" "_law_same" s_law_same a.law_same d.law_same
  g_law_same : mg "_law_same" = some (.ref a.law_same)
  b_law_same : Binds K d.law_same ["_law_actual", "_law_expected"] []
  F_law_fixed : Fun K "_law_fixed" "_law_fixed" s_law_fixed a.law_fixed d.law_fixed
  g_law_fixed : mg "_law_fixed" = some (.ref a.law_fixed)
  b_law_fixed : Binds K d.law_fixed ["_law_number", "_law_count"] []
  F_law_block : Fun K "_law_block" "_law_block" s_law_block a.law_block d.law_block
  g_law_block : mg "_law_block" = some (.ref a.law_block)
  b_law_block : Binds K d.law_block ["_law_turn_here", "_law_data"] []
  F_law_turn : Fun K "_law_turn" "_law_turn" s_law_turn a.law_turn d.law_turn
  g_law_turn : mg "_law_turn" = some (.ref a.law_turn)
  b_law_turn : Binds K d.law_turn ["_law_state"] []
  F_law_bytes : Fun K "_law_bytes" "_law_bytes" s_law_bytes a.law_bytes d.law_bytes
  g_law_bytes : mg "_law_bytes" = some (.ref a.law_bytes)
  b_law_bytes : Binds K d.law_bytes ["_law_state"] []
  F_law_put : Fun K "_law_put" "_law_put" s_law_put a.law_put d.law_put
  g_law_put : mg "_law_put" = some (.ref a.law_put)
  b_law_put : Binds K d.law_put ["_law_sector", "_law_place", "_law_data"] []
  F_law_asks_block : Fun K "_law_asks_block" "_law_asks_block" s_law_asks_block a.law_asks_block d.law_asks_block
  g_law_asks_block : mg "_law_asks_block" = some (.ref a.law_asks_block)
  b_law_asks_block : Binds K d.law_asks_block ["_law_state"] []
  F_law_asks_head : Fun K "_law_asks_head" "_law_asks_head" s_law_asks_head a.law_asks_head d.law_asks_head
  g_law_asks_head : mg "_law_asks_head" = some (.ref a.law_asks_head)
  b_law_asks_head : Binds K d.law_asks_head ["_law_state"] []
  F_law_asks_places : Fun K "_law_asks_places" "_law_asks_places" s_law_asks_places a.law_asks_places d.law_asks_places
  g_law_asks_places : mg "_law_asks_places" = some (.ref a.law_asks_places)
  b_law_asks_places : Binds K d.law_asks_places ["_law_size"] []
  F_law : Fun K "law" "law" s_law a.law d.law
  g_law : mg "law" = some (.ref a.law)
  b_law : Binds K d.law ["_law_script"] []
  n_bool : mg "bool" = none
  n_int : mg "int" = none
  n_isinstance : mg "isinstance" = none
  n_len : mg "len" = none
  n_list : mg "list" = none
  n_range : mg "range" = none
  n_str : mg "str" = none
  n_tuple : mg "tuple" = none
  c_HEAD_ZEROS : mg "HEAD_ZEROS" = some (.int 53 a.t_HEAD_ZEROS)
  c_PIECE : mg "PIECE" = some (.int 54 a.t_PIECE)
  c_MARK : mg "MARK" = some (.ref a.c_MARK)
  k_MARK : ∃ o its n, K.lookup a.c_MARK = some o ∧ o.cls = .type "list" ∧ o.dict = none ∧ o.data = .seq its n ∧ its.size ≤ sizeLine ∧ Vals [.int 82, .int 85, .int 76, .int 69] its.toList
abbrev lsi (ns : List Int) : Sl := .dat (.list (ns.map .int))
section
variable {P : Program} {w : World} {K : PySem.W.Frag} {mg : Str → Option Value} {base : Heap} {a : AD} {d : FD}
/-- the bytes, the lowest first -/
def lsb (n : Int) : Nat → List Int
  | 0 => []
  | k + 1 => n % 256 :: lsb (n / 256) k
theorem lsb_len : ∀ (k : Nat) (n : Int), (lsb n k).length = k
  | 0, _ => rfl
  | k + 1, n => by
    show (lsb (n / 256) k).length + 1 = k + 1
    rw [lsb_len k]
def A_fixed : ASp := fun ss M Q => ∃ (n : Int) (c : Nat), ss = [.int n, .int (c : Int)] ∧ c ≤ 1000 ∧ Q (lsi (lsb n c).reverse) M
theorem ok_fixed (T : Txt K mg a d) : FnOk P w K mg base CX0 1 a.fixed d.fixed ["number", "count"] (conc K A_fixed) := by
  refine ab_ok T.F_fixed sc_fixed (fun ss M Q ⟨n, c, e, _⟩ => by subst e; rfl) fun cdv Ar outer s H E hr => ⟨_, (pss_cons (ps_set (i := 2) sc_fixed.nd rfl (Or.inl rfl) (pe_lst pa_nil))
  (pss_cons (ps_for PassesOwn.never rfl (pi_range1 rfl T.n_range (pa_cons (pv 1) pa_nil)) (pg_name (i := 3) sc_fixed.nd rfl (Or.inl rfl)) (pss_cons (ps_expr (pe_bm PySem.F.plainAttrs_list PySem.F.slot_list_append PySem.F.type_list_append mt_append (pv 2) (pa_cons (pe_op op_mod (pv 0) pe_int) pa_nil)))
  (pss_one (ps_set (i := 0) sc_fixed.nd rfl (Or.inl rfl) (pe_op op_fdiv (pv 0) pe_int)))))
  (pss_one (ps_ret (pe_revL (pv 2)))))), ?_⟩
  rintro ss M Q ⟨n, c, rfl, hc, q⟩
  show WS K _ [some (.int n), some (.int (c : Int)), none, none] M _
  refine ws_seq (ws_set (w_lstM (wa_nil ⟨by decide, fun p hp => ?_⟩)))
  refine ws_seq (ws_forR1 (n := (c : Int)) (M1 := um M p (.lst [])) (wa_cons (w_var rfl (wa_nil ⟨rfl, rfl⟩))) (by omega)
    (fun i ρ' M' => ∃ (n' : Int) (ds : List Int) (y : Option Sl), ρ' = [some (.int n'), some (.int (c : Int)), some (.ref p), y] ∧ M' = um M p (.lst ((ds.map PyData.int).map .dat)) ∧ ds ++ lsb n' (c - i) = lsb n c ∧ ds.length = i)
    ⟨n, [], none, rfl, rfl, rfl, rfl⟩ ?_ ?_)
  · rintro i ρ' M' hi ⟨n', ds, y, rfl, rfl, he, hl⟩
    refine wg_name (ws_seq (ws_drop (w_bm (w_var rfl ⟨ty_lst (lsv_ref um_same), wa_cons (w_op (w_var rfl (w_int (w2_i (by decide) (wa_nil (wm_append um_same ?_ ?_))))))⟩))))
    · rw [List.length_map, List.length_map, hl]; omega
    refine ws_set (w_op (w_var rfl (w_int (w2_i ⟨by decide, by decide⟩ ?_))))
    refine ⟨n' / 256, ds ++ [n' % 256], _, rfl, ?_, ?_, ?_⟩
    · rw [um_um, List.map_append, List.map_append]; rfl
    · have e1 : c - i = (c - (i + 1)) + 1 := by omega
      rw [e1] at he
      rw [← he, List.append_assoc]
      rfl
    · rw [List.length_append, hl]; rfl
  · rintro ρ' M' ⟨n', ds, y, rfl, rfl, he, hl⟩
    have e0 : c - (c : Int).toNat = 0 := by omega
    rw [e0] at he
    have e1 : ds = lsb n c := by rw [← he]; exact (List.append_nil ds).symm
    subst e1
    refine ws_freeze (i := 2) (a := p) (ds := (lsb n c).map .int) rfl um_same ?_
    rw [del_um hp]
    refine ws_ret (w_rev (w_var rfl ⟨_, lsv_dat, ?_⟩))
    rw [← List.map_reverse]
    exact q
end
end K07


set_option Elab.async false
set_option linter.all false
set_option maxRecDepth 100000
set_option  maxHeartbeats 4000000
namespace K07
open PySem PyProof.Rows L2 Ab
local macro_rules | `(tactic| walk_at "len") => `(tactic| first | decide | omega | (simp only [List.length_append, List.length_map, List.length_replicate, List.length_cons, List.length_nil, List.length_take, List.length_drop, List.length_reverse, List.length_range]; omega))
local macro_rules | `(tactic| walk_at "1") => `(tactic| (first
  | (with_reducible refine ws_set ?_)
  | (with_reducible refine ws_ret ?_)
  | (with_reducible refine ws_if ?_)
  | (with_reducible refine ws_drop ?_)
  | (with_reducible refine w_op ?_)
  | (with_reducible refine w_int ?_)
  | (with_reducible refine w_bl ?_)
  | (with_reducible refine w_non ?_)
  | (with_reducible refine w_str ?_)
  | (with_reducible refine w_cb ?_)
  | (with_reducible refine w_call ?_)
  | (with_reducible refine w_sl ?_)
  | (with_reducible refine w_tupD ?_)
  | (with_reducible refine w_chain ?_)
  | (with_reducible refine w_andV ?_)
  | (with_reducible refine w_orV ?_)
  | (with_reducible refine w_notV ?_)
  | (with_reducible refine wo_none ?_)
  | (with_reducible refine wo_some ?_)
  | (with_reducible refine wa_cons ?_)
  | (with_reducible refine wa_nil ?_)
  | (with_reducible refine wt_test ?_)
  | (with_reducible refine wt_B ?_)
  | (with_reducible refine wt_and ?_)
  | (with_reducible refine wt_or ?_)
  | (with_reducible refine wt_not ?_)
  | (with_reducible refine wt_yes ?_)
  | (with_reducible refine w2_i0 ?_)
  | (with_reducible refine w2_b0 ?_)
  | (with_reducible refine w1_neg ?_)
  | ((with_reducible refine w2_i ?hc ?_); (case hc => first | decide | exact ⟨by decide, by decide⟩ | exact Or.inl ⟨by decide, by decide⟩ | exact Or.inr ⟨by decide, by decide⟩ | exact ⟨by decide, by decide, by decide⟩ | omega); skip)
  | ((with_reducible refine' w_var ?hv ?_); (case hv => exact rfl); skip)
  | ((with_reducible show W2 _ (rEqD _) _ _ _ _); (refine w2_eq ?ha ?hb ?_); (case ha => first | exact shaped_int _ | exact shaped_bool _); (case hb => first | exact shaped_int _ | exact shaped_bool _); skip)
  | ((with_reducible show W2 _ (rNeD _) _ _ _ _); (refine w2_ne ?ha ?hb ?_); (case ha => first | exact shaped_int _ | exact shaped_bool _); (case hb => first | exact shaped_int _ | exact shaped_bool _); skip)
  | ((with_reducible show W2 _ _ _ _ _ _); (refine w2_isN ?_))
  | ((with_reducible show W2 _ _ _ _ _ _); (refine w2_notN ?_))
  | (with_reducible refine wl_lenE ?_)
  | (with_reducible refine wl_lenD ?_)
  | (with_reducible refine wl_lenTD ?_)
  | (with_reducible refine wl_listE ?_)
  | (with_reducible refine wsl_E ?_)
  | ((with_reducible refine' w2_catE ?hl ?_); (try (case hl => walk_at "len")); skip)
  | ((with_reducible refine' w2_rep1 ?h1 ?h2 ?_); (try (case h1 => first | decide | omega)); (try (case h2 => first | decide | omega)); skip)
  | ((with_reducible show WL _ _ [_] _ _); (refine' wl_len ?hl ?_); (case hl => first | exact lsv_dat | exact lsv_ref um_same | exact lsv_ref (by assumption)); skip)
  | ((with_reducible show WL _ _ [_] _ _); (refine' wl_list ?hl ?_); (case hl => first | exact .inl lsv_dat | exact .inl (lsv_ref (by assumption))); skip)
  | ((with_reducible show WSl _ (rSlL _) _ _ _ _ _); (refine' wsl_lst ?hl ?_); (case hl => first | exact lsv_dat | exact lsv_ref um_same | exact lsv_ref (by assumption)); skip)
  | ((with_reducible show WL _ _ [_] _ _); (refine wl_int ?_))
  | ((with_reducible show W2 _ (rIxL _) _ _ _ _); (refine' w2_ixL ?hs ?hx ?_); (case hs => first | exact lsv_dat | exact lsv_ref um_same | exact lsv_ref (by assumption)); (try (case hx => exact rfl)); skip)
  | ((with_reducible show W2 _ (rIxT _) _ _ _ _); (refine' w2_ixT ?hx ?_); (try (case hx => exact rfl)); skip)
  | ((with_reducible show WL _ (rIsi _) [_, _] _ _); (refine' wl_isi ?hb ?_); (case hb => first | exact isi_bool _ | exact isi_int _ | exact isi_str _ | exact isi_tuple _ | exact isi_list _); skip)
  | ((with_reducible show W _ (tC (V.ty _)) _ _ _); (refine w_raw ?_))
  | ((with_reducible show WL _ _ [_] _ _); (refine' wl_lenT ?hl ?_); (case hl => exact tpv_dat); skip)
  | (with_reducible refine ws_next ?_)
  | (with_reducible refine ite_t rfl ?_)
  | (with_reducible refine ite_f rfl ?_)
  | ((with_reducible show ∃ b : Bool, _ = Sl.bl b ∧ _); (with_reducible refine ⟨_, rfl, ?_⟩))
  | ((with_reducible show ∃ i : Int, _ = Sl.int i ∧ _); (with_reducible refine ⟨_, rfl, ?_⟩))
  | ((with_reducible show List.length _ ≤ 100000 ∧ _); (refine ⟨(by simp), ?_⟩))
  | ((with_reducible show ∃ ds : List PyData, datsOf _ = some ds ∧ _); (refine ⟨_, rfl, ?_⟩))))
local macro_rules | `(tactic| walk_at "e") => `(tactic| repeat (first | (with_reducible refine ws_seq ?_) | (walk_at "1")))
local macro_rules | `(tactic| walk_at "g") => `(tactic| repeat (first | (walk_at "1") | ((with_reducible refine w_lstI (wa_cons ?_)); (repeat (walk_at "1")); (with_reducible show ∃ ns : List Int, itemsI _ = some ns ∧ _); (refine ⟨_, rfl, ?_⟩)) | (with_reducible refine w_lstD ?_)))
local macro_rules | `(tactic| walk_at "f") => `(tactic| repeat (first | (with_reducible refine ws_seq ?_) | (walk_at "1") | ((with_reducible refine w_lstI (wa_cons ?_)); (repeat (walk_at "1")); (with_reducible show ∃ ns : List Int, itemsI _ = some ns ∧ _); (refine ⟨_, rfl, ?_⟩)) | (with_reducible refine w_lstD ?_)))
local macro_rules | `(tactic| walk_at "k") => `(tactic| first | dsimp only [cxOf, Cx.nox, Cx.wish] | skip)

abbrev lss (ns : List (List Int)) : Sl := .dat (.list (ns.map fun x => .list (x.map .int)))
section
variable {P : Program} {w : World} {K : PySem.W.Frag} {mg : Str → Option Value} {base : Heap} {a : AD} {d : FD}
def numOf (ds : List Int) : Int := ds.foldl (fun t b => 256 * t + b) 0
def A_number_of : ASp := fun ss M Q => ∃ ds : List Int, ss = [lsi ds] ∧ Q (.int (numOf ds)) M
theorem ok_number_of (T : Txt K mg a d) : FnOk P w K mg base CX0 1 a.number_of d.number_of ["data"] (conc K A_number_of) := by
  refine ab_ok T.F_number_of sc_number_of (fun ss M Q ⟨n, e, _⟩ => by subst e; rfl) fun cdv Ar outer s H E hr => ⟨_, (pss_cons (ps_set (i := 1) sc_number_of.nd rfl (Or.inl rfl) pe_int)
  (pss_cons (ps_for PassesOwn.never rfl (pi_list (pv 0)) (pg_name (i := 2) sc_number_of.nd rfl (Or.inl rfl)) (pss_one (ps_set (i := 1) sc_number_of.nd rfl (Or.inl rfl) (pe_op op_add (pe_op op_mul pe_int (pv 1)) (pv 2)))))
  (pss_one (ps_ret (pv 1))))), ?_⟩
  rintro ss M Q ⟨ds, rfl, q⟩
  walk_at "k"
  show WS K _ [some (lsi ds), none, none] M _
  walk_at "e"
  refine ws_forD (enc := PyData.int) (xs := ds) (M1 := M) (w_var rfl ⟨rfl, rfl⟩) (fun pre ρ' M' => ∃ y, ρ' = [some (lsi ds), some (.int (numOf pre)), y] ∧ M' = M) ⟨_, rfl, rfl⟩ ?_ ?_
  · rintro pre x post ρ' M' he ⟨y, rfl, rfl⟩
    refine wg_name ?_
    walk_at "e"
    refine ⟨some (.int x), ?_, rfl⟩
    show [some (lsi ds), some (.int (256 * numOf pre + x)), some (.int x)] = _
    unfold numOf
    rw [List.foldl_append]
    rfl
  · rintro ρ' M' ⟨y, rfl, rfl⟩
    walk_at "e"
    exact q
def A_turn_of : ASp := fun ss M Q => ∃ ds : List Int, ss = [lsi ds] ∧ Q (.int (numOf (ds.take 6))) M
theorem ok_turn_of (T : Txt K mg a d) : FnOk P w K mg base CX0 2 a.turn_of d.turn_of ["sector"] (conc K A_turn_of) := by
  have G_number_of : FnOk P w K mg base CX0 1 a.number_of d.number_of ["data"] (conc K A_number_of) := ok_number_of T
  refine ab_ok T.F_turn_of sc_turn_of (fun ss M Q ⟨n, e, _⟩ => by subst e; rfl) fun cdv Ar outer s H E hr => ⟨_, (pss_one (ps_ret (pe_call G_number_of (hr.mono (by omega)) (by rfl) T.g_number_of T.F_number_of.kp T.b_number_of .nil pass0 (pa_cons (pe_slice (r := rSlL K) sl_list (pv 0) po_none (po_some pe_int)) pa_nil)))), ?_⟩
  rintro ss M Q ⟨ds, rfl, q⟩
  walk_at "k"
  show WS K _ [some (lsi ds)] M _
  walk_at "e"
  rw [cutG_hi _ (by decide)]
  exact ⟨_, rfl, q⟩
/-- the pieces of a block -/
def chunk (c : List Int) (k : Nat) : List Int := (c.drop (54 * k)).take 54
def nCh (n : Nat) : Nat := (n + 53) / 54
def be (n : Int) (k : Nat) : List Int := (lsb n k).reverse
theorem be_len (n : Int) (k : Nat) : (be n k).length = k := by unfold be; rw [List.length_reverse, lsb_len]
def content (data : List Int) : List Int := be (data.length : Int) 4 ++ data
def sect (turn : Int) (cnt : Nat) (p : List Int) : List Int := be turn 6 ++ be (cnt : Int) 4 ++ p ++ List.replicate (54 - p.length) 0
def block (turn : Int) (data : List Int) : List (List Int) := (List.range (nCh (content data).length)).map fun k => sect turn (nCh (content data).length) (chunk (content data) k)
theorem small_pos {n c : Int} (h0 : 0 ≤ n) (h1 : n < 2 ^ 40) (hc : 0 < c) (hc2 : c < 2 ^ 20) : Builtin.Range.small 0 n c = true := by
  have hb : (n + c - 1) / c ≤ n + c - 1 := Int.ediv_le_self _ (by omega)
  have hb0 : 0 ≤ (n + c - 1) / c := Int.ediv_nonneg (by omega) (by omega)
  have hb2 : (n + c - 1) / c * c ≤ n + c - 1 := Int.ediv_mul_le _ (by omega)
  unfold Builtin.Range.small
  rw [rangeSize_pos (by omega) h0]
  simp only [Builtin.Range.rangeFitsLong, Bool.and_eq_true, Bool.or_eq_true, decide_eq_true_eq, beq_iff_eq, if_pos (show c > 0 from hc)]
  generalize (n + c - 1) / c = m at *
  omega
theorem repD_one (x : PyData) : ∀ n : Nat, repD [x] n = List.replicate n x
  | 0 => rfl
  | n + 1 => by
    have ih := repD_one x n
    unfold repD at ih ⊢
    rw [List.replicate_succ, List.flatten_cons, ih, List.replicate_succ]
    rfl
end
end K07


set_option Elab.async false
set_option linter.all false
set_option maxRecDepth 100000
set_option  maxHeartbeats 4000000
namespace K07
open PySem PyProof.Rows L2 Ab
local macro_rules | `(tactic| walk_at "len") => `(tactic| first | decide | omega | (simp only [List.length_append, List.length_map, List.length_replicate, List.length_cons, List.length_nil, List.length_take, List.length_drop, List.length_reverse, List.length_range]; omega))
local macro_rules | `(tactic| walk_at "1") => `(tactic| (first
  | (with_reducible refine ws_set ?_)
  | (with_reducible refine ws_ret ?_)
  | (with_reducible refine ws_if ?_)
  | (with_reducible refine ws_drop ?_)
  | (with_reducible refine w_op ?_)
  | (with_reducible refine w_int ?_)
  | (with_reducible refine w_bl ?_)
  | (with_reducible refine w_non ?_)
  | (with_reducible refine w_str ?_)
  | (with_reducible refine w_cb ?_)
  | (with_reducible refine w_call ?_)
  | (with_reducible refine w_sl ?_)
  | (with_reducible refine w_tupD ?_)
  | (with_reducible refine w_chain ?_)
  | (with_reducible refine w_andV ?_)
  | (with_reducible refine w_orV ?_)
  | (with_reducible refine w_notV ?_)
  | (with_reducible refine wo_none ?_)
  | (with_reducible refine wo_some ?_)
  | (with_reducible refine wa_cons ?_)
  | (with_reducible refine wa_nil ?_)
  | (with_reducible refine wt_test ?_)
  | (with_reducible refine wt_B ?_)
  | (with_reducible refine wt_and ?_)
  | (with_reducible refine wt_or ?_)
  | (with_reducible refine wt_not ?_)
  | (with_reducible refine wt_yes ?_)
  | (with_reducible refine w2_i0 ?_)
  | (with_reducible refine w2_b0 ?_)
  | (with_reducible refine w1_neg ?_)
  | ((with_reducible refine w2_i ?hc ?_); (case hc => first | decide | exact ⟨by decide, by decide⟩ | exact Or.inl ⟨by decide, by decide⟩ | exact Or.inr ⟨by decide, by decide⟩ | exact ⟨by decide, by decide, by decide⟩ | omega); skip)
  | ((with_reducible refine' w_var ?hv ?_); (case hv => exact rfl); skip)
  | ((with_reducible show W2 _ (rEqD _) _ _ _ _); (refine w2_eq ?ha ?hb ?_); (case ha => first | exact shaped_int _ | exact shaped_bool _); (case hb => first | exact shaped_int _ | exact shaped_bool _); skip)
  | ((with_reducible show W2 _ (rNeD _) _ _ _ _); (refine w2_ne ?ha ?hb ?_); (case ha => first | exact shaped_int _ | exact shaped_bool _); (case hb => first | exact shaped_int _ | exact shaped_bool _); skip)
  | ((with_reducible show W2 _ _ _ _ _ _); (refine w2_isN ?_))
  | ((with_reducible show W2 _ _ _ _ _ _); (refine w2_notN ?_))
  | (with_reducible refine wl_lenE ?_)
  | (with_reducible refine wl_lenD ?_)
  | (with_reducible refine wl_lenTD ?_)
  | (with_reducible refine wl_listE ?_)
  | (with_reducible refine wsl_E ?_)
  | ((with_reducible refine' w2_catE ?hl ?_); (try (case hl => walk_at "len")); skip)
  | ((with_reducible refine' w2_rep1 ?h1 ?h2 ?_); (try (case h1 => first | decide | omega)); (try (case h2 => first | decide | omega)); skip)
  | ((with_reducible show WL _ _ [_] _ _); (refine' wl_len ?hl ?_); (case hl => first | exact lsv_dat | exact lsv_ref um_same | exact lsv_ref (by assumption)); skip)
  | ((with_reducible show WL _ _ [_] _ _); (refine' wl_list ?hl ?_); (case hl => first | exact .inl lsv_dat | exact .inl (lsv_ref (by assumption))); skip)
  | ((with_reducible show WSl _ (rSlL _) _ _ _ _ _); (refine' wsl_lst ?hl ?_); (case hl => first | exact lsv_dat | exact lsv_ref um_same | exact lsv_ref (by assumption)); skip)
  | ((with_reducible show WL _ _ [_] _ _); (refine wl_int ?_))
  | ((with_reducible show W2 _ (rIxL _) _ _ _ _); (refine' w2_ixL ?hs ?hx ?_); (case hs => first | exact lsv_dat | exact lsv_ref um_same | exact lsv_ref (by assumption)); (try (case hx => exact rfl)); skip)
  | ((with_reducible show W2 _ (rIxT _) _ _ _ _); (refine' w2_ixT ?hx ?_); (try (case hx => exact rfl)); skip)
  | ((with_reducible show WL _ (rIsi _) [_, _] _ _); (refine' wl_isi ?hb ?_); (case hb => first | exact isi_bool _ | exact isi_int _ | exact isi_str _ | exact isi_tuple _ | exact isi_list _); skip)
  | ((with_reducible show W _ (tC (V.ty _)) _ _ _); (refine w_raw ?_))
  | ((with_reducible show WL _ _ [_] _ _); (refine' wl_lenT ?hl ?_); (case hl => exact tpv_dat); skip)
  | (with_reducible refine ws_next ?_)
  | (with_reducible refine ite_t rfl ?_)
  | (with_reducible refine ite_f rfl ?_)
  | ((with_reducible show ∃ b : Bool, _ = Sl.bl b ∧ _); (with_reducible refine ⟨_, rfl, ?_⟩))
  | ((with_reducible show ∃ i : Int, _ = Sl.int i ∧ _); (with_reducible refine ⟨_, rfl, ?_⟩))
  | ((with_reducible show List.length _ ≤ 100000 ∧ _); (refine ⟨(by simp), ?_⟩))
  | ((with_reducible show ∃ ds : List PyData, datsOf _ = some ds ∧ _); (refine ⟨_, rfl, ?_⟩))))
local macro_rules | `(tactic| walk_at "e") => `(tactic| repeat (first | (with_reducible refine ws_seq ?_) | (walk_at "1")))
local macro_rules | `(tactic| walk_at "g") => `(tactic| repeat (first | (walk_at "1") | ((with_reducible refine w_lstI (wa_cons ?_)); (repeat (walk_at "1")); (with_reducible show ∃ ns : List Int, itemsI _ = some ns ∧ _); (refine ⟨_, rfl, ?_⟩)) | (with_reducible refine w_lstD ?_)))
local macro_rules | `(tactic| walk_at "f") => `(tactic| repeat (first | (with_reducible refine ws_seq ?_) | (walk_at "1") | ((with_reducible refine w_lstI (wa_cons ?_)); (repeat (walk_at "1")); (with_reducible show ∃ ns : List Int, itemsI _ = some ns ∧ _); (refine ⟨_, rfl, ?_⟩)) | (with_reducible refine w_lstD ?_)))
local macro_rules | `(tactic| walk_at "k") => `(tactic| first | dsimp only [cxOf, Cx.nox, Cx.wish] | skip)

section
variable {P : Program} {w : World} {K : PySem.W.Frag} {mg : Str → Option Value} {base : Heap} {a : AD} {d : FD}
/-! the draws -/
def DrawL (xs : List Sl) : Prop := ∃ (sc : List Int) (pos cur seed : Int), xs = [.dat (.list (sc.map .int)), .int pos, .int cur, .int seed] ∧ 0 ≤ pos
def A_next : ASp := fun ss M Q => ∃ (p : Addr) (n : Int) (xs : List Sl), ss = [.ref p, .int n] ∧ M p = some (.lst xs) ∧ DrawL xs ∧ 0 < n ∧ n ≤ 10 ^ 40 ∧ ∀ (v : Int) (ys : List Sl), 0 ≤ v → v < n → DrawL ys → Q (.int v) (um M p (.lst ys))
def MidN (M : MH) (p : Addr) (n : Int) (ρ' : Rho) (M' : MH) : Prop := ∃ (xs : List Sl) (y z : Option Sl), ρ' = [some (.ref p), some (.int n), y, z] ∧ M' = um M p (.lst xs) ∧ DrawL xs
theorem ok_next (T : Txt K mg a d) : FnOk P w K mg base CX0 1 a.law_next d.law_next ["_law_state", "_law_limit"] (conc K A_next) := by
  refine ab_ok T.F_law_next sc_law_next (fun ss M Q ⟨p, n, xs, e, _⟩ => by subst e; rfl) fun cdv Ar outer s H E hr => ?_
  have hu64 := hr.units
  refine ⟨_, (pss_cons (ps_if (PW.pt (pw_and (pt_cmpR (r := rEqD K) (op_eqD hu64) (pe_ix (r := rIxL K) ix_list (pv 0) pe_int (fun _ _ => rfl)) pe_int (nomark _)) (pw_and1 (pt_cmpR op_lt (pe_ix (r := rIxL K) ix_list (pv 0) pe_int (fun _ _ => rfl)) (pe_callB (r := rLenS K) call_len_seq (by rfl) T.n_len PySem.boot_len (pa_cons (pe_ix (r := rIxL K) ix_list (pv 0) pe_int (fun _ _ => rfl)) pa_nil)) (nomark _))))) (pss_cons (ps_set (i := 2) sc_law_next.nd rfl (Or.inl rfl) (pe_ix (r := rIxL K) ix_list (pe_ix (r := rIxL K) ix_list (pv 0) pe_int (fun _ _ => rfl)) (pe_ix (r := rIxL K) ix_list (pv 0) pe_int (fun _ _ => rfl)) (fun _ _ => rfl)))
  (pss_cons (ps_augS (pv 0) pe_int pget_list pe_int ip_add set_list)
  (pss_one (ps_if (pt_cmpR op_ge (pv 2) (pe_op op_pow pe_int pe_int) (nomark _)) (pss_one (ps_asg (pv 2) (pg_sub (pv 0) pe_int set_list))) (pss_one (ps_asg (pe_op op_mod (pe_callTy (r := rInt1) call_int1 (by rfl) T.n_int (by decide +kernel) (pa_cons (pe_op op_add (pe_op op_add (pe_op op_mul (pe_ix (r := rIxL K) ix_list (pv 0) pe_int (fun _ _ => rfl)) pe_int) (pe_op op_mod (pe_callTy (r := rInt1) call_int1 (by rfl) T.n_int (by decide +kernel) (pa_cons (pv 2) pa_nil)) pe_int)) pe_int) pa_nil)) pe_int) (pg_sub (pv 0) pe_int set_list))))))) pss_nil)
  (pss_cons (ps_if (pt_cmpR op_gt (pe_ix (r := rIxL K) ix_list (pv 0) pe_int (fun _ _ => rfl)) pe_int (nomark _)) (pss_cons (ps_set (i := 3) sc_law_next.nd rfl (Or.inl rfl) (pe_op op_mod (pe_callTy (r := rInt1) call_int1 (by rfl) T.n_int (by decide +kernel) (pa_cons (pe_ix (r := rIxL K) ix_list (pv 0) pe_int (fun _ _ => rfl)) pa_nil)) (pv 1)))
  (pss_cons (ps_asg (pe_op op_fdivW (pe_ix (r := rIxL K) ix_list (pv 0) pe_int (fun _ _ => rfl)) (pv 1)) (pg_sub (pv 0) pe_int set_list))
  (pss_one (ps_ret (pv 3))))) pss_nil)
  (pss_cons (ps_asg (pe_op op_mod (pe_callTy (r := rInt1) call_int1 (by rfl) T.n_int (by decide +kernel) (pa_cons (pe_op op_add (pe_op op_mul (pe_ix (r := rIxL K) ix_list (pv 0) pe_int (fun _ _ => rfl)) pe_int) pe_int) pa_nil)) pe_int) (pg_sub (pv 0) pe_int set_list))
  (pss_one (ps_ret (pe_op op_mod (pe_callTy (r := rInt1) call_int1 (by rfl) T.n_int (by decide +kernel) (pa_cons (pe_op op_fdiv (pe_ix (r := rIxL K) ix_list (pv 0) pe_int (fun _ _ => rfl)) pe_int) pa_nil)) (pv 1))))))), ?_⟩
  rintro ss M Q ⟨p, n, xs, rfl, hp, ⟨sc, pos, cur, seed, rfl, hpos⟩, hn0, hn1, q⟩
  walk_at "k"
  show WS K _ [some (.ref p), some (.int n), none, none] M _
  refine ws_mid (MidN M p n) ?_ ?_
  · have same : MidN M p n [some (.ref p), some (.int n), none, none] M := ⟨_, none, none, rfl, (um_id hp).symm, sc, pos, cur, seed, rfl, hpos⟩
    walk_at "e"
    refine ite_b (fun _ => ?_) (fun _ => ite_f rfl (ws_next same))
    walk_at "e"
    refine ite_b (fun hlt => ?_) (fun _ => ws_next same)
    have hlt' := of_decide_eq_true hlt
    have hk : pos.toNat < sc.length := by omega
    walk_at "e"
    case hx => exact atI_ok hpos (get_two (List.getElem?_eq_getElem hk))
    refine ws_seq (ws_augL (w_var rfl (w_int ⟨p, _, 1, pos, rfl, rfl, hp, rfl, w_int ⟨1, rfl, hp, ?_⟩⟩)))
    have hp3 : um M p (.lst [.dat (.list (sc.map .int)), .int (pos + 1), .int cur, .int seed]) p = some (.lst [.dat (.list (sc.map .int)), .int (pos + 1), .int cur, .int seed]) := um_same
    show WS K _ [some (.ref p), some (.int n), some (.int sc[pos.toNat]), none] (um M p (.lst [.dat (.list (sc.map .int)), .int (pos + 1), .int cur, .int seed])) _
    walk_at "e"
    refine ite_b (fun _ => ?_) (fun _ => ?_)
    · refine ws_setL (w_var rfl (w_var rfl (w_int ⟨p, _, 2, 2, rfl, rfl, um_same, rfl, ?_⟩)))
      rw [um_um]
      exact ⟨_, some (.int sc[pos.toNat]), none, rfl, rfl, sc, pos + 1, _, seed, rfl, by omega⟩
    · refine ws_setL ?_
      walk_at "e"
      refine ⟨p, _, 3, 3, rfl, rfl, um_same, rfl, ?_⟩
      rw [um_um]
      exact ⟨_, some (.int sc[pos.toNat]), none, rfl, rfl, sc, pos + 1, cur, _, rfl, by omega⟩
  · rintro ρ' M' ⟨xs, y, z, rfl, rfl, sc, pos, cur, seed, rfl, hpos⟩
    have hp2 : um M p (.lst [.dat (.list (sc.map .int)), .int pos, .int cur, .int seed]) p = some (.lst [.dat (.list (sc.map .int)), .int pos, .int cur, .int seed]) := um_same
    have hdiv : CDivW cur n := wide_div (b := 140) hn0 (by omega) (by decide) (by decide)
    walk_at "e"
    refine ite_b (fun hc => ?_) (fun _ => ?_)
    · have hc' := of_decide_eq_true hc
      walk_at "e"
      refine ws_setL ?_
      walk_at "e"
      refine ⟨p, _, 2, 2, rfl, rfl, um_same, rfl, ?_⟩
      rw [um_um]
      walk_at "e"
      exact q _ _ (Int.emod_nonneg _ (by omega)) (Int.emod_lt_of_pos _ hn0) ⟨sc, pos, _, seed, rfl, hpos⟩
    · refine ws_next ?_
      refine ws_seq (ws_setL ?_)
      walk_at "e"
      refine ⟨p, _, 3, 3, rfl, rfl, um_same, rfl, ?_⟩
      rw [um_um]
      have hp4 : um M p (.lst [.dat (.list (sc.map .int)), .int pos, .int cur, .int ((seed * 69621 + 12345) % 2147483647)]) p = some (.lst [.dat (.list (sc.map .int)), .int pos, .int cur, .int ((seed * 69621 + 12345) % 2147483647)]) := um_same
      show WS K _ [some (.ref p), some (.int n), y, z] (um M p (.lst [.dat (.list (sc.map .int)), .int pos, .int cur, .int ((seed * 69621 + 12345) % 2147483647)])) _
      walk_at "e"
      exact q _ _ (Int.emod_nonneg _ (by omega)) (Int.emod_lt_of_pos _ hn0) ⟨sc, pos, cur, _, rfl, hpos⟩
/-! equal data is the same -/
def A_same (n : Nat) : ASp := fun ss M Q => ∃ x : PyData, ss = [.dat x, .dat x] ∧ okD n x = true ∧ Q (.bl true) M
def A_sameN : Nat → ASp
  | 0 => fun _ _ _ => False
  | n + 1 => A_same n
theorem ok_sameN (T : Txt K mg a d) : ∀ n : Nat, FnOk P w K mg base CX0 n a.law_same d.law_same ["_law_actual", "_law_expected"] (conc K (A_sameN n)) := by
  intro n
  induction n with
  | zero => exact ⟨fun vs H Q E h => by obtain ⟨_, _, _, _, _, _, z, _⟩ := h; exact z.elim, fun A outer s H args us vs Q E _ _ _ _ h => by obtain ⟨_, _, _, _, _, _, z, _⟩ := h; exact z.elim⟩
  | succ n ih =>
    have G_law_same := ih
    refine ab_ok T.F_law_same sc_law_same (fun ss M Q ⟨x, e, _⟩ => by subst e; rfl) fun cdv Ar outer s H E hr => ?_
    have hu64 := hr.units
    refine ⟨_, (pss_cons (ps_if (pt_cmpR op_isN (pv 1) pe_non (nomark _)) (pss_one (ps_ret (pe_cmpR op_isN (pv 0) pe_non (nomark _)))) pss_nil)
  (pss_cons (ps_if (pt_val (pe_callB (r := rIsi K) call_isi (by rfl) T.n_isinstance (by decide +kernel) (pa_cons (pv 1) (pa_cons (pe_bltn (v := .ty "bool") (u := .type "bool") (by rfl) T.n_bool (by decide +kernel) rfl) pa_nil)))) (pss_one (ps_ret (pe_and (pe_callB (r := rIsi K) call_isi (by rfl) T.n_isinstance (by decide +kernel) (pa_cons (pv 0) (pa_cons (pe_bltn (v := .ty "bool") (u := .type "bool") (by rfl) T.n_bool (by decide +kernel) rfl) pa_nil))) (pe_one (pe_cmpR (r := rEqD K) (op_eqD hu64) (pv 0) (pv 1) (nomark _)))))) pss_nil)
  (pss_cons (ps_if (pt_val (pe_callB (r := rIsi K) call_isi (by rfl) T.n_isinstance (by decide +kernel) (pa_cons (pv 1) (pa_cons (pe_bltn (v := .ty "int") (u := .type "int") (by rfl) T.n_int (by decide +kernel) rfl) pa_nil)))) (pss_one (ps_ret (pe_and (pe_callB (r := rIsi K) call_isi (by rfl) T.n_isinstance (by decide +kernel) (pa_cons (pv 0) (pa_cons (pe_bltn (v := .ty "int") (u := .type "int") (by rfl) T.n_int (by decide +kernel) rfl) pa_nil))) (pe_and (pe_not (pe_callB (r := rIsi K) call_isi (by rfl) T.n_isinstance (by decide +kernel) (pa_cons (pv 0) (pa_cons (pe_bltn (v := .ty "bool") (u := .type "bool") (by rfl) T.n_bool (by decide +kernel) rfl) pa_nil)))) (pe_one (pe_cmpR (r := rEqD K) (op_eqD hu64) (pv 0) (pv 1) (nomark _))))))) pss_nil)
  (pss_cons (ps_if (pt_val (pe_callB (r := rIsi K) call_isi (by rfl) T.n_isinstance (by decide +kernel) (pa_cons (pv 1) (pa_cons (pe_bltn (v := .ty "str") (u := .type "str") (by rfl) T.n_str (by decide +kernel) rfl) pa_nil)))) (pss_one (ps_ret (pe_and (pe_callB (r := rIsi K) call_isi (by rfl) T.n_isinstance (by decide +kernel) (pa_cons (pv 0) (pa_cons (pe_bltn (v := .ty "str") (u := .type "str") (by rfl) T.n_str (by decide +kernel) rfl) pa_nil))) (pe_one (pe_cmpR (r := rEqD K) (op_eqD hu64) (pv 0) (pv 1) (nomark _)))))) pss_nil)
  (pss_cons (ps_if (PW.pt (pw_and (pt_val (pe_callB (r := rIsi K) call_isi (by rfl) T.n_isinstance (by decide +kernel) (pa_cons (pv 1) (pa_cons (pe_bltn (v := .ty "tuple") (u := .type "tuple") (by rfl) T.n_tuple (by decide +kernel) rfl) pa_nil)))) (pw_and1 (pt_not (pt_val (pe_callB (r := rIsi K) call_isi (by rfl) T.n_isinstance (by decide +kernel) (pa_cons (pv 0) (pa_cons (pe_bltn (v := .ty "tuple") (u := .type "tuple") (by rfl) T.n_tuple (by decide +kernel) rfl) pa_nil)))))))) (pss_one (ps_ret pe_bl)) pss_nil)
  (pss_cons (ps_if (PW.pt (pw_and (pt_val (pe_callB (r := rIsi K) call_isi (by rfl) T.n_isinstance (by decide +kernel) (pa_cons (pv 1) (pa_cons (pe_bltn (v := .ty "list") (u := .type "list") (by rfl) T.n_list (by decide +kernel) rfl) pa_nil)))) (pw_and1 (pt_not (pt_val (pe_callB (r := rIsi K) call_isi (by rfl) T.n_isinstance (by decide +kernel) (pa_cons (pv 0) (pa_cons (pe_bltn (v := .ty "list") (u := .type "list") (by rfl) T.n_list (by decide +kernel) rfl) pa_nil)))))))) (pss_one (ps_ret pe_bl)) pss_nil)
  (pss_cons (ps_if (pt_cmpR (r := rNeD K) (op_neD hu64) (pe_callB (r := rLenS K) call_len_seq (by rfl) T.n_len PySem.boot_len (pa_cons (pv 0) pa_nil)) (pe_callB (r := rLenS K) call_len_seq (by rfl) T.n_len PySem.boot_len (pa_cons (pv 1) pa_nil)) (nomark _)) (pss_one (ps_ret pe_bl)) pss_nil)
  (pss_cons (ps_for PassesOwn.never rfl (pi_range1 rfl T.n_range (pa_cons (pe_callB (r := rLenS K) call_len_seq (by rfl) T.n_len PySem.boot_len (pa_cons (pv 1) pa_nil)) pa_nil)) (pg_name (i := 2) sc_law_same.nd rfl (Or.inl rfl)) (pss_one (ps_if (pt_not (pt_val (pe_call G_law_same (hr.mono (by omega)) (by rfl) T.g_law_same T.F_law_same.kp T.b_law_same .nil pass0 (pa_cons (pe_ix (r := rIx K) ix_seq (pv 0) (pv 2) (fun _ _ => rfl)) (pa_cons (pe_ix (r := rIx K) ix_seq (pv 1) (pv 2) (fun _ _ => rfl)) pa_nil))))) (pss_one (ps_ret pe_bl)) pss_nil)))
  (pss_one (ps_ret pe_bl)))))))))), ?_⟩
    rintro ss M Q ⟨x, rfl, hx, q⟩
    walk_at "k"
    show WS K _ [some (.dat x), some (.dat x), none] M _
    walk_at "e"
    cases x with
    | none =>
      walk_at "e"
      exact q
    | bool b =>
      walk_at "e"
      rw [show PyData.eqv (.bool b) (.bool b) = true by cases b <;> rfl]
      exact q
    | int i =>
      walk_at "e"
      rw [eqv_int, decide_eq_true rfl]
      exact q
    | str x =>
      have hsh : SeqAt.shaped (.str x) = true := okD_shaped (n := 0) (by cases n <;> exact hx) (by decide)
      walk_at "e"
      refine w2_eq hsh hsh ?_
      rw [eqv_self hx]
      exact q
    | dict _ => cases n <;> cases hx
    | tuple xs =>
      cases n with
      | zero => cases hx
      | succ m =>
        obtain ⟨hl, ho⟩ := okD_tuple hx
        walk_at "e"
        rw [eqv_int, decide_eq_true rfl]
        walk_at "e"
        refine ws_forR1 (n := (xs.length : Int)) (M1 := M) (by walk_at "e"; exact ⟨rfl, rfl⟩) (by omega)
          (fun i ρ' M' => ∃ y, ρ' = [some (.dat (.tuple xs)), some (.dat (.tuple xs)), y] ∧ M' = M) ⟨_, rfl, rfl⟩ ?_ ?_
        · rintro i ρ' M' hi ⟨y, rfl, rfl⟩
          have hi' : i < xs.length := by omega
          refine wg_name ?_
          have hat : atI xs (i : Int) = some xs[i] := atI_nat (List.getElem?_eq_getElem hi')
          walk_at "e"
          refine w2_ixDT hat ?_
          walk_at "e"
          refine w2_ixDT hat ?_
          walk_at "e"
          refine ⟨xs[i], rfl, okD_mem ho (List.getElem_mem hi'), ?_⟩
          walk_at "e"
          exact ⟨_, rfl, rfl⟩
        · rintro ρ' M' ⟨y, rfl, rfl⟩
          walk_at "e"
          exact q
    | list xs =>
      cases n with
      | zero => cases hx
      | succ m =>
        obtain ⟨hl, ho⟩ := okD_list hx
        walk_at "e"
        rw [eqv_int, decide_eq_true rfl]
        walk_at "e"
        refine ws_forR1 (n := (xs.length : Int)) (M1 := M) (by walk_at "e"; exact ⟨rfl, rfl⟩) (by omega)
          (fun i ρ' M' => ∃ y, ρ' = [some (.dat (.list xs)), some (.dat (.list xs)), y] ∧ M' = M) ⟨_, rfl, rfl⟩ ?_ ?_
        · rintro i ρ' M' hi ⟨y, rfl, rfl⟩
          have hi' : i < xs.length := by omega
          refine wg_name ?_
          have hat : atI xs (i : Int) = some xs[i] := atI_nat (List.getElem?_eq_getElem hi')
          walk_at "e"
          refine w2_ixDL hat ?_
          walk_at "e"
          refine w2_ixDL hat ?_
          walk_at "e"
          refine ⟨xs[i], rfl, okD_mem ho (List.getElem_mem hi'), ?_⟩
          walk_at "e"
          exact ⟨_, rfl, rfl⟩
        · rintro ρ' M' ⟨y, rfl, rfl⟩
          walk_at "e"
          exact q
end
end K07


set_option Elab.async false
set_option linter.all false
set_option maxRecDepth 100000
set_option  maxHeartbeats 4000000
namespace K07
open PySem PyProof.Rows L2 Ab
local macro_rules | `(tactic| walk_at "len") => `(tactic| first | decide | omega | (simp only [List.length_append, List.length_map, List.length_replicate, List.length_cons, List.length_nil, List.length_take, List.length_drop, List.length_reverse, List.length_range]; omega))
local macro_rules | `(tactic| walk_at "1") => `(tactic| (first
  | (with_reducible refine ws_set ?_)
  | (with_reducible refine ws_ret ?_)
  | (with_reducible refine ws_if ?_)
  | (with_reducible refine ws_drop ?_)
  | (with_reducible refine w_op ?_)
  | (with_reducible refine w_int ?_)
  | (with_reducible refine w_bl ?_)
  | (with_reducible refine w_non ?_)
  | (with_reducible refine w_str ?_)
  | (with_reducible refine w_cb ?_)
  | (with_reducible refine w_call ?_)
  | (with_reducible refine w_sl ?_)
  | (with_reducible refine w_tupD ?_)
  | (with_reducible refine w_chain ?_)
  | (with_reducible refine w_andV ?_)
  | (with_reducible refine w_orV ?_)
  | (with_reducible refine w_notV ?_)
  | (with_reducible refine wo_none ?_)
  | (with_reducible refine wo_some ?_)
  | (with_reducible refine wa_cons ?_)
  | (with_reducible refine wa_nil ?_)
  | (with_reducible refine wt_test ?_)
  | (with_reducible refine wt_B ?_)
  | (with_reducible refine wt_and ?_)
  | (with_reducible refine wt_or ?_)
  | (with_reducible refine wt_not ?_)
  | (with_reducible refine wt_yes ?_)
  | (with_reducible refine w2_i0 ?_)
  | (with_reducible refine w2_b0 ?_)
  | (with_reducible refine w1_neg ?_)
  | ((with_reducible refine w2_i ?hc ?_); (case hc => first | decide | exact ⟨by decide, by decide⟩ | exact Or.inl ⟨by decide, by decide⟩ | exact Or.inr ⟨by decide, by decide⟩ | exact ⟨by decide, by decide, by decide⟩ | omega); skip)
  | ((with_reducible refine' w_var ?hv ?_); (case hv => exact rfl); skip)
  | ((with_reducible show W2 _ (rEqD _) _ _ _ _); (refine w2_eq ?ha ?hb ?_); (case ha => first | exact shaped_int _ | exact shaped_bool _); (case hb => first | exact shaped_int _ | exact shaped_bool _); skip)
  | ((with_reducible show W2 _ (rNeD _) _ _ _ _); (refine w2_ne ?ha ?hb ?_); (case ha => first | exact shaped_int _ | exact shaped_bool _); (case hb => first | exact shaped_int _ | exact shaped_bool _); skip)
  | ((with_reducible show W2 _ _ _ _ _ _); (refine w2_isN ?_))
  | ((with_reducible show W2 _ _ _ _ _ _); (refine w2_notN ?_))
  | (with_reducible refine wl_lenE ?_)
  | (with_reducible refine wl_lenD ?_)
  | (with_reducible refine wl_lenTD ?_)
  | (with_reducible refine wl_listE ?_)
  | (with_reducible refine wsl_E ?_)
  | ((with_reducible refine' w2_catE ?hl ?_); (try (case hl => walk_at "len")); skip)
  | ((with_reducible refine' w2_rep1 ?h1 ?h2 ?_); (try (case h1 => first | decide | omega)); (try (case h2 => first | decide | omega)); skip)
  | ((with_reducible show WL _ _ [_] _ _); (refine' wl_len ?hl ?_); (case hl => first | exact lsv_dat | exact lsv_ref um_same | exact lsv_ref (by assumption)); skip)
  | ((with_reducible show WL _ _ [_] _ _); (refine' wl_list ?hl ?_); (case hl => first | exact .inl lsv_dat | exact .inl (lsv_ref (by assumption))); skip)
  | ((with_reducible show WSl _ (rSlL _) _ _ _ _ _); (refine' wsl_lst ?hl ?_); (case hl => first | exact lsv_dat | exact lsv_ref um_same | exact lsv_ref (by assumption)); skip)
  | ((with_reducible show WL _ _ [_] _ _); (refine wl_int ?_))
  | ((with_reducible show W2 _ (rIxL _) _ _ _ _); (refine' w2_ixL ?hs ?hx ?_); (case hs => first | exact lsv_dat | exact lsv_ref um_same | exact lsv_ref (by assumption)); (try (case hx => exact rfl)); skip)
  | ((with_reducible show W2 _ (rIxT _) _ _ _ _); (refine' w2_ixT ?hx ?_); (try (case hx => exact rfl)); skip)
  | ((with_reducible show WL _ (rIsi _) [_, _] _ _); (refine' wl_isi ?hb ?_); (case hb => first | exact isi_bool _ | exact isi_int _ | exact isi_str _ | exact isi_tuple _ | exact isi_list _); skip)
  | ((with_reducible show W _ (tC (V.ty _)) _ _ _); (refine w_raw ?_))
  | ((with_reducible show WL _ _ [_] _ _); (refine' wl_lenT ?hl ?_); (case hl => exact tpv_dat); skip)
  | (with_reducible refine ws_next ?_)
  | (with_reducible refine ite_t rfl ?_)
  | (with_reducible refine ite_f rfl ?_)
  | ((with_reducible show ∃ b : Bool, _ = Sl.bl b ∧ _); (with_reducible refine ⟨_, rfl, ?_⟩))
  | ((with_reducible show ∃ i : Int, _ = Sl.int i ∧ _); (with_reducible refine ⟨_, rfl, ?_⟩))
  | ((with_reducible show List.length _ ≤ 100000 ∧ _); (refine ⟨(by simp), ?_⟩))
  | ((with_reducible show ∃ ds : List PyData, datsOf _ = some ds ∧ _); (refine ⟨_, rfl, ?_⟩))))
local macro_rules | `(tactic| walk_at "e") => `(tactic| repeat (first | (with_reducible refine ws_seq ?_) | (walk_at "1")))
local macro_rules | `(tactic| walk_at "g") => `(tactic| repeat (first | (walk_at "1") | ((with_reducible refine w_lstI (wa_cons ?_)); (repeat (walk_at "1")); (with_reducible show ∃ ns : List Int, itemsI _ = some ns ∧ _); (refine ⟨_, rfl, ?_⟩)) | (with_reducible refine w_lstD ?_)))
local macro_rules | `(tactic| walk_at "f") => `(tactic| repeat (first | (with_reducible refine ws_seq ?_) | (walk_at "1") | ((with_reducible refine w_lstI (wa_cons ?_)); (repeat (walk_at "1")); (with_reducible show ∃ ns : List Int, itemsI _ = some ns ∧ _); (refine ⟨_, rfl, ?_⟩)) | (with_reducible refine w_lstD ?_)))
local macro_rules | `(tactic| walk_at "k") => `(tactic| first | dsimp only [cxOf, Cx.nox, Cx.wish] | skip)

section
variable {P : Program} {w : World} {K : PySem.W.Frag} {mg : Str → Option Value} {base : Heap} {a : AD} {d : FD}
def A_area_size : ASp := fun ss M Q => ∃ n : Int, ss = [.int n] ∧ Q (.int ((n - 2) / 2)) M
theorem ok_area_size (T : Txt K mg a d) : FnOk P w K mg base CX0 1 a.area_size d.area_size ["size"] (conc K A_area_size) := by
  refine ab_ok T.F_area_size sc_area_size (fun ss M Q ⟨n, e, _⟩ => by subst e; rfl) fun cdv Ar outer s H E hr => ⟨_, (pss_one (ps_ret (pe_op op_fdiv (pe_op op_sub (pv 0) pe_int) pe_int))), ?_⟩
  rintro ss M Q ⟨n, rfl, q⟩
  walk_at "k"
  show WS K _ [some (.int n)] M _
  walk_at "e"
  exact q
def A_area_start : ASp := fun ss M Q => ∃ n i : Int, ss = [.int n, .int i] ∧ 0 ≤ i ∧ i ≤ 1 ∧ 0 ≤ n ∧ n ≤ 1000 ∧ Q (.int (2 + i * ((n - 2) / 2))) M
theorem ok_area_start (T : Txt K mg a d) : FnOk P w K mg base CX0 2 a.area_start d.area_start ["size", "area"] (conc K A_area_start) := by
  have G_area_size : FnOk P w K mg base CX0 1 a.area_size d.area_size ["size"] (conc K A_area_size) := ok_area_size T
  refine ab_ok T.F_area_start sc_area_start (fun ss M Q ⟨n, i, e, _⟩ => by subst e; rfl) fun cdv Ar outer s H E hr => ⟨_, (pss_one (ps_ret (pe_op op_add pe_int (pe_op op_mulW (pv 1) (pe_call G_area_size (hr.mono (by omega)) (by rfl) T.g_area_size T.F_area_size.kp T.b_area_size .nil pass0 (pa_cons (pv 0) pa_nil)))))), ?_⟩
  rintro ss M Q ⟨n, i, rfl, h1, h2, h3, h4, q⟩
  walk_at "k"
  show WS K _ [some (.int n), some (.int i)] M _
  walk_at "e"
  refine ⟨n, rfl, ?_⟩
  have hm : CMulW i ((n - 2) / 2) := wide_mul (a := 2) (b := 20) (by omega) (by omega) (by decide) (by decide) (by decide)
  walk_at "e"
  exact q
def A_head : ASp := fun ss M Q => ∃ t i : Int, ss = [.int t, .int i] ∧ Q (lsi ([82, 85, 76, 69] ++ be t 6 ++ [i] ++ List.replicate 53 0)) M
theorem lsv_k {c : Addr} {ns : List Int} {M : MH} (h : ∃ o its n, K.lookup c = some o ∧ o.cls = .type "list" ∧ o.dict = none ∧ o.data = .seq its n ∧ its.size ≤ sizeLine ∧ Vals (ns.map V.int) its.toList) : LsV K (.raw (.ref c)) M ((ns.map PyData.int).map .dat) := by
  obtain ⟨o, its, n, h1, h2, h3, h4, h5, h6⟩ := h
  refine .inr (.inr ⟨c, ns.map V.int, rfl, fun H => .inr ⟨o, its, n, h1, h2, h3, h4, h5, h6⟩, fun B => ?_⟩)
  clear h6
  induction ns with
  | nil => exact .nil
  | cons x xs ih => exact .cons slok_int ih
theorem ok_head (T : Txt K mg a d) : FnOk P w K mg base CX0 2 a.head d.head ["turn", "area"] (conc K A_head) := by
  have G_fixed : FnOk P w K mg base CX0 1 a.fixed d.fixed ["number", "count"] (conc K A_fixed) := ok_fixed T
  refine ab_ok T.F_head sc_head (fun ss M Q ⟨n, i, e, _⟩ => by subst e; rfl) fun cdv Ar outer s H E hr => ⟨_, (pss_one (ps_ret (pe_op (r := rCatL K) op_catL (pe_op (r := rCatL K) op_catL (pe_op (r := rCatL K) op_catL (pe_glob (v := .ref a.c_MARK) (by rfl) T.c_MARK rfl) (pe_call G_fixed (hr.mono (by omega)) (by rfl) T.g_fixed T.F_fixed.kp T.b_fixed .nil pass0 (pa_cons (pv 0) (pa_cons pe_int pa_nil)))) (pe_lst (pa_cons (pv 1) pa_nil))) (pe_op op_repL (pe_lst (pa_cons pe_int pa_nil)) (pe_glob (v := .int 53) (by rfl) T.c_HEAD_ZEROS ⟨_, rfl⟩))))), ?_⟩
  rintro ss M Q ⟨t, i, rfl, q⟩
  walk_at "k"
  show WS K _ [some (.int t), some (.int i)] M _
  have hk := T.k_MARK
  walk_at "e"
  refine w_raw ?_
  walk_at "e"
  refine ⟨t, 6, rfl, by decide, ?_⟩
  refine w2_cat (ds := [82, 85, 76, 69].map .int) (es := (be t 6).map .int) (lsv_k (ns := [82, 85, 76, 69]) hk) lsv_dat (by rw [List.length_map, List.length_map, be_len]; decide) ?_
  rw [← List.map_append]
  have hb := be_len t 6
  walk_at "f"
  exact q
def isHead (s : List Int) : Bool := !(decide (numOf ((s.drop 4).take 6) < 1)) && (!(decide (1 < s.getD 10 0)) && decide (s = [82, 85, 76, 69] ++ be (numOf ((s.drop 4).take 6)) 6 ++ [s.getD 10 0] ++ List.replicate 53 0))
def A_read_head : ASp := fun ss M Q => ∃ s : List Int, ss = [lsi s] ∧ 11 ≤ s.length ∧ s.length ≤ 1000 ∧ Q (.dat (if isHead s then .tuple [.int (numOf ((s.drop 4).take 6)), .int (s.getD 10 0)] else .none)) M
theorem ok_read_head (T : Txt K mg a d) : FnOk P w K mg base CX0 3 a.read_head d.read_head ["sector"] (conc K A_read_head) := by
  have G_number_of : FnOk P w K mg base CX0 1 a.number_of d.number_of ["data"] (conc K A_number_of) := ok_number_of T
  have G_head : FnOk P w K mg base CX0 2 a.head d.head ["turn", "area"] (conc K A_head) := ok_head T
  refine ab_ok T.F_read_head sc_read_head (fun ss M Q ⟨n, e, _⟩ => by subst e; rfl) fun cdv Ar outer s H E hr => ?_
  have hu64 := hr.units
  refine ⟨_, (pss_cons (ps_set (i := 1) sc_read_head.nd rfl (Or.inl rfl) (pe_call G_number_of (hr.mono (by omega)) (by rfl) T.g_number_of T.F_number_of.kp T.b_number_of .nil pass0 (pa_cons (pe_slice (r := rSlL K) sl_list (pv 0) (po_some pe_int) (po_some pe_int)) pa_nil)))
  (pss_cons (ps_set (i := 2) sc_read_head.nd rfl (Or.inl rfl) (pe_ix (r := rIxL K) ix_list (pv 0) pe_int (fun _ _ => rfl)))
  (pss_cons (ps_if (PW.pt (pw_or (pt_cmpR op_lt (pv 1) pe_int (nomark _)) (pw_or (pt_cmpR op_gt (pv 2) pe_int (nomark _)) (pw_or1 (pt_cmpR (r := rNeD K) (op_neD hu64) (pv 0) (pe_call G_head (hr.mono (by omega)) (by rfl) T.g_head T.F_head.kp T.b_head .nil pass0 (pa_cons (pv 1) (pa_cons (pv 2) pa_nil))) (nomark _)))))) (pss_one (ps_ret pe_non)) pss_nil)
  (pss_one (ps_ret (pe_tup (pa_cons (pv 1) (pa_cons (pv 2) pa_nil)))))))), ?_⟩
  rintro ss M Q ⟨s, rfl, h1, h2, q⟩
  walk_at "k"
  show WS K _ [some (lsi s), none, none] M _
  walk_at "e"
  rw [cutG_int _ (by decide) (by decide)]
  refine ⟨_, rfl, ?_⟩
  have h10 : atI ((s.map PyData.int).map Sl.dat) 10 = some (.int (s.getD 10 0)) := atI_two 0 (by decide) (by show 10 < s.length; omega)
  walk_at "e"
  case hx => exact h10
  walk_at "e"
  show if decide (numOf ((s.drop 4).take 6) < 1) = true then _ else _
  refine ite_b (fun c1 => ?_) (fun c1 => ?_)
  · walk_at "e"
    rw [show isHead s = false by unfold isHead; rw [c1]; rfl] at q
    exact q
  walk_at "e"
  refine ite_b (fun c2 => ?_) (fun c2 => ?_)
  · walk_at "e"
    rw [show isHead s = false by unfold isHead; rw [c1, c2]; rfl] at q
    exact q
  walk_at "e"
  refine ⟨_, _, rfl, ?_⟩
  have k1 : SeqAt.shaped (.list (s.map .int)) = true := okD_shaped (okD_lsi 0 (by omega)) (by decide)
  have k2 : SeqAt.shaped (.list (([82, 85, 76, 69] ++ be (numOf ((s.drop 4).take 6)) 6 ++ [s.getD 10 0] ++ List.replicate 53 0).map .int)) = true := okD_shaped (okD_lsi 0 (by simp [be_len])) (by decide)
  refine w2_ne k1 k2 ?_
  rw [eqv_lsi]
  walk_at "e"
  refine ite_b (fun c3 => ?_) (fun c3 => ?_)
  · walk_at "e"
    have c3' : decide (s = [82, 85, 76, 69] ++ be (numOf ((s.drop 4).take 6)) 6 ++ [s.getD 10 0] ++ List.replicate 53 0) = false := by simpa using c3
    rw [show isHead s = false by unfold isHead; rw [c1, c2, c3']; rfl] at q
    exact q
  · walk_at "e"
    have c3' : decide (s = [82, 85, 76, 69] ++ be (numOf ((s.drop 4).take 6)) 6 ++ [s.getD 10 0] ++ List.replicate 53 0) = true := by simpa using c3
    rw [show isHead s = true by unfold isHead; rw [c1, c2, c3']; rfl] at q
    exact q
end
end K07


set_option Elab.async false
set_option linter.all false
set_option maxRecDepth 100000
set_option  maxHeartbeats 4000000
namespace K07
open PySem PyProof.Rows L2 Ab
local macro_rules | `(tactic| walk_at "len") => `(tactic| first | decide | omega | (simp only [List.length_append, List.length_map, List.length_replicate, List.length_cons, List.length_nil, List.length_take, List.length_drop, List.length_reverse, List.length_range]; omega))
local macro_rules | `(tactic| walk_at "1") => `(tactic| (first
  | (with_reducible refine ws_set ?_)
  | (with_reducible refine ws_ret ?_)
  | (with_reducible refine ws_if ?_)
  | (with_reducible refine ws_drop ?_)
  | (with_reducible refine w_op ?_)
  | (with_reducible refine w_int ?_)
  | (with_reducible refine w_bl ?_)
  | (with_reducible refine w_non ?_)
  | (with_reducible refine w_str ?_)
  | (with_reducible refine w_cb ?_)
  | (with_reducible refine w_call ?_)
  | (with_reducible refine w_sl ?_)
  | (with_reducible refine w_tupD ?_)
  | (with_reducible refine w_chain ?_)
  | (with_reducible refine w_andV ?_)
  | (with_reducible refine w_orV ?_)
  | (with_reducible refine w_notV ?_)
  | (with_reducible refine wo_none ?_)
  | (with_reducible refine wo_some ?_)
  | (with_reducible refine wa_cons ?_)
  | (with_reducible refine wa_nil ?_)
  | (with_reducible refine wt_test ?_)
  | (with_reducible refine wt_B ?_)
  | (with_reducible refine wt_and ?_)
  | (with_reducible refine wt_or ?_)
  | (with_reducible refine wt_not ?_)
  | (with_reducible refine wt_yes ?_)
  | (with_reducible refine w2_i0 ?_)
  | (with_reducible refine w2_b0 ?_)
  | (with_reducible refine w1_neg ?_)
  | ((with_reducible refine w2_i ?hc ?_); (case hc => first | decide | exact ⟨by decide, by decide⟩ | exact Or.inl ⟨by decide, by decide⟩ | exact Or.inr ⟨by decide, by decide⟩ | exact ⟨by decide, by decide, by decide⟩ | omega); skip)
  | ((with_reducible refine' w_var ?hv ?_); (case hv => exact rfl); skip)
  | ((with_reducible show W2 _ (rEqD _) _ _ _ _); (refine w2_eq ?ha ?hb ?_); (case ha => first | exact shaped_int _ | exact shaped_bool _); (case hb => first | exact shaped_int _ | exact shaped_bool _); skip)
  | ((with_reducible show W2 _ (rNeD _) _ _ _ _); (refine w2_ne ?ha ?hb ?_); (case ha => first | exact shaped_int _ | exact shaped_bool _); (case hb => first | exact shaped_int _ | exact shaped_bool _); skip)
  | ((with_reducible show W2 _ _ _ _ _ _); (refine w2_isN ?_))
  | ((with_reducible show W2 _ _ _ _ _ _); (refine w2_notN ?_))
  | (with_reducible refine wl_lenE ?_)
  | (with_reducible refine wl_lenD ?_)
  | (with_reducible refine wl_lenTD ?_)
  | (with_reducible refine wl_listE ?_)
  | (with_reducible refine wsl_E ?_)
  | ((with_reducible refine' w2_catE ?hl ?_); (try (case hl => walk_at "len")); skip)
  | ((with_reducible refine' w2_rep1 ?h1 ?h2 ?_); (try (case h1 => first | decide | omega)); (try (case h2 => first | decide | omega)); skip)
  | ((with_reducible show WL _ _ [_] _ _); (refine' wl_len ?hl ?_); (case hl => first | exact lsv_dat | exact lsv_ref um_same | exact lsv_ref (by assumption)); skip)
  | ((with_reducible show WL _ _ [_] _ _); (refine' wl_list ?hl ?_); (case hl => first | exact .inl lsv_dat | exact .inl (lsv_ref (by assumption))); skip)
  | ((with_reducible show WSl _ (rSlL _) _ _ _ _ _); (refine' wsl_lst ?hl ?_); (case hl => first | exact lsv_dat | exact lsv_ref um_same | exact lsv_ref (by assumption)); skip)
  | ((with_reducible show WL _ _ [_] _ _); (refine wl_int ?_))
  | ((with_reducible show W2 _ (rIxL _) _ _ _ _); (refine' w2_ixL ?hs ?hx ?_); (case hs => first | exact lsv_dat | exact lsv_ref um_same | exact lsv_ref (by assumption)); (try (case hx => exact rfl)); skip)
  | ((with_reducible show W2 _ (rIxT _) _ _ _ _); (refine' w2_ixT ?hx ?_); (try (case hx => exact rfl)); skip)
  | ((with_reducible show WL _ (rIsi _) [_, _] _ _); (refine' wl_isi ?hb ?_); (case hb => first | exact isi_bool _ | exact isi_int _ | exact isi_str _ | exact isi_tuple _ | exact isi_list _); skip)
  | ((with_reducible show W _ (tC (V.ty _)) _ _ _); (refine w_raw ?_))
  | ((with_reducible show WL _ _ [_] _ _); (refine' wl_lenT ?hl ?_); (case hl => exact tpv_dat); skip)
  | (with_reducible refine ws_next ?_)
  | (with_reducible refine ite_t rfl ?_)
  | (with_reducible refine ite_f rfl ?_)
  | ((with_reducible show ∃ b : Bool, _ = Sl.bl b ∧ _); (with_reducible refine ⟨_, rfl, ?_⟩))
  | ((with_reducible show ∃ i : Int, _ = Sl.int i ∧ _); (with_reducible refine ⟨_, rfl, ?_⟩))
  | ((with_reducible show List.length _ ≤ 100000 ∧ _); (refine ⟨(by simp), ?_⟩))
  | ((with_reducible show ∃ ds : List PyData, datsOf _ = some ds ∧ _); (refine ⟨_, rfl, ?_⟩))))
local macro_rules | `(tactic| walk_at "e") => `(tactic| repeat (first | (with_reducible refine ws_seq ?_) | (walk_at "1")))
local macro_rules | `(tactic| walk_at "g") => `(tactic| repeat (first | (walk_at "1") | ((with_reducible refine w_lstI (wa_cons ?_)); (repeat (walk_at "1")); (with_reducible show ∃ ns : List Int, itemsI _ = some ns ∧ _); (refine ⟨_, rfl, ?_⟩)) | (with_reducible refine w_lstD ?_)))
local macro_rules | `(tactic| walk_at "f") => `(tactic| repeat (first | (with_reducible refine ws_seq ?_) | (walk_at "1") | ((with_reducible refine w_lstI (wa_cons ?_)); (repeat (walk_at "1")); (with_reducible show ∃ ns : List Int, itemsI _ = some ns ∧ _); (refine ⟨_, rfl, ?_⟩)) | (with_reducible refine w_lstD ?_)))
local macro_rules | `(tactic| walk_at "k") => `(tactic| first | dsimp only [cxOf, Cx.nox, Cx.wish] | skip)

local macro_rules | `(tactic| walk_at "len") => `(tactic| (simp only [List.length_append, List.length_map, List.length_replicate, List.length_cons, List.length_nil, List.length_take, List.length_drop, List.length_reverse, List.length_range, lsb_len, be_len]; omega))
section
variable {P : Program} {w : World} {K : PySem.W.Frag} {mg : Str → Option Value} {base : Heap} {a : AD} {d : FD}
abbrev ll (x : List Int) : PyData := .list (x.map .int)
theorem nCh_eq (n : Nat) : ((n : Int) + 54 - 1) / 54 = (nCh n : Int) := by
  unfold nCh
  omega
theorem chunk_len (c : List Int) (k : Nat) : (chunk c k).length ≤ 54 := by
  unfold chunk
  rw [List.length_take]
  omega
theorem content_len (data : List Int) : (content data).length = data.length + 4 := by
  unfold content
  rw [List.length_append, be_len]
  omega
theorem cut_chunk (c : List Int) (k : Nat) : cutG c (some (0 + (k : Int) * 54)) (some (0 + (k : Int) * 54 + 54)) = chunk c k := by
  rw [cutG_int _ (by omega) (by omega)]
  unfold chunk
  congr 1
  · omega
  · congr 1
    omega
def A_write_block : ASp := fun ss M Q => ∃ (t : Int) (data : List Int), ss = [.int t, lsi data] ∧ data.length ≤ 1000 ∧ Q (lsm ll (block t data)) M
theorem ok_write_block (T : Txt K mg a d) : FnOk P w K mg base CX0 2 a.write_block d.write_block ["turn", "data"] (conc K A_write_block) := by
  have G_fixed : FnOk P w K mg base CX0 1 a.fixed d.fixed ["number", "count"] (conc K A_fixed) := ok_fixed T
  refine ab_ok T.F_write_block sc_write_block (fun ss M Q ⟨n, i, e, _⟩ => by subst e; rfl) fun cdv Ar outer s H E hr => ⟨_, (pss_cons (ps_set (i := 2) sc_write_block.nd rfl (Or.inr rfl) (pe_op (r := rCatL K) op_catL (pe_call G_fixed (hr.mono (by omega)) (by rfl) T.g_fixed T.F_fixed.kp T.b_fixed .nil pass0 (pa_cons (pe_callB (r := rLenS K) call_len_seq (by rfl) T.n_len PySem.boot_len (pa_cons (pv 1) pa_nil)) (pa_cons pe_int pa_nil))) (pe_callTy (r := rListS K) call_list_of (by rfl) T.n_list (by decide +kernel) (pa_cons (pv 1) pa_nil))))
  (pss_cons (ps_setLc (i := 3) (own := [("start", 4)]) rfl sc_write_block.nd rfl rfl (sw_true rfl rfl rfl (by decide +kernel)) (pi_range3 rfl T.n_range (pa_cons pe_int (pa_cons (pe_callB (r := rLenS K) call_len_seq (by rfl) T.n_len PySem.boot_len (pa_cons (pv 2) pa_nil)) (pa_cons (pe_glob (v := .int 54) (by rfl) T.c_PIECE ⟨_, rfl⟩) pa_nil)))) (blkOk_by (own := [("start", 4)]) (N := ["turn", "data", "content", "pieces", "start", "front", "piece"]) (sc := (defScope s_write_block)) (by decide +kernel)) (fun _ _ _ _ _ => (pg_name (i := 4) sc_write_block.nd rfl (Or.inl rfl))) (fun _ _ _ _ _ => pts_nil) (fun _ _ _ _ _ => (pe_slice (r := rSlL K) sl_list (pv 2) (po_some (pv 4)) (po_some (pe_op op_add (pv 4) (pe_glob (v := .int 54) (by rfl) T.c_PIECE ⟨_, rfl⟩))))))
  (pss_cons (ps_set (i := 5) sc_write_block.nd rfl (Or.inr rfl) (pe_op (r := rCatL K) op_catL (pe_call G_fixed (hr.mono (by omega)) (by rfl) T.g_fixed T.F_fixed.kp T.b_fixed .nil pass0 (pa_cons (pv 0) (pa_cons pe_int pa_nil))) (pe_call G_fixed (hr.mono (by omega)) (by rfl) T.g_fixed T.F_fixed.kp T.b_fixed .nil pass0 (pa_cons (pe_callB (r := rLenS K) call_len_seq (by rfl) T.n_len PySem.boot_len (pa_cons (pv 3) pa_nil)) (pa_cons pe_int pa_nil)))))
  (pss_one (ps_ret (pe_lc (own := [("piece", 6)]) rfl sc_write_block.nd (pi_list (pv 3)) (blkOk_by (own := [("piece", 6)]) (N := ["turn", "data", "content", "pieces", "start", "front", "piece"]) (sc := (defScope s_write_block)) (by decide +kernel)) (fun _ _ _ _ _ => (pg_name (i := 6) sc_write_block.nd rfl (Or.inl rfl))) (fun _ _ _ _ _ => pts_nil) (fun _ _ _ _ _ => (pe_op (r := rCatL K) op_catL (pe_op (r := rCatL K) op_catL (pv 5) (pv 6)) (pe_op op_repL (pe_lst (pa_cons pe_int pa_nil)) (pe_op op_sub (pe_glob (v := .int 54) (by rfl) T.c_PIECE ⟨_, rfl⟩) (pe_callB (r := rLenS K) call_len_seq (by rfl) T.n_len PySem.boot_len (pa_cons (pv 6) pa_nil)))))))))))), ?_⟩
  rintro ss M Q ⟨t, data, rfl, hl, q⟩
  walk_at "k"
  show WS K _ [some (.int t), some (lsi data), none, none, none, none, none] M _
  walk_at "e"
  refine ⟨_, 4, rfl, by decide, ?_⟩
  walk_at "e"
  walk_at "e"
  have hcl := content_len data
  show W K _ [some (.int t), some (lsi data), some (lsm .int (content data)), none, none, none, none] M _
  generalize hc : content data = c at hcl
  refine w_lc (List.mem_cons_self) (wi_r3 ?_)
  walk_at "e"
  refine ⟨0, _, 54, nCh c.length, rfl, ⟨by decide, by decide, small_pos (by omega) (by omega) (by decide) (by decide), ?_⟩, ?_⟩
  · rw [rangeSize_pos (by decide) (by omega), nCh_eq]
  refine ⟨fun i acc M' => M' = M ∧ acc = (List.range i).map fun k => ll (chunk c k), ⟨rfl, rfl⟩, fun _ _ _ _ _ _ _ _ => trivial, ?_, ?_⟩
  · rintro i acc M' D hi ⟨rfl, rfl⟩ hD
    walk_at "e"
    rw [cut_chunk]
    refine ⟨_, M', rfl, rfl, hD, by simp; unfold nCh at hi; omega, rfl, ?_⟩
    rw [List.range_succ, List.map_append]
    rfl
  · rintro acc M' ⟨rfl, rfl⟩
    rw [show ((List.range (nCh c.length)).map fun k => ll (chunk c k)) = ((List.range (nCh c.length)).map (chunk c)).map ll by rw [List.map_map]; rfl]
    walk_at "e"
    refine ⟨_, 6, rfl, by decide, ?_⟩
    walk_at "e"
    refine ⟨_, 4, rfl, by decide, ?_⟩
    walk_at "e"
    walk_at "e"
    rw [List.length_map, List.length_range]
    walk_at "e"
    refine w_lcD (xs := (List.range (nCh c.length)).map (chunk c)) (enc := ll) (M1 := M') List.mem_cons_self (by exact w_var rfl ⟨rfl, rfl⟩) (by simp; unfold nCh; omega) (fun p => ll (be t 6 ++ be (nCh c.length : Int) 4 ++ p ++ List.replicate (54 - p.length) 0)) ?_ ?_
    · intro p D o hp hD
      obtain ⟨k, hk, rfl⟩ := List.mem_map.mp hp
      have hpl := chunk_len c k
      walk_at "f"
      rw [show (54 - ((chunk c k).length : Int)).toNat = 54 - (chunk c k).length by omega]
      exact ⟨rfl, rfl⟩
    · have e : lsm (fun p => ll (be t 6 ++ be (nCh c.length : Int) 4 ++ p ++ List.replicate (54 - p.length) 0)) ((List.range (nCh c.length)).map (chunk c)) = lsm ll (block t data) := by
        subst hc
        show Sl.dat (.list _) = Sl.dat (.list _)
        unfold block
        rw [List.map_map, List.map_map]
        rfl
      rw [← e] at q
      exact q
/-! reading -/
def hasTurn (t : Int) (s : List Int) : Bool := decide (numOf (s.take 6) = t)
def body (ss : List (List Int)) : List Int := (ss.map fun s => s.drop 10).flatten
def readB (ss : List (List Int)) (t : Int) : PyData :=
  let cnt := numOf (((ss.getD 0 []).drop 6).take 4)
  let c := body (ss.take cnt.toNat)
  let n := numOf (c.take 4)
  if ss.length = 0 then .none
  else if ¬ (1 ≤ cnt ∧ cnt ≤ (ss.length : Int)) then .none
  else if ¬ ((ss.take cnt.toNat).all (hasTurn t) = true) then .none
  else if (c.length : Int) - 4 < n then .none
  else .tuple [ll (cutG c (some 4) (some (4 + n))), .int cnt]
def A_read_block : ASp := fun ss M Q => ∃ (ls : List (List Int)) (t : Int), ss = [lsm ll ls, .int t] ∧ ls.length ≤ 200 ∧ (∀ s ∈ ls, s.length ≤ 100) ∧ Q (.dat (readB ls t)) M
theorem body_len {ls : List (List Int)} (h : ∀ s ∈ ls, s.length ≤ 100) : (body ls).length ≤ 100 * ls.length := by
  induction ls with
  | nil => exact Nat.le_refl _
  | cons x xs ih =>
    have h1 := h x List.mem_cons_self
    have h2 := ih fun s hs => h s (List.mem_cons_of_mem _ hs)
    show (x.drop 10 ++ body xs).length ≤ 100 * (xs.length + 1)
    rw [List.length_append, List.length_drop]
    omega
theorem ok_read_block (T : Txt K mg a d) : FnOk P w K mg base CX0 3 a.read_block d.read_block ["sectors", "turn"] (conc K A_read_block) := by
  have G_number_of : FnOk P w K mg base CX0 1 a.number_of d.number_of ["data"] (conc K A_number_of) := ok_number_of T
  have G_turn_of : FnOk P w K mg base CX0 2 a.turn_of d.turn_of ["sector"] (conc K A_turn_of) := ok_turn_of T
  refine ab_ok T.F_read_block sc_read_block (fun ss M Q ⟨n, i, e, _⟩ => by subst e; rfl) fun cdv Ar outer s H E hr => ?_
  have hu64 := hr.units
  refine ⟨_, (pss_cons (ps_if (pt_cmpR (r := rEqD K) (op_eqD hu64) (pe_callB (r := rLenS K) call_len_seq (by rfl) T.n_len PySem.boot_len (pa_cons (pv 0) pa_nil)) pe_int (nomark _)) (pss_one (ps_ret pe_non)) pss_nil)
  (pss_cons (ps_set (i := 2) sc_read_block.nd rfl (Or.inl rfl) (pe_call G_number_of (hr.mono (by omega)) (by rfl) T.g_number_of T.F_number_of.kp T.b_number_of .nil pass0 (pa_cons (pe_slice (r := rSlL K) sl_list (pe_ix (r := rIxL K) ix_list (pv 0) pe_int (fun _ _ => rfl)) (po_some pe_int) (po_some pe_int)) pa_nil)))
  (pss_cons (ps_if (pt_not (pt_chain op_le op_le pe_int (pv 2) (pe_callB (r := rLenS K) call_len_seq (by rfl) T.n_len PySem.boot_len (pa_cons (pv 0) pa_nil)))) (pss_one (ps_ret pe_non)) pss_nil)
  (pss_cons (ps_set (i := 3) sc_read_block.nd rfl (Or.inl rfl) (pe_lst pa_nil))
  (pss_cons (ps_for PassesOwn.never rfl (pi_list (pe_slice (r := rSlL K) sl_list (pv 0) po_none (po_some (pv 2)))) (pg_name (i := 4) sc_read_block.nd rfl (Or.inl rfl)) (pss_cons (ps_if (pt_cmpR (r := rNeD K) (op_neD hu64) (pe_call G_turn_of (hr.mono (by omega)) (by rfl) T.g_turn_of T.F_turn_of.kp T.b_turn_of .nil pass0 (pa_cons (pv 4) pa_nil)) (pv 1) (nomark _)) (pss_one (ps_ret pe_non)) pss_nil)
  (pss_one (ps_set (i := 3) sc_read_block.nd rfl (Or.inl rfl) (pe_op (r := rCatL K) op_catL (pv 3) (pe_slice (r := rSlL K) sl_list (pv 4) (po_some pe_int) po_none))))))
  (pss_cons (ps_set (i := 5) sc_read_block.nd rfl (Or.inl rfl) (pe_call G_number_of (hr.mono (by omega)) (by rfl) T.g_number_of T.F_number_of.kp T.b_number_of .nil pass0 (pa_cons (pe_slice (r := rSlL K) sl_list (pv 3) po_none (po_some pe_int)) pa_nil)))
  (pss_cons (ps_if (pt_cmpR op_gt (pv 5) (pe_op op_sub (pe_callB (r := rLenS K) call_len_seq (by rfl) T.n_len PySem.boot_len (pa_cons (pv 3) pa_nil)) pe_int) (nomark _)) (pss_one (ps_ret pe_non)) pss_nil)
  (pss_one (ps_ret (pe_tup (pa_cons (pe_slice (r := rSlL K) sl_list (pv 3) (po_some pe_int) (po_some (pe_op op_add pe_int (pv 5)))) (pa_cons (pv 2) pa_nil)))))))))))), ?_⟩
  rintro ss M Q ⟨ls, t, rfl, hl, hs, q⟩
  walk_at "k"
  show WS K _ [some (lsm ll ls), some (.int t), none, none, none, none] M _
  walk_at "e"
  rw [eqv_int]
  refine ite_b (fun c1 => ?_) (fun c1 => ?_)
  · have c1' : ls.length = 0 := by have := of_decide_eq_true c1; omega
    walk_at "e"
    unfold readB at q
    rw [if_pos c1'] at q
    exact q
  have c1' : ¬ ls.length = 0 := by have := of_decide_eq_false c1; omega
  walk_at "e"
  case hx => exact atI_two (f := ll) [] (by decide) (by show 0 < ls.length; omega)
  walk_at "e"
  rw [cutG_int _ (by decide) (by decide)]
  refine ⟨_, rfl, ?_⟩
  walk_at "e"
  generalize hcnt : numOf (List.take (Int.toNat 10 - Int.toNat 6) (List.drop (Int.toNat 6) (ls.getD (Int.toNat 0) []))) = cnt
  have hcnt' : numOf (((ls.getD 0 []).drop 6).take 4) = cnt := hcnt
  clear hcnt
  have e0 : readB ls t = (if ¬ (1 ≤ cnt ∧ cnt ≤ (ls.length : Int)) then .none else if ¬ ((ls.take cnt.toNat).all (hasTurn t) = true) then .none
      else if ((body (ls.take cnt.toNat)).length : Int) - 4 < numOf ((body (ls.take cnt.toNat)).take 4) then .none else .tuple [ll (cutG (body (ls.take cnt.toNat)) (some 4) (some (4 + numOf ((body (ls.take cnt.toNat)).take 4)))), .int cnt]) := by
    unfold readB
    rw [hcnt']
    dsimp only
    rw [if_neg c1']
  rw [e0] at q
  clear e0
  refine ite_b (fun c2 => ?_) (fun c2 => ?_)
  rotate_left
  · have c2' := of_decide_eq_false c2
    rw [if_pos (by omega)] at q
    walk_at "e"
    exact q
  have c2' := of_decide_eq_true c2
  walk_at "e"
  refine ite_b (fun c3 => ?_) (fun c3 => ?_)
  · have c3' : ¬ cnt ≤ (ls.length : Int) := by
      intro z
      rw [decide_eq_true z] at c3
      cases c3
    rw [if_pos (by omega)] at q
    walk_at "e"
    exact q
  have c3' : cnt ≤ (ls.length : Int) := by
    by_cases z : cnt ≤ (ls.length : Int)
    · exact z
    · rw [decide_eq_false z] at c3
      cases c3
  rw [if_neg (by omega)] at q
  refine ws_next ?_
  refine ws_seq (ws_set ?_)
  walk_at "f"
  have hls : ∀ s ∈ ls.take cnt.toNat, s.length ≤ 100 := fun s hm => hs s (List.mem_of_mem_take hm)
  have hbl := body_len hls
  have htl : (ls.take cnt.toNat).length ≤ 200 := by rw [List.length_take]; omega
  refine ws_forD (enc := ll) (xs := ls.take cnt.toNat) (M1 := M) ?_ (fun pre ρ' M' => ∃ y, ρ' = [some (lsm ll ls), some (.int t), some (.int cnt), some (lsm .int (body pre)), y, none] ∧ M' = M ∧ pre.all (hasTurn t) = true) ⟨_, rfl, rfl, rfl⟩ ?_ ?_
  · walk_at "e"
    rw [cutG_hi _ (by omega)]
    exact ⟨rfl, rfl⟩
  · rintro pre x post ρ' M' he ⟨y, rfl, rfl, ha⟩
    have hx : x.length ≤ 100 := hls x (by rw [he]; simp)
    have hp : (body pre).length ≤ 100 * pre.length := body_len fun s hm => hls s (by rw [he]; simp [hm])
    have hpl : pre.length ≤ 200 := by
      have := congrArg List.length he
      rw [List.length_append] at this
      omega
    refine wg_name ?_
    walk_at "e"
    refine ⟨_, rfl, ?_⟩
    walk_at "e"
    rw [eqv_int]
    refine ite_b (fun c4 => ?_) (fun c4 => ?_)
    · walk_at "e"
      have c4' : hasTurn t x = false := by
        unfold hasTurn
        simpa using c4
      rw [if_pos (by rw [he, List.all_append, List.all_cons, c4']; simp)] at q
      exact q
    · have c4' : hasTurn t x = true := by
        unfold hasTurn
        simpa using c4
      walk_at "e"
      case hl => rw [cutG_lo _ (by decide), List.length_drop]; omega
      rw [cutG_lo _ (by decide)]
      refine ⟨some (lsm PyData.int x), ?_, rfl, ?_⟩
      · show [some (lsm ll ls), some (Sl.int t), some (Sl.int cnt), some (lsm PyData.int (body pre ++ x.drop 10)), some (lsm PyData.int x), none] = _
        have eb : body (pre ++ [x]) = body pre ++ x.drop 10 := by
          unfold body
          rw [List.map_append, List.flatten_append]
          simp
        rw [eb]
      · rw [List.all_append, ha, List.all_cons, c4']
        rfl
  · rintro ρ' M' ⟨y, rfl, rfl, ha⟩
    rw [if_neg (by rw [ha]; simp)] at q
    generalize body (ls.take cnt.toNat) = c at *
    walk_at "e"
    rw [cutG_hi _ (by decide)]
    refine ⟨_, rfl, ?_⟩
    walk_at "e"
    refine ite_b (fun c5 => ?_) (fun c5 => ?_)
    · walk_at "e"
      have c5' : (c.length : Int) - 4 < numOf (c.take 4) := of_decide_eq_true c5
      rw [if_pos c5'] at q
      exact q
    · walk_at "e"
      have c5' : ¬ (c.length : Int) - 4 < numOf (c.take 4) := of_decide_eq_false c5
      rw [if_neg c5'] at q
      exact q
end
end K07


set_option Elab.async false
set_option linter.all false
set_option maxRecDepth 100000
set_option  maxHeartbeats 4000000
namespace K07
open PySem PyProof.Rows L2 Ab
local macro_rules | `(tactic| walk_at "len") => `(tactic| first | decide | omega | (simp only [List.length_append, List.length_map, List.length_replicate, List.length_cons, List.length_nil, List.length_take, List.length_drop, List.length_reverse, List.length_range]; omega))
local macro_rules | `(tactic| walk_at "1") => `(tactic| (first
  | (with_reducible refine ws_set ?_)
  | (with_reducible refine ws_ret ?_)
  | (with_reducible refine ws_if ?_)
  | (with_reducible refine ws_drop ?_)
  | (with_reducible refine w_op ?_)
  | (with_reducible refine w_int ?_)
  | (with_reducible refine w_bl ?_)
  | (with_reducible refine w_non ?_)
  | (with_reducible refine w_str ?_)
  | (with_reducible refine w_cb ?_)
  | (with_reducible refine w_call ?_)
  | (with_reducible refine w_sl ?_)
  | (with_reducible refine w_tupD ?_)
  | (with_reducible refine w_chain ?_)
  | (with_reducible refine w_andV ?_)
  | (with_reducible refine w_orV ?_)
  | (with_reducible refine w_notV ?_)
  | (with_reducible refine wo_none ?_)
  | (with_reducible refine wo_some ?_)
  | (with_reducible refine wa_cons ?_)
  | (with_reducible refine wa_nil ?_)
  | (with_reducible refine wt_test ?_)
  | (with_reducible refine wt_B ?_)
  | (with_reducible refine wt_and ?_)
  | (with_reducible refine wt_or ?_)
  | (with_reducible refine wt_not ?_)
  | (with_reducible refine wt_yes ?_)
  | (with_reducible refine w2_i0 ?_)
  | (with_reducible refine w2_b0 ?_)
  | (with_reducible refine w1_neg ?_)
  | ((with_reducible refine w2_i ?hc ?_); (case hc => first | decide | exact ⟨by decide, by decide⟩ | exact Or.inl ⟨by decide, by decide⟩ | exact Or.inr ⟨by decide, by decide⟩ | exact ⟨by decide, by decide, by decide⟩ | omega); skip)
  | ((with_reducible refine' w_var ?hv ?_); (case hv => exact rfl); skip)
  | ((with_reducible show W2 _ (rEqD _) _ _ _ _); (refine w2_eq ?ha ?hb ?_); (case ha => first | exact shaped_int _ | exact shaped_bool _); (case hb => first | exact shaped_int _ | exact shaped_bool _); skip)
  | ((with_reducible show W2 _ (rNeD _) _ _ _ _); (refine w2_ne ?ha ?hb ?_); (case ha => first | exact shaped_int _ | exact shaped_bool _); (case hb => first | exact shaped_int _ | exact shaped_bool _); skip)
  | ((with_reducible show W2 _ _ _ _ _ _); (refine w2_isN ?_))
  | ((with_reducible show W2 _ _ _ _ _ _); (refine w2_notN ?_))
  | (with_reducible refine wl_lenE ?_)
  | (with_reducible refine wl_lenD ?_)
  | (with_reducible refine wl_lenTD ?_)
  | (with_reducible refine wl_listE ?_)
  | (with_reducible refine wsl_E ?_)
  | ((with_reducible refine' w2_catE ?hl ?_); (try (case hl => walk_at "len")); skip)
  | ((with_reducible refine' w2_rep1 ?h1 ?h2 ?_); (try (case h1 => first | decide | omega)); (try (case h2 => first | decide | omega)); skip)
  | ((with_reducible show WL _ _ [_] _ _); (refine' wl_len ?hl ?_); (case hl => first | exact lsv_dat | exact lsv_ref um_same | exact lsv_ref (by assumption)); skip)
  | ((with_reducible show WL _ _ [_] _ _); (refine' wl_list ?hl ?_); (case hl => first | exact .inl lsv_dat | exact .inl (lsv_ref (by assumption))); skip)
  | ((with_reducible show WSl _ (rSlL _) _ _ _ _ _); (refine' wsl_lst ?hl ?_); (case hl => first | exact lsv_dat | exact lsv_ref um_same | exact lsv_ref (by assumption)); skip)
  | ((with_reducible show WL _ _ [_] _ _); (refine wl_int ?_))
  | ((with_reducible show W2 _ (rIxL _) _ _ _ _); (refine' w2_ixL ?hs ?hx ?_); (case hs => first | exact lsv_dat | exact lsv_ref um_same | exact lsv_ref (by assumption)); (try (case hx => exact rfl)); skip)
  | ((with_reducible show W2 _ (rIxT _) _ _ _ _); (refine' w2_ixT ?hx ?_); (try (case hx => exact rfl)); skip)
  | ((with_reducible show WL _ (rIsi _) [_, _] _ _); (refine' wl_isi ?hb ?_); (case hb => first | exact isi_bool _ | exact isi_int _ | exact isi_str _ | exact isi_tuple _ | exact isi_list _); skip)
  | ((with_reducible show W _ (tC (V.ty _)) _ _ _); (refine w_raw ?_))
  | ((with_reducible show WL _ _ [_] _ _); (refine' wl_lenT ?hl ?_); (case hl => exact tpv_dat); skip)
  | (with_reducible refine ws_next ?_)
  | (with_reducible refine ite_t rfl ?_)
  | (with_reducible refine ite_f rfl ?_)
  | ((with_reducible show ∃ b : Bool, _ = Sl.bl b ∧ _); (with_reducible refine ⟨_, rfl, ?_⟩))
  | ((with_reducible show ∃ i : Int, _ = Sl.int i ∧ _); (with_reducible refine ⟨_, rfl, ?_⟩))
  | ((with_reducible show List.length _ ≤ 100000 ∧ _); (refine ⟨(by simp), ?_⟩))
  | ((with_reducible show ∃ ds : List PyData, datsOf _ = some ds ∧ _); (refine ⟨_, rfl, ?_⟩))))
local macro_rules | `(tactic| walk_at "e") => `(tactic| repeat (first | (with_reducible refine ws_seq ?_) | (walk_at "1")))
local macro_rules | `(tactic| walk_at "g") => `(tactic| repeat (first | (walk_at "1") | ((with_reducible refine w_lstI (wa_cons ?_)); (repeat (walk_at "1")); (with_reducible show ∃ ns : List Int, itemsI _ = some ns ∧ _); (refine ⟨_, rfl, ?_⟩)) | (with_reducible refine w_lstD ?_)))
local macro_rules | `(tactic| walk_at "f") => `(tactic| repeat (first | (with_reducible refine ws_seq ?_) | (walk_at "1") | ((with_reducible refine w_lstI (wa_cons ?_)); (repeat (walk_at "1")); (with_reducible show ∃ ns : List Int, itemsI _ = some ns ∧ _); (refine ⟨_, rfl, ?_⟩)) | (with_reducible refine w_lstD ?_)))
local macro_rules | `(tactic| walk_at "k") => `(tactic| first | dsimp only [cxOf, Cx.nox, Cx.wish] | skip)

local macro_rules | `(tactic| walk_at "len") => `(tactic| (simp only [List.length_append, List.length_map, List.length_replicate, List.length_cons, List.length_nil, List.length_take, List.length_drop, List.length_reverse, List.length_range, lsb_len, be_len]; omega))
section
variable {P : Program} {w : World} {K : PySem.W.Frag} {mg : Str → Option Value} {base : Heap} {a : AD} {d : FD}
/-! the law's own -/
def A_lfixed : ASp := fun ss M Q => ∃ (n : Int) (c : Nat), ss = [.int n, .int (c : Int)] ∧ c ≤ 1000 ∧ Q (lsm .int (be n c)) M
theorem ediv2 (x : Int) {y : Int} (z : Int) (h : 0 ≤ y) : x / y / z = x / (y * z) := by rw [Int.ediv_ediv, if_neg (by omega), Int.sub_zero]
theorem pow_nn (k : Nat) : (0 : Int) ≤ 256 ^ k := Int.le_of_lt (Int.pow_pos (by decide))
theorem lsb_snoc : ∀ (k : Nat) (n : Int), lsb n (k + 1) = lsb n k ++ [n / 256 ^ k % 256]
  | 0, n => by
    show [n % 256] = [n / 1 % 256]
    rw [Int.ediv_one]
  | k + 1, n => by
    show n % 256 :: lsb (n / 256) (k + 1) = n % 256 :: (lsb (n / 256) k ++ [n / 256 ^ (k + 1) % 256])
    rw [lsb_snoc k (n / 256), ediv2 _ _ (by decide), Int.pow_succ, Int.mul_comm 256]
theorem ok_lfixed (T : Txt K mg a d) : FnOk P w K mg base CX0 1 a.law_fixed d.law_fixed ["_law_number", "_law_count"] (conc K A_lfixed) := by
  refine ab_ok T.F_law_fixed sc_law_fixed (fun ss M Q ⟨n, c, e, _⟩ => by subst e; rfl) fun cdv Ar outer s H E hr => ⟨_, (pss_cons (ps_set (i := 2) sc_law_fixed.nd rfl (Or.inl rfl) (pe_lst pa_nil))
  (pss_cons (ps_for PassesOwn.never rfl (pi_range1 rfl T.n_range (pa_cons (pv 1) pa_nil)) (pg_name (i := 3) sc_law_fixed.nd rfl (Or.inl rfl)) (pss_cons (ps_set (i := 2) sc_law_fixed.nd rfl (Or.inl rfl) (pe_op (r := rCatL K) op_catL (pe_lst (pa_cons (pe_op op_mod (pe_callTy (r := rInt1) call_int1 (by rfl) T.n_int (by decide +kernel) (pa_cons (pv 0) pa_nil)) pe_int) pa_nil)) (pv 2)))
  (pss_one (ps_set (i := 0) sc_law_fixed.nd rfl (Or.inl rfl) (pe_op op_fdiv (pv 0) pe_int)))))
  (pss_one (ps_ret (pv 2))))), ?_⟩
  rintro ss M Q ⟨n, c, rfl, hc, q⟩
  walk_at "k"
  show WS K _ [some (.int n), some (.int (c : Int)), none, none] M _
  walk_at "f"
  refine ws_forR1 (n := (c : Int)) (M1 := M) (by walk_at "e"; exact ⟨rfl, rfl⟩) (by omega)
    (fun i ρ' M' => ∃ (y : Option Sl), ρ' = [some (.int (n / 256 ^ i)), some (.int (c : Int)), some (lsm .int (be n i)), y] ∧ M' = M) ⟨none, by show [_, _, some (lsm PyData.int []), none] = _; rw [Int.pow_zero, Int.ediv_one]; rfl, rfl⟩ ?_ ?_
  · rintro i ρ' M' hi ⟨y, rfl, rfl⟩
    refine wg_name ?_
    walk_at "f"
    refine ⟨some (.int (i : Int)), ?_, rfl⟩
    show [some (.int (n / 256 ^ i / 256)), some (.int (c : Int)), some (lsm PyData.int ([n / 256 ^ i % 256] ++ be n i)), some (.int (i : Int))] = _
    have e1 : n / 256 ^ i / 256 = n / 256 ^ (i + 1) := by rw [ediv2 _ _ (pow_nn i), Int.pow_succ]
    have e2 : [n / 256 ^ i % 256] ++ be n i = be n (i + 1) := by
      unfold be
      rw [lsb_snoc, List.reverse_append]
      rfl
    rw [e1, e2]
  · rintro ρ' M' ⟨y, rfl, rfl⟩
    walk_at "e"
    exact q
def A_law_block : ASp := A_write_block
theorem cut_chunk2 (c : List Int) (k : Nat) : cutG c (some (54 * (k : Int))) (some (54 * (k : Int) + 54)) = chunk c k := by
  rw [cutG_int _ (by omega) (by omega), show (54 * (k : Int)).toNat = 54 * k by omega, show (54 * (k : Int) + 54).toNat - 54 * k = 54 by omega]
  rfl
theorem ok_law_block (T : Txt K mg a d) : FnOk P w K mg base CX0 2 a.law_block d.law_block ["_law_turn_here", "_law_data"] (conc K A_law_block) := by
  have G_law_fixed : FnOk P w K mg base CX0 1 a.law_fixed d.law_fixed ["_law_number", "_law_count"] (conc K A_lfixed) := ok_lfixed T
  refine ab_ok T.F_law_block sc_law_block (fun ss M Q ⟨n, c, e, _⟩ => by subst e; rfl) fun cdv Ar outer s H E hr => ⟨_, (pss_cons (ps_set (i := 2) sc_law_block.nd rfl (Or.inl rfl) (pe_op (r := rCatL K) op_catL (pe_call G_law_fixed (hr.mono (by omega)) (by rfl) T.g_law_fixed T.F_law_fixed.kp T.b_law_fixed .nil pass0 (pa_cons (pe_callB (r := rLenS K) call_len_seq (by rfl) T.n_len PySem.boot_len (pa_cons (pv 1) pa_nil)) (pa_cons pe_int pa_nil))) (pv 1)))
  (pss_cons (ps_set (i := 3) sc_law_block.nd rfl (Or.inl rfl) (pe_op op_fdiv (pe_op op_add (pe_callB (r := rLenS K) call_len_seq (by rfl) T.n_len PySem.boot_len (pa_cons (pv 2) pa_nil)) pe_int) pe_int))
  (pss_cons (ps_set (i := 4) sc_law_block.nd rfl (Or.inl rfl) (pe_lst pa_nil))
  (pss_cons (ps_for PassesOwn.never rfl (pi_range1 rfl T.n_range (pa_cons (pv 3) pa_nil)) (pg_name (i := 5) sc_law_block.nd rfl (Or.inl rfl)) (pss_cons (ps_set (i := 6) sc_law_block.nd rfl (Or.inl rfl) (pe_slice (r := rSlL K) sl_list (pv 2) (po_some (pe_op op_mul pe_int (pv 5))) (po_some (pe_op op_add (pe_op op_mul pe_int (pv 5)) pe_int))))
  (pss_one (ps_expr (pe_bm PySem.F.plainAttrs_list PySem.F.slot_list_append PySem.F.type_list_append mt_append (pv 4) (pa_cons (pe_op (r := rCatL K) op_catL (pe_op (r := rCatL K) op_catL (pe_op (r := rCatL K) op_catL (pe_call G_law_fixed (hr.mono (by omega)) (by rfl) T.g_law_fixed T.F_law_fixed.kp T.b_law_fixed .nil pass0 (pa_cons (pv 0) (pa_cons pe_int pa_nil))) (pe_call G_law_fixed (hr.mono (by omega)) (by rfl) T.g_law_fixed T.F_law_fixed.kp T.b_law_fixed .nil pass0 (pa_cons (pv 3) (pa_cons pe_int pa_nil)))) (pv 6)) (pe_op op_repL (pe_lst (pa_cons pe_int pa_nil)) (pe_op op_sub pe_int (pe_callB (r := rLenS K) call_len_seq (by rfl) T.n_len PySem.boot_len (pa_cons (pv 6) pa_nil))))) pa_nil))))))
  (pss_one (ps_ret (pv 4))))))), ?_⟩
  rintro ss M Q ⟨t, data, rfl, hl, q⟩
  walk_at "k"
  show WS K _ [some (.int t), some (lsi data), none, none, none, none, none] M _
  walk_at "e"
  refine ⟨_, 4, rfl, by decide, ?_⟩
  walk_at "e"
  have hcl := content_len data
  have hdiv : ((content data).length + 53 : Int) / 54 = (nCh (content data).length : Int) := by
    unfold nCh
    omega
  refine w_lstM (wa_nil ⟨by decide, fun p hp => ?_⟩)
  refine ws_seq ?_
  show WS K _ [some (.int t), some (lsi data), some (lsm .int (content data)), some (.int (((content data).length + 53 : Int) / 54)), some (.ref p), none, none] (um M p (.lst [])) _
  rw [hdiv]
  generalize hc : content data = c at *
  refine ws_forR1 (n := (nCh c.length : Int)) (M1 := um M p (.lst [])) (by walk_at "e"; exact ⟨rfl, rfl⟩) (by unfold nCh; omega)
    (fun i ρ' M' => ∃ (y z : Option Sl), ρ' = [some (.int t), some (lsi data), some (lsm .int c), some (.int (nCh c.length : Int)), some (.ref p), y, z] ∧ M' = um M p (.lst ((((List.range i).map fun k => sect t (nCh c.length) (chunk c k)).map ll).map .dat))) ⟨none, none, rfl, rfl⟩ ?_ ?_
  · rintro i ρ' M' hi ⟨y, z, rfl, rfl⟩
    refine wg_name ?_
    walk_at "e"
    rw [cut_chunk2]
    have hpl := chunk_len c i
    refine w_bm (w_var rfl ⟨ty_lst (lsv_ref um_same), ?_⟩)
    walk_at "e"
    refine ⟨_, 6, rfl, by decide, ?_⟩
    walk_at "e"
    refine ⟨_, 4, rfl, by decide, ?_⟩
    walk_at "f"
    refine wm_append um_same (by simp; unfold nCh at hi; omega) ?_
    refine ⟨some (.int (i : Int)), some (lsm .int (chunk c i)), rfl, ?_⟩
    rw [um_um, List.range_succ, List.map_append, List.map_append, List.map_append]
    rw [show (54 - ((chunk c i).length : Int)).toNat = 54 - (chunk c i).length by omega]
    rfl
  · rintro ρ' M' ⟨y, z, rfl, rfl⟩
    rw [Int.toNat_natCast]
    refine ws_freeze (i := 4) (a := p) (ds := ((List.range (nCh c.length)).map fun k => sect t (nCh c.length) (chunk c k)).map ll) rfl um_same ?_
    rw [del_um hp]
    walk_at "e"
    subst hc
    exact q
/-! draws -/
def DrawAt (p : Addr) (M : MH) : Prop := ∃ xs, M p = some (.lst xs) ∧ DrawL xs
def A_turn : ASp := fun ss M Q => ∃ (p : Addr) (xs : List Sl), ss = [.ref p] ∧ M p = some (.lst xs) ∧ DrawL xs ∧ ∀ (v : Int) (ys : List Sl), 1 ≤ v → v ≤ 2 ^ 47 → DrawL ys → Q (.int v) (um M p (.lst ys))
theorem ok_turn (T : Txt K mg a d) : FnOk P w K mg base CX0 2 a.law_turn d.law_turn ["_law_state"] (conc K A_turn) := by
  have G_law_next : FnOk P w K mg base CX0 1 a.law_next d.law_next ["_law_state", "_law_limit"] (conc K A_next) := ok_next T
  refine ab_ok T.F_law_turn sc_law_turn (fun ss M Q ⟨p, xs, e, _⟩ => by subst e; rfl) fun cdv Ar outer s H E hr => ⟨_, (pss_one (ps_ret (pe_ix (r := rIxL K) ix_list (pe_lst (pa_cons pe_int (pa_cons pe_int (pa_cons pe_int (pa_cons pe_int (pa_cons (pe_op op_add pe_int (pe_call G_law_next (hr.mono (by omega)) (by rfl) T.g_law_next T.F_law_next.kp T.b_law_next .nil pass0 (pa_cons (pv 0) (pa_cons (pe_op op_pow pe_int pe_int) pa_nil)))) pa_nil)))))) (pe_call G_law_next (hr.mono (by omega)) (by rfl) T.g_law_next T.F_law_next.kp T.b_law_next .nil pass0 (pa_cons (pv 0) (pa_cons pe_int pa_nil))) (fun _ _ => rfl)))), ?_⟩
  rintro ss M Q ⟨p, xs, rfl, hp, hD, q⟩
  walk_at "k"
  show WS K _ [some (.ref p)] M _
  walk_at "f"
  refine ⟨p, 2 ^ 47, xs, rfl, hp, hD, by decide, by decide, fun v ys h0 h1 hy => ?_⟩
  walk_at "f"
  refine ⟨p, 5, ys, rfl, um_same, hy, by decide, by decide, fun i zs h2 h3 hz => ?_⟩
  rw [um_um]
  have hix : atI (([1, 2, 255, 256, 1 + v].map PyData.int).map Sl.dat) i = some (.int ([1, 2, 255, 256, 1 + v].getD i.toNat 0)) := atI_two 0 h2 (by show i.toNat < 5; omega)
  refine w2_ixL (lsv_dat (ds := [1, 2, 255, 256, 1 + v].map PyData.int)) hix (q _ _ ?_ ?_ hz)
  · have hi : i.toNat = 0 ∨ i.toNat = 1 ∨ i.toNat = 2 ∨ i.toNat = 3 ∨ i.toNat = 4 := by omega
    rcases hi with e | e | e | e | e <;> rw [e] <;> simp <;> omega
  · have hi : i.toNat = 0 ∨ i.toNat = 1 ∨ i.toNat = 2 ∨ i.toNat = 3 ∨ i.toNat = 4 := by omega
    rcases hi with e | e | e | e | e <;> rw [e] <;> simp <;> omega
def A_put : ASp := fun ss M Q => ∃ (s : List Int) (n : Nat) (x : List Int), ss = [lsm .int s, .int (n : Int), lsm .int x] ∧ s.length ≤ 1000 ∧ x.length ≤ 1000 ∧ Q (lsm .int (s.take n ++ x ++ s.drop (n + x.length))) M
theorem ok_put (T : Txt K mg a d) : FnOk P w K mg base CX0 1 a.law_put d.law_put ["_law_sector", "_law_place", "_law_data"] (conc K A_put) := by
  refine ab_ok T.F_law_put sc_law_put (fun ss M Q ⟨s, n, x, e, _⟩ => by subst e; rfl) fun cdv Ar outer s H E hr => ⟨_, (pss_one (ps_ret (pe_op (r := rCatL K) op_catL (pe_op (r := rCatL K) op_catL (pe_slice (r := rSlL K) sl_list (pv 0) po_none (po_some (pv 1))) (pv 2)) (pe_slice (r := rSlL K) sl_list (pv 0) (po_some (pe_op op_add (pv 1) (pe_callB (r := rLenS K) call_len_seq (by rfl) T.n_len PySem.boot_len (pa_cons (pv 2) pa_nil)))) po_none)))), ?_⟩
  rintro ss M Q ⟨s, n, x, rfl, h1, h2, q⟩
  walk_at "k"
  show WS K _ [some (lsm .int s), some (.int (n : Int)), some (lsm .int x)] M _
  have hc := cutG_len s none (some (n : Int))
  have hc2 := cutG_len s (some ((n : Int) + x.length)) none
  walk_at "e"
  rw [cutG_hi _ (by omega), cutG_lo _ (by omega), Int.toNat_natCast, show ((n : Int) + (x.length : Int)).toNat = n + x.length by omega]
  exact q
/-- a byte -/
def IsBy (b : Int) : Prop := 0 ≤ b ∧ b < 256
def A_bytes : ASp := fun ss M Q => ∃ (p : Addr) (xs : List Sl), ss = [.ref p] ∧ M p = some (.lst xs) ∧ DrawL xs ∧ ∀ (v : List Int) (ys : List Sl), v.length ≤ 400 → (∀ b ∈ v, IsBy b) → DrawL ys → Q (lsm .int v) (um M p (.lst ys))
theorem ok_bytes (T : Txt K mg a d) : FnOk P w K mg base CX0 2 a.law_bytes d.law_bytes ["_law_state"] (conc K A_bytes) := by
  have G_law_next : FnOk P w K mg base CX0 1 a.law_next d.law_next ["_law_state", "_law_limit"] (conc K A_next) := ok_next T
  refine ab_ok T.F_law_bytes sc_law_bytes (fun ss M Q ⟨p, xs, e, _⟩ => by subst e; rfl) fun cdv Ar outer s H E hr => ⟨_, (pss_cons (ps_set (i := 1) sc_law_bytes.nd rfl (Or.inl rfl) (pe_ix (r := rIxL K) ix_list (pe_lst (pa_cons pe_int (pa_cons pe_int (pa_cons (pe_op op_add pe_int (pe_call G_law_next (hr.mono (by omega)) (by rfl) T.g_law_next T.F_law_next.kp T.b_law_next .nil pass0 (pa_cons (pv 0) (pa_cons pe_int pa_nil)))) (pa_cons (pe_op op_add pe_int (pe_call G_law_next (hr.mono (by omega)) (by rfl) T.g_law_next T.F_law_next.kp T.b_law_next .nil pass0 (pa_cons (pv 0) (pa_cons pe_int pa_nil)))) (pa_cons (pe_call G_law_next (hr.mono (by omega)) (by rfl) T.g_law_next T.F_law_next.kp T.b_law_next .nil pass0 (pa_cons (pv 0) (pa_cons pe_int pa_nil))) pa_nil)))))) (pe_call G_law_next (hr.mono (by omega)) (by rfl) T.g_law_next T.F_law_next.kp T.b_law_next .nil pass0 (pa_cons (pv 0) (pa_cons pe_int pa_nil))) (fun _ _ => rfl)))
  (pss_cons (ps_set (i := 2) sc_law_bytes.nd rfl (Or.inr rfl) (pe_call G_law_next (hr.mono (by omega)) (by rfl) T.g_law_next T.F_law_next.kp T.b_law_next .nil pass0 (pa_cons (pv 0) (pa_cons pe_int pa_nil))))
  (pss_one (ps_ret (pe_lc (own := [("_law_k", 3)]) rfl sc_law_bytes.nd (pi_range1 rfl T.n_range (pa_cons (pv 1) pa_nil)) (blkOk_by (own := [("_law_k", 3)]) (N := ["_law_state", "_law_count", "_law_start", "_law_k"]) (sc := (defScope s_law_bytes)) (by decide +kernel)) (fun _ _ _ _ _ => (pg_name (i := 3) sc_law_bytes.nd rfl (Or.inl rfl))) (fun _ _ _ _ _ => pts_nil) (fun _ _ _ _ _ => (pe_op op_mod (pe_op op_add (pe_op op_add (pv 2) (pe_op op_mul pe_int (pv 3))) (pe_op op_mulW (pv 3) (pv 3))) pe_int))))))), ?_⟩
  rintro ss M Q ⟨p, xs, rfl, hp, hD, q⟩
  walk_at "k"
  show WS K _ [some (.ref p), none, none, none] M _
  walk_at "f"
  refine ⟨p, 3, xs, rfl, hp, hD, by decide, by decide, fun v1 xs1 _ _ hD1 => ?_⟩
  walk_at "f"
  refine ⟨p, 3, xs1, rfl, um_same, hD1, by decide, by decide, fun v2 xs2 _ _ hD2 => ?_⟩
  rw [um_um]
  walk_at "f"
  refine ⟨p, 401, xs2, rfl, um_same, hD2, by decide, by decide, fun v3 xs3 _ _ hD3 => ?_⟩
  rw [um_um]
  walk_at "f"
  refine ⟨p, 5, xs3, rfl, um_same, hD3, by decide, by decide, fun i xs4 h2 h3 hD4 => ?_⟩
  rw [um_um]
  have hix : atI (([0, 1, 49 + v1, 103 + v2, v3].map PyData.int).map Sl.dat) i = some (.int ([0, 1, 49 + v1, 103 + v2, v3].getD i.toNat 0)) := atI_two 0 h2 (by show i.toNat < 5; omega)
  have hcnt : 0 ≤ [0, 1, 49 + v1, 103 + v2, v3].getD i.toNat 0 ∧ [0, 1, 49 + v1, 103 + v2, v3].getD i.toNat 0 ≤ 400 := by
    have hi : i.toNat = 0 ∨ i.toNat = 1 ∨ i.toNat = 2 ∨ i.toNat = 3 ∨ i.toNat = 4 := by omega
    rcases hi with e | e | e | e | e <;> rw [e] <;> simp <;> omega
  refine w2_ixL (lsv_dat (ds := [0, 1, 49 + v1, 103 + v2, v3].map PyData.int)) hix ?_
  generalize [0, 1, 49 + v1, 103 + v2, v3].getD i.toNat 0 = cnt at hcnt
  walk_at "f"
  refine ⟨p, 256, xs4, rfl, um_same, hD4, by decide, by decide, fun st xs5 h5 h6 hD5 => ?_⟩
  rw [um_um]
  walk_at "f"
  refine w_lc List.mem_cons_self (wi_r1 ?_)
  walk_at "e"
  refine ⟨cnt, rfl, by omega, by omega, ?_⟩
  refine ⟨fun k acc M' => M' = um M p (.lst xs5) ∧ acc = ((List.range k).map fun j : Nat => (st + 31 * (j : Int) + (j : Int) * (j : Int)) % 256).map PyData.int, ⟨rfl, rfl⟩, fun _ _ _ _ _ _ _ _ => trivial, ?_, ?_⟩
  · rintro k acc M' D hk ⟨rfl, rfl⟩ hM
    walk_at "e"
    refine w2_i (wide_mul (a := 20) (b := 20) (by omega) (by omega) (by decide) (by decide) (by decide)) ?_
    walk_at "e"
    refine ⟨_, _, rfl, rfl, hM, by simp; omega, rfl, ?_⟩
    rw [List.range_succ, List.map_append, List.map_append]
    rfl
  · rintro acc M' ⟨rfl, rfl⟩
    refine q _ _ (by simp; omega) (fun b hb => ?_) hD5
    obtain ⟨j, _, rfl⟩ := List.mem_map.mp hb
    exact ⟨Int.emod_nonneg _ (by decide), Int.emod_lt_of_pos _ (by decide)⟩
end
end K07


set_option Elab.async false
set_option linter.all false
set_option maxRecDepth 100000
set_option  maxHeartbeats 4000000
namespace K07
open PySem PyProof.Rows L2 Ab
/-! ### the plain law of blocks and heads -/
theorem numOf_snoc (xs : List Int) (b : Int) : numOf (xs ++ [b]) = 256 * numOf xs + b := by
  unfold numOf
  rw [List.foldl_append]
  rfl
theorem be_succ (n : Int) (k : Nat) : be n (k + 1) = be (n / 256) k ++ [n % 256] := by
  unfold be
  show (n % 256 :: lsb (n / 256) k).reverse = _
  rw [List.reverse_cons]
theorem numOf_be : ∀ (k : Nat) (n : Int), 0 ≤ n → n < 256 ^ k → numOf (be n k) = n
  | 0, n, h0, h1 => by
    have : n = 0 := by simp at h1; omega
    subst this
    rfl
  | k + 1, n, h0, h1 => by
    rw [be_succ, numOf_snoc, numOf_be k (n / 256) (by omega) (by rw [Int.pow_succ] at h1; omega)]
    omega
theorem be_by (n : Int) (k : Nat) : ∀ b ∈ be n k, IsBy b := by
  intro b hb
  unfold be at hb
  rw [List.mem_reverse] at hb
  induction k generalizing n with
  | zero => cases hb
  | succ k ih =>
    rcases List.mem_cons.mp hb with rfl | hb
    · exact ⟨Int.emod_nonneg _ (by decide), Int.emod_lt_of_pos _ (by decide)⟩
    · exact ih _ hb
theorem numOf_foldl (ys : List Int) (t : Int) : ys.foldl (fun t b => 256 * t + b) t = t * 256 ^ ys.length + numOf ys := by
  induction ys generalizing t with
  | nil => show t = t * 1 + 0; omega
  | cons y ys ih =>
    show ys.foldl _ (256 * t + y) = _
    unfold numOf
    show _ = t * 256 ^ (ys.length + 1) + ys.foldl _ (256 * 0 + y)
    rw [ih, ih (256 * 0 + y), Int.pow_succ, Int.add_mul, Int.add_mul]
    have e : 256 * t * 256 ^ ys.length = t * (256 ^ ys.length * 256) := by rw [Int.mul_comm 256 t, Int.mul_assoc, Int.mul_comm 256]
    rw [e]
    simp only [Int.mul_zero, Int.zero_mul]
    omega
theorem numOf_append (xs ys : List Int) : numOf (xs ++ ys) = numOf xs * 256 ^ ys.length + numOf ys := by
  show (xs ++ ys).foldl _ 0 = _
  rw [List.foldl_append, numOf_foldl]
  rfl
/-- one byte changed changes the number -/
theorem numOf_one {xs zs : List Int} {b c : Int} (h : b ≠ c) : numOf (xs ++ [b] ++ zs) ≠ numOf (xs ++ [c] ++ zs) := by
  rw [numOf_append (xs ++ [b]) zs, numOf_append (xs ++ [c]) zs, numOf_snoc, numOf_snoc]
  intro e
  have e2 : (256 * numOf xs + b) * 256 ^ zs.length = (256 * numOf xs + c) * 256 ^ zs.length := by omega
  have hp : (256 : Int) ^ zs.length ≠ 0 := Int.ne_of_gt (Int.pow_pos (by decide))
  have := Int.eq_of_mul_eq_mul_right hp e2
  omega
/-! sectors -/
def sec (t : Int) (mid p : List Int) : List Int := be t 6 ++ mid ++ p
theorem sec_take6 (t : Int) (mid p : List Int) : (sec t mid p).take 6 = be t 6 := by
  unfold sec
  rw [List.append_assoc, List.take_append_of_le_length (by rw [be_len]; decide), List.take_of_length_le (by rw [be_len]; decide)]
theorem sec_mid {t : Int} {mid p : List Int} (h : mid.length = 4) : ((sec t mid p).drop 6).take 4 = mid := by
  unfold sec
  rw [List.append_assoc, List.drop_append_of_le_length (by rw [be_len]; decide), List.drop_of_length_le (by rw [be_len]; decide), List.nil_append, List.take_append_of_le_length (by omega), List.take_of_length_le (by omega)]
theorem sec_drop {t : Int} {mid p : List Int} (h : mid.length = 4) : (sec t mid p).drop 10 = p := by
  unfold sec
  have : (be t 6 ++ mid).length = 10 := by rw [List.length_append, be_len, h]
  rw [List.drop_append_of_le_length (by omega), List.drop_of_length_le (by omega), List.nil_append]
theorem sec_len {t : Int} {mid p : List Int} (h : mid.length = 4) (hp : p.length = 54) : (sec t mid p).length = 64 := by
  unfold sec
  rw [List.length_append, List.length_append, be_len, h, hp]
/-- what is read as a block of n sectors with these pieces -/
structure Good (t : Int) (n : Nat) (pc : Nat → List Int) (ls : List (List Int)) : Prop where
  len : ls.length = n
  pos : 0 < n
  small : n < 1000
  at_ : ∀ k, k < n → ∃ mid : List Int, mid.length = 4 ∧ (k = 0 → mid = be (n : Int) 4) ∧ ls[k]? = some (sec t mid (pc k))
theorem Good.turn {t : Int} {n : Nat} {pc : Nat → List Int} {ls : List (List Int)} (g : Good t n pc ls) (h0 : 0 ≤ t) (h1 : t < 256 ^ 6) : ls.all (hasTurn t) = true := by
  rw [List.all_eq_true]
  intro s hs
  obtain ⟨k, hk, e⟩ := List.getElem_of_mem hs
  obtain ⟨mid, _, _, h3⟩ := g.at_ k (by rw [← g.len]; exact hk)
  rw [List.getElem?_eq_getElem hk, e] at h3
  rw [Option.some.inj h3]
  unfold hasTurn
  rw [sec_take6, numOf_be 6 t h0 h1]
  exact decide_eq_true rfl
theorem Good.cnt {t : Int} {n : Nat} {pc : Nat → List Int} {ls : List (List Int)} (g : Good t n pc ls) : numOf (((ls.getD 0 []).drop 6).take 4) = (n : Int) := by
  obtain ⟨mid, h1, h2, h3⟩ := g.at_ 0 g.pos
  rw [List.getD_eq_getElem?_getD, h3, Option.getD_some, sec_mid h1, h2 rfl]
  exact numOf_be 4 _ (by omega) (by have := g.small; show (n : Int) < 4294967296; omega)
theorem Good.body {t : Int} {n : Nat} {pc : Nat → List Int} {ls : List (List Int)} (g : Good t n pc ls) : body ls = ((List.range n).map pc).flatten := by
  unfold K07.body
  congr 1
  apply List.ext_getElem?
  intro i
  rw [List.getElem?_map, List.getElem?_map]
  by_cases hi : i < n
  · obtain ⟨mid, h1, _, h3⟩ := g.at_ i hi
    rw [h3, List.getElem?_range hi, Option.map_some, Option.map_some, sec_drop h1]
  · rw [List.getElem?_eq_none (by rw [g.len]; omega), List.getElem?_eq_none (by simpa using hi)]
    rfl
/-- a block is read back -/
theorem read_ok {t : Int} {n : Nat} {pc : Nat → List Int} {ls rest : List (List Int)} {data tail : List Int} (g : Good t n pc ls) (h0 : 0 ≤ t) (h1 : t < 256 ^ 6) (hd : data.length < 100000)
    (hb : ((List.range n).map pc).flatten = be (data.length : Int) 4 ++ data ++ tail) : readB (ls ++ rest) t = .tuple [ll data, .int (n : Int)] := by
  have hg : (ls ++ rest).getD 0 [] = ls.getD 0 [] := by
    rw [List.getD_eq_getElem?_getD, List.getD_eq_getElem?_getD, List.getElem?_append_left (by rw [g.len]; exact g.pos)]
  have ht : (ls ++ rest).take (n : Int).toNat = ls := by
    rw [Int.toNat_natCast, ← g.len]
    exact List.take_left' rfl
  have hpos := g.pos
  unfold readB
  dsimp only
  rw [hg, g.cnt, ht, g.body, hb]
  have hc4 : (be (data.length : Int) 4 ++ data ++ tail).take 4 = be (data.length : Int) 4 := by
    rw [List.append_assoc, List.take_append_of_le_length (by rw [be_len]; decide), List.take_of_length_le (by rw [be_len]; decide)]
  have hn : numOf ((be (data.length : Int) 4 ++ data ++ tail).take 4) = (data.length : Int) := by
    rw [hc4]
    exact numOf_be 4 _ (by omega) (by show (data.length : Int) < 4294967296; omega)
  rw [hn, if_neg (by rw [List.length_append, g.len]; omega), if_neg (by rw [List.length_append, g.len]; omega), if_neg (by rw [g.turn h0 h1]; decide), if_neg (by simp [be_len]; omega)]
  rw [cutG_int _ (by decide) (by omega)]
  have e1 : ((4 : Int) + (data.length : Int)).toNat - (4 : Int).toNat = data.length := by omega
  rw [e1, show (4 : Int).toNat = 4 from rfl, List.append_assoc, List.drop_append_of_le_length (by rw [be_len]; decide), List.drop_of_length_le (by rw [be_len]; decide), List.nil_append, List.take_left' rfl]
/-- no block -/
theorem read_turn {t : Int} {ls : List (List Int)} (h : ls.length ≠ 0) (h2 : ∃ s ∈ ls.take (numOf (((ls.getD 0 []).drop 6).take 4)).toNat, hasTurn t s = false) : readB ls t = .none := by
  unfold readB
  dsimp only
  rw [if_neg h]
  split
  · rfl
  · obtain ⟨s, hs, hf⟩ := h2
    rw [if_pos]
    intro z
    rw [List.all_eq_true] at z
    rw [z s hs] at hf
    cases hf
theorem read_first {t : Int} {s : List Int} {r : List (List Int)} (h : hasTurn t s = false) : readB (s :: r) t = .none := by
  unfold readB
  dsimp only
  rw [if_neg (by simp)]
  split
  · rfl
  · rename_i hc
    rw [if_pos]
    intro z
    rw [List.all_eq_true] at z
    have hm : s ∈ (s :: r).take (numOf ((((s :: r).getD 0 []).drop 6).take 4)).toNat := by
      have : 1 ≤ (numOf ((((s :: r).getD 0 []).drop 6).take 4)).toNat := by omega
      obtain ⟨m, hm⟩ := Nat.exists_eq_add_of_le this
      rw [hm, Nat.add_comm, List.take_succ_cons]
      exact List.mem_cons_self
    rw [z s hm] at h
    cases h
theorem read_cnt {t : Int} {ls : List (List Int)} (h : ¬ (1 ≤ numOf (((ls.getD 0 []).drop 6).take 4) ∧ numOf (((ls.getD 0 []).drop 6).take 4) ≤ (ls.length : Int))) : readB ls t = .none := by
  unfold readB
  dsimp only
  split
  · rfl
  · first | rfl | rw [if_pos h]
theorem read_size {t : Int} {ls : List (List Int)} (h : ((body (ls.take (numOf (((ls.getD 0 []).drop 6).take 4)).toNat)).length : Int) - 4 < numOf ((body (ls.take (numOf (((ls.getD 0 []).drop 6).take 4)).toNat)).take 4)) : readB ls t = .none := by
  unfold readB
  dsimp only
  split
  · rfl
  · split
    · rfl
    · split
      · rfl
      · first | rfl | rw [if_pos h]
/-! the pieces -/
def padded (c : List Int) (x : Int) : List Int := c ++ List.replicate (54 * nCh c.length - c.length) x
theorem padded_len (c : List Int) (x : Int) : (padded c x).length = 54 * nCh c.length := by
  unfold padded nCh
  rw [List.length_append, List.length_replicate]
  omega
def piece (c : List Int) (x : Int) (k : Nat) : List Int := ((padded c x).drop (54 * k)).take 54
theorem piece_len {c : List Int} {x : Int} {k : Nat} (h : k < nCh c.length) : (piece c x k).length = 54 := by
  unfold piece
  rw [List.length_take, List.length_drop, padded_len]
  omega
theorem pieces_all (ys : List Int) : ∀ n : Nat, ys.length = 54 * n → ((List.range n).map fun k => (ys.drop (54 * k)).take 54).flatten = ys := by
  intro n
  induction n generalizing ys with
  | zero =>
    intro h
    have : ys = [] := List.eq_nil_of_length_eq_zero (by omega)
    subst this
    rfl
  | succ n ih =>
    intro h
    rw [List.range_succ_eq_map, List.map_cons, List.flatten_cons, List.map_map]
    have e : ((List.range n).map ((fun k => (ys.drop (54 * k)).take 54) ∘ Nat.succ)) = (List.range n).map fun k => ((ys.drop 54).drop (54 * k)).take 54 := by
      apply List.map_congr_left
      intro k _
      show (ys.drop (54 * (k + 1))).take 54 = _
      rw [List.drop_drop]
      congr 2
      omega
    rw [e, ih (ys.drop 54) (by rw [List.length_drop]; omega), Nat.mul_zero, List.drop_zero, List.take_append_drop]
theorem pieces_flat (c : List Int) (x : Int) : ((List.range (nCh c.length)).map (piece c x)).flatten = padded c x := pieces_all (padded c x) (nCh c.length) (padded_len c x)
/-- a piece is the chunk, filled -/
theorem piece_eq {c : List Int} {x : Int} {k : Nat} (h : k < nCh c.length) : piece c x k = chunk c k ++ List.replicate (54 - (chunk c k).length) x := by
  unfold piece padded chunk
  have h2 : 54 * k ≤ c.length := by unfold nCh at h; omega
  rw [List.drop_append_of_le_length h2, List.take_append]
  congr 1
  rw [List.take_replicate, List.length_take, List.length_drop]
  congr 1
  unfold nCh at h ⊢
  omega
theorem block_len (t : Int) (data : List Int) : (block t data).length = nCh (content data).length := by
  unfold block
  rw [List.length_map, List.length_range]
theorem nCh_pos (data : List Int) : 0 < nCh (content data).length := by
  rw [content_len]
  unfold nCh
  omega
theorem nCh_small {data : List Int} (h : data.length ≤ 1000) : nCh (content data).length < 20 := by
  rw [content_len]
  unfold nCh
  omega
theorem block_get (t : Int) (data : List Int) {k : Nat} (h : k < nCh (content data).length) : (block t data)[k]? = some (sec t (be (nCh (content data).length : Int) 4) (piece (content data) 0 k)) := by
  unfold block
  rw [List.getElem?_map, List.getElem?_range h, Option.map_some, piece_eq h]
  unfold sect sec
  rw [List.append_assoc (be t 6 ++ _)]
theorem block_good (t : Int) {data : List Int} (h : data.length ≤ 1000) : Good t (nCh (content data).length) (piece (content data) 0) (block t data) where
  len := block_len t data
  pos := nCh_pos data
  small := by have := nCh_small h; omega
  at_ := fun k hk => ⟨_, be_len _ _, fun _ => rfl, block_get t data hk⟩
theorem block_mem {t : Int} {data : List Int} {s : List Int} (h : s ∈ block t data) : s.length = 64 := by
  obtain ⟨k, hk, e⟩ := List.getElem_of_mem h
  have hk' : k < nCh (content data).length := by rw [← block_len t data]; exact hk
  have h3 := block_get t data hk'
  rw [List.getElem?_eq_getElem hk, e] at h3
  rw [Option.some.inj h3, sec_len (be_len _ _) (piece_len hk')]
theorem good_mem {t : Int} {c : List Int} {x : Int} {ls : List (List Int)} (g : Good t (nCh c.length) (piece c x) ls) {s : List Int} (h : s ∈ ls) : s.length = 64 := by
  obtain ⟨k, hk, e⟩ := List.getElem_of_mem h
  have hk' : k < nCh c.length := by rw [← g.len]; exact hk
  obtain ⟨mid, h1, _, h3⟩ := g.at_ k hk'
  rw [List.getElem?_eq_getElem hk, e] at h3
  rw [Option.some.inj h3, sec_len h1 (piece_len hk')]
theorem good_first {t : Int} {data : List Int} (hd : data.length ≤ 1000) {ps : List (List Int)} (hl : ps.length + 1 = nCh (content data).length) (h : ∀ k, k < ps.length → ∃ mid : List Int, mid.length = 4 ∧ ps[k]? = some (sec t mid (piece (content data) 0 (k + 1)))) :
    Good t (nCh (content data).length) (piece (content data) 0) ((block t data).take 1 ++ ps) := by
  have h1 : ((block t data).take 1).length = 1 := by
    have := block_len t data
    rw [List.length_take]
    omega
  refine ⟨by rw [List.length_append, h1]; omega, nCh_pos data, by have := nCh_small hd; omega, fun k hk => ?_⟩
  by_cases h0 : k = 0
  · subst h0
    refine ⟨_, be_len _ _, fun _ => rfl, ?_⟩
    rw [List.getElem?_append_left (by omega), List.getElem?_take, if_pos (by decide)]
    exact block_get t data hk
  · obtain ⟨mid, m1, m2⟩ := h (k - 1) (by omega)
    refine ⟨mid, m1, fun z => absurd z h0, ?_⟩
    rw [List.getElem?_append_right (by omega), h1, m2, show k - 1 + 1 = k by omega]
theorem good_last {t : Int} {c : List Int} {L : List (List Int)} (g : Good t (nCh c.length) (piece c 0) L) (x : Int) :
    Good t (nCh c.length) (piece c x) (L.set (nCh c.length - 1) ((L.getD (nCh c.length - 1) []).take (64 - (54 * nCh c.length - c.length)) ++ List.replicate (54 * nCh c.length - c.length) x)) := by
  refine ⟨by rw [List.length_set]; exact g.len, g.pos, g.small, fun k hk => ?_⟩
  obtain ⟨mid, m1, m2, m3⟩ := g.at_ k hk
  have hpos := g.pos
  refine ⟨mid, m1, m2, ?_⟩
  by_cases hlast : k = nCh c.length - 1
  · subst hlast
    rw [List.getElem?_set_self (by rw [g.len]; omega), List.getD_eq_getElem?_getD, m3, Option.getD_some, piece_eq hk, piece_eq hk]
    have hch : 54 - (chunk c (nCh c.length - 1)).length = 54 * nCh c.length - c.length := by
      unfold chunk nCh
      rw [List.length_take, List.length_drop]
      unfold nCh at hpos
      omega
    have hcl := chunk_len c (nCh c.length - 1)
    rw [hch]
    congr 1
    unfold sec
    rw [← List.append_assoc, ← List.append_assoc]
    congr 1
    have hl : (be t 6 ++ mid ++ chunk c (nCh c.length - 1)).length = 64 - (54 * nCh c.length - c.length) := by
      rw [List.length_append, List.length_append, be_len, m1]
      omega
    rw [← hl]
    exact List.take_left' rfl
  · rw [List.getElem?_set_ne (Ne.symm hlast), m3, piece_eq hk, piece_eq hk]
    have : 54 - (chunk c k).length = 0 := by
      unfold chunk
      rw [List.length_take, List.length_drop]
      unfold nCh at hk hlast
      omega
    rw [this]
    rfl
theorem flat_content (data : List Int) (x : Int) : ((List.range (nCh (content data).length)).map (piece (content data) x)).flatten = be (data.length : Int) 4 ++ data ++ List.replicate (54 * nCh (content data).length - (content data).length) x := pieces_flat (content data) x
end K07


set_option Elab.async false
set_option linter.all false
set_option maxRecDepth 100000
set_option  maxHeartbeats 4000000
namespace K07
open PySem PyProof.Rows L2 Ab
local macro_rules | `(tactic| walk_at "len") => `(tactic| first | decide | omega | (simp only [List.length_append, List.length_map, List.length_replicate, List.length_cons, List.length_nil, List.length_take, List.length_drop, List.length_reverse, List.length_range]; omega))
local macro_rules | `(tactic| walk_at "1") => `(tactic| (first
  | (with_reducible refine ws_set ?_)
  | (with_reducible refine ws_ret ?_)
  | (with_reducible refine ws_if ?_)
  | (with_reducible refine ws_drop ?_)
  | (with_reducible refine w_op ?_)
  | (with_reducible refine w_int ?_)
  | (with_reducible refine w_bl ?_)
  | (with_reducible refine w_non ?_)
  | (with_reducible refine w_str ?_)
  | (with_reducible refine w_cb ?_)
  | (with_reducible refine w_call ?_)
  | (with_reducible refine w_sl ?_)
  | (with_reducible refine w_tupD ?_)
  | (with_reducible refine w_chain ?_)
  | (with_reducible refine w_andV ?_)
  | (with_reducible refine w_orV ?_)
  | (with_reducible refine w_notV ?_)
  | (with_reducible refine wo_none ?_)
  | (with_reducible refine wo_some ?_)
  | (with_reducible refine wa_cons ?_)
  | (with_reducible refine wa_nil ?_)
  | (with_reducible refine wt_test ?_)
  | (with_reducible refine wt_B ?_)
  | (with_reducible refine wt_and ?_)
  | (with_reducible refine wt_or ?_)
  | (with_reducible refine wt_not ?_)
  | (with_reducible refine wt_yes ?_)
  | (with_reducible refine w2_i0 ?_)
  | (with_reducible refine w2_b0 ?_)
  | (with_reducible refine w1_neg ?_)
  | ((with_reducible refine w2_i ?hc ?_); (case hc => first | decide | exact ⟨by decide, by decide⟩ | exact Or.inl ⟨by decide, by decide⟩ | exact Or.inr ⟨by decide, by decide⟩ | exact ⟨by decide, by decide, by decide⟩ | omega); skip)
  | ((with_reducible refine' w_var ?hv ?_); (case hv => exact rfl); skip)
  | ((with_reducible show W2 _ (rEqD _) _ _ _ _); (refine w2_eq ?ha ?hb ?_); (case ha => first | exact shaped_int _ | exact shaped_bool _); (case hb => first | exact shaped_int _ | exact shaped_bool _); skip)
  | ((with_reducible show W2 _ (rNeD _) _ _ _ _); (refine w2_ne ?ha ?hb ?_); (case ha => first | exact shaped_int _ | exact shaped_bool _); (case hb => first | exact shaped_int _ | exact shaped_bool _); skip)
  | ((with_reducible show W2 _ _ _ _ _ _); (refine w2_isN ?_))
  | ((with_reducible show W2 _ _ _ _ _ _); (refine w2_notN ?_))
  | (with_reducible refine wl_lenE ?_)
  | (with_reducible refine wl_lenD ?_)
  | (with_reducible refine wl_lenTD ?_)
  | (with_reducible refine wl_listE ?_)
  | (with_reducible refine wsl_E ?_)
  | ((with_reducible refine' w2_catE ?hl ?_); (try (case hl => walk_at "len")); skip)
  | ((with_reducible refine' w2_rep1 ?h1 ?h2 ?_); (try (case h1 => first | decide | omega)); (try (case h2 => first | decide | omega)); skip)
  | ((with_reducible show WL _ _ [_] _ _); (refine' wl_len ?hl ?_); (case hl => first | exact lsv_dat | exact lsv_ref um_same | exact lsv_ref (by assumption)); skip)
  | ((with_reducible show WL _ _ [_] _ _); (refine' wl_list ?hl ?_); (case hl => first | exact .inl lsv_dat | exact .inl (lsv_ref (by assumption))); skip)
  | ((with_reducible show WSl _ (rSlL _) _ _ _ _ _); (refine' wsl_lst ?hl ?_); (case hl => first | exact lsv_dat | exact lsv_ref um_same | exact lsv_ref (by assumption)); skip)
  | ((with_reducible show WL _ _ [_] _ _); (refine wl_int ?_))
  | ((with_reducible show W2 _ (rIxL _) _ _ _ _); (refine' w2_ixL ?hs ?hx ?_); (case hs => first | exact lsv_dat | exact lsv_ref um_same | exact lsv_ref (by assumption)); (try (case hx => exact rfl)); skip)
  | ((with_reducible show W2 _ (rIxT _) _ _ _ _); (refine' w2_ixT ?hx ?_); (try (case hx => exact rfl)); skip)
  | ((with_reducible show WL _ (rIsi _) [_, _] _ _); (refine' wl_isi ?hb ?_); (case hb => first | exact isi_bool _ | exact isi_int _ | exact isi_str _ | exact isi_tuple _ | exact isi_list _); skip)
  | ((with_reducible show W _ (tC (V.ty _)) _ _ _); (refine w_raw ?_))
  | ((with_reducible show WL _ _ [_] _ _); (refine' wl_lenT ?hl ?_); (case hl => exact tpv_dat); skip)
  | (with_reducible refine ws_next ?_)
  | (with_reducible refine ite_t rfl ?_)
  | (with_reducible refine ite_f rfl ?_)
  | ((with_reducible show ∃ b : Bool, _ = Sl.bl b ∧ _); (with_reducible refine ⟨_, rfl, ?_⟩))
  | ((with_reducible show ∃ i : Int, _ = Sl.int i ∧ _); (with_reducible refine ⟨_, rfl, ?_⟩))
  | ((with_reducible show List.length _ ≤ 100000 ∧ _); (refine ⟨(by simp), ?_⟩))
  | ((with_reducible show ∃ ds : List PyData, datsOf _ = some ds ∧ _); (refine ⟨_, rfl, ?_⟩))))
local macro_rules | `(tactic| walk_at "e") => `(tactic| repeat (first | (with_reducible refine ws_seq ?_) | (walk_at "1")))
local macro_rules | `(tactic| walk_at "g") => `(tactic| repeat (first | (walk_at "1") | ((with_reducible refine w_lstI (wa_cons ?_)); (repeat (walk_at "1")); (with_reducible show ∃ ns : List Int, itemsI _ = some ns ∧ _); (refine ⟨_, rfl, ?_⟩)) | (with_reducible refine w_lstD ?_)))
local macro_rules | `(tactic| walk_at "f") => `(tactic| repeat (first | (with_reducible refine ws_seq ?_) | (walk_at "1") | ((with_reducible refine w_lstI (wa_cons ?_)); (repeat (walk_at "1")); (with_reducible show ∃ ns : List Int, itemsI _ = some ns ∧ _); (refine ⟨_, rfl, ?_⟩)) | (with_reducible refine w_lstD ?_)))
local macro_rules | `(tactic| walk_at "k") => `(tactic| first | dsimp only [cxOf, Cx.nox, Cx.wish] | skip)

local macro_rules | `(tactic| walk_at "len") => `(tactic| (simp only [List.length_append, List.length_map, List.length_replicate, List.length_cons, List.length_nil, List.length_take, List.length_drop, List.length_reverse, List.length_range, lsb_len, be_len]; omega))
section
variable {P : Program} {w : World} {K : PySem.W.Frag} {mg : Str → Option Value} {base : Heap} {a : AD} {d : FD}
def A_places : ASp := fun ss M Q => ∃ n : Int, ss = [.int n] ∧ 0 ≤ n ∧ n ≤ 1000 ∧ Q (.bl true) M
theorem ok_places (T : Txt K mg a d) : FnOk P w K mg base CX0 4 a.law_asks_places d.law_asks_places ["_law_size"] (conc K A_places) := by
  have G_area_size : FnOk P w K mg base CX0 1 a.area_size d.area_size ["size"] (conc K A_area_size) := ok_area_size T
  have G_area_start : FnOk P w K mg base CX0 2 a.area_start d.area_start ["size", "area"] (conc K A_area_start) := ok_area_start T
  have G_law_same : FnOk P w K mg base CX0 3 a.law_same d.law_same ["_law_actual", "_law_expected"] (conc K (A_sameN 3)) := ok_sameN T 3
  refine ab_ok T.F_law_asks_places sc_law_asks_places (fun ss M Q ⟨n, e, _⟩ => by subst e; rfl) fun cdv Ar outer s H E hr => ⟨_, (pss_cons (ps_set (i := 1) sc_law_asks_places.nd rfl (Or.inl rfl) (pe_op op_fdiv (pe_op op_sub (pv 0) pe_int) pe_int))
  (pss_one (ps_ret (pe_call G_law_same (hr.mono (by omega)) (by rfl) T.g_law_same T.F_law_same.kp T.b_law_same .nil pass0 (pa_cons (pe_lst (pa_cons (pe_call G_area_size (hr.mono (by omega)) (by rfl) T.g_area_size T.F_area_size.kp T.b_area_size .nil pass0 (pa_cons (pv 0) pa_nil)) (pa_cons (pe_call G_area_start (hr.mono (by omega)) (by rfl) T.g_area_start T.F_area_start.kp T.b_area_start .nil pass0 (pa_cons (pv 0) (pa_cons pe_int pa_nil))) (pa_cons (pe_call G_area_start (hr.mono (by omega)) (by rfl) T.g_area_start T.F_area_start.kp T.b_area_start .nil pass0 (pa_cons (pv 0) (pa_cons pe_int pa_nil))) pa_nil)))) (pa_cons (pe_lst (pa_cons (pv 1) (pa_cons pe_int (pa_cons (pe_op op_add pe_int (pv 1)) pa_nil)))) pa_nil)))))), ?_⟩
  rintro ss M Q ⟨n, rfl, h0, h1, q⟩
  walk_at "k"
  show WS K _ [some (.int n), none] M _
  walk_at "e"
  refine w_lstD ?_
  walk_at "e"
  refine ⟨n, rfl, ?_⟩
  walk_at "e"
  refine ⟨n, 0, rfl, by decide, by decide, h0, h1, ?_⟩
  walk_at "e"
  refine ⟨n, 1, rfl, by decide, by decide, h0, h1, ?_⟩
  walk_at "e"
  refine w_lstD ?_
  walk_at "e"
  refine ⟨.list [.int ((n - 2) / 2), .int 2, .int (2 + (n - 2) / 2)], ?_, rfl, q⟩
  have e1 : 2 + 0 * ((n - 2) / 2) = 2 := by omega
  have e2 : 2 + 1 * ((n - 2) / 2) = 2 + (n - 2) / 2 := by omega
  rw [e1, e2]
def A_asks : ASp := fun ss M Q => ∃ (p : Addr) (xs : List Sl), ss = [.ref p] ∧ M p = some (.lst xs) ∧ DrawL xs ∧ ∀ (ys : List Sl), DrawL ys → Q (.bl true) (um M p (.lst ys))
theorem head_is {t : Int} {i : Int} (h0 : 1 ≤ t) (h1 : t < 256 ^ 6) (hi : i ≤ 1) : isHead ([82, 85, 76, 69] ++ be t 6 ++ [i] ++ List.replicate 53 0) = true ∧ numOf ((([82, 85, 76, 69] ++ be t 6 ++ [i] ++ List.replicate 53 0).drop 4).take 6) = t ∧ ([82, 85, 76, 69] ++ be t 6 ++ [i] ++ List.replicate 53 0).getD 10 0 = i := by
  have e1 : ((([82, 85, 76, 69] ++ be t 6 ++ [i] ++ List.replicate 53 0).drop 4).take 6) = be t 6 := by
    rw [List.append_assoc, List.append_assoc]
    show (be t 6 ++ _).take 6 = _
    rw [List.take_append_of_le_length (by rw [be_len]; decide), List.take_of_length_le (by rw [be_len]; decide)]
  have e2 : ([82, 85, 76, 69] ++ be t 6 ++ [i] ++ List.replicate 53 0).getD 10 0 = i := by
    rw [List.getD_eq_getElem?_getD, List.append_assoc, List.getElem?_append_right (by rw [List.length_append, be_len]; decide)]
    rw [List.length_append, be_len]
    rfl
  have e3 : numOf (be t 6) = t := numOf_be 6 t (by omega) h1
  refine ⟨?_, by rw [e1, e3], e2⟩
  unfold isHead
  rw [e1, e2, e3, decide_eq_false (by omega), decide_eq_false (by omega), decide_eq_true rfl]
  rfl
theorem not_head {s : List Int} (h : numOf ((s.drop 4).take 6) < 1 ∨ 1 < s.getD 10 0 ∨ ∃ k : Nat, (k < 4 ∧ s[k]? ≠ [82, 85, 76, 69][k]?) ∨ (11 ≤ k ∧ k < 64 ∧ s[k]? ≠ some 0)) : isHead s = false := by
  unfold isHead
  rcases h with h | h | ⟨k, h⟩
  · rw [decide_eq_true h]; rfl
  · rw [decide_eq_true h]
    cases decide (numOf ((s.drop 4).take 6) < 1) <;> rfl
  · rw [decide_eq_false (p := s = _) ?_]
    · simp
    · intro e
      rcases h with ⟨h1, h2⟩ | ⟨h1, h2, h3⟩
      · apply h2
        rw [e, List.append_assoc, List.append_assoc, List.getElem?_append_left (by show k < 4; omega)]
      · apply h3
        rw [e, List.getElem?_append_right (by simp [be_len]; omega), List.getElem?_replicate, if_pos (by simp [be_len]; omega)]
theorem put_get {s x : List Int} {n k : Nat} (hn : n + x.length ≤ s.length) : (s.take n ++ x ++ s.drop (n + x.length))[k]? = if k < n then s[k]? else if k < n + x.length then x[k - n]? else s[k]? := by
  rw [List.append_assoc]
  have hl : (s.take n).length = n := by rw [List.length_take]; omega
  split
  · rw [List.getElem?_append_left (by omega), List.getElem?_take, if_pos (by assumption)]
  · rw [List.getElem?_append_right (by omega), hl]
    split
    · rw [List.getElem?_append_left (by omega)]
    · rw [List.getElem?_append_right (by omega), List.getElem?_drop]
      congr 1
      omega
theorem put_len {s x : List Int} {n : Nat} (hn : n + x.length ≤ s.length) : (s.take n ++ x ++ s.drop (n + x.length)).length = s.length := by
  rw [List.length_append, List.length_append, List.length_take, List.length_drop]
  omega
theorem okD_lsi2 {xs : List Int} (h : xs.length ≤ 100000) : okD 2 (.list (xs.map .int)) = true := okD_lsi 1 h
theorem ok_head_law (T : Txt K mg a d) : FnOk P w K mg base CX0 4 a.law_asks_head d.law_asks_head ["_law_state"] (conc K A_asks) := by
  have G_law_turn : FnOk P w K mg base CX0 2 a.law_turn d.law_turn ["_law_state"] (conc K A_turn) := ok_turn T
  have G_law_next : FnOk P w K mg base CX0 1 a.law_next d.law_next ["_law_state", "_law_limit"] (conc K A_next) := ok_next T
  have G_law_fixed : FnOk P w K mg base CX0 1 a.law_fixed d.law_fixed ["_law_number", "_law_count"] (conc K A_lfixed) := ok_lfixed T
  have G_law_put : FnOk P w K mg base CX0 1 a.law_put d.law_put ["_law_sector", "_law_place", "_law_data"] (conc K A_put) := ok_put T
  have G_head : FnOk P w K mg base CX0 2 a.head d.head ["turn", "area"] (conc K A_head) := ok_head T
  have G_read_head : FnOk P w K mg base CX0 3 a.read_head d.read_head ["sector"] (conc K A_read_head) := ok_read_head T
  have G_law_same : FnOk P w K mg base CX0 3 a.law_same d.law_same ["_law_actual", "_law_expected"] (conc K (A_sameN 3)) := ok_sameN T 3
  refine ab_ok T.F_law_asks_head sc_law_asks_head (fun ss M Q ⟨p, xs, e, _⟩ => by subst e; rfl) fun cdv Ar outer s H E hr => ?_
  have hu64 := hr.units
  refine ⟨_, (pss_cons (ps_set (i := 1) sc_law_asks_head.nd rfl (Or.inl rfl) (pe_call G_law_turn (hr.mono (by omega)) (by rfl) T.g_law_turn T.F_law_turn.kp T.b_law_turn .nil pass0 (pa_cons (pv 0) pa_nil)))
  (pss_cons (ps_set (i := 2) sc_law_asks_head.nd rfl (Or.inl rfl) (pe_call G_law_next (hr.mono (by omega)) (by rfl) T.g_law_next T.F_law_next.kp T.b_law_next .nil pass0 (pa_cons (pv 0) (pa_cons pe_int pa_nil))))
  (pss_cons (ps_set (i := 3) sc_law_asks_head.nd rfl (Or.inl rfl) (pe_op (r := rCatL K) op_catL (pe_op (r := rCatL K) op_catL (pe_op (r := rCatL K) op_catL (pe_lst (pa_cons pe_int (pa_cons pe_int (pa_cons pe_int (pa_cons pe_int pa_nil))))) (pe_call G_law_fixed (hr.mono (by omega)) (by rfl) T.g_law_fixed T.F_law_fixed.kp T.b_law_fixed .nil pass0 (pa_cons (pv 1) (pa_cons pe_int pa_nil)))) (pe_lst (pa_cons (pv 2) pa_nil))) (pe_op op_repL (pe_lst (pa_cons pe_int pa_nil)) pe_int)))
  (pss_cons (ps_if (PW.pt (pw_or (pt_not (pt_val (pe_call G_law_same (hr.mono (by omega)) (by rfl) T.g_law_same T.F_law_same.kp T.b_law_same .nil pass0 (pa_cons (pe_call G_head (hr.mono (by omega)) (by rfl) T.g_head T.F_head.kp T.b_head .nil pass0 (pa_cons (pv 1) (pa_cons (pv 2) pa_nil))) (pa_cons (pv 3) pa_nil))))) (pw_or1 (pt_not (pt_val (pe_call G_law_same (hr.mono (by omega)) (by rfl) T.g_law_same T.F_law_same.kp T.b_law_same .nil pass0 (pa_cons (pe_call G_read_head (hr.mono (by omega)) (by rfl) T.g_read_head T.F_read_head.kp T.b_read_head .nil pass0 (pa_cons (pe_callTy (r := rListS K) call_list_of (by rfl) T.n_list (by decide +kernel) (pa_cons (pv 3) pa_nil)) pa_nil)) (pa_cons (pe_tup (pa_cons (pv 1) (pa_cons (pv 2) pa_nil))) pa_nil)))))))) (pss_one (ps_ret pe_bl)) pss_nil)
  (pss_cons (ps_set (i := 4) sc_law_asks_head.nd rfl (Or.inl rfl) (pe_ix (r := rIxL K) ix_list (pe_lst (pa_cons (pe_call G_law_next (hr.mono (by omega)) (by rfl) T.g_law_next T.F_law_next.kp T.b_law_next .nil pass0 (pa_cons (pv 0) (pa_cons pe_int pa_nil))) (pa_cons (pe_op op_add pe_int (pe_call G_law_next (hr.mono (by omega)) (by rfl) T.g_law_next T.F_law_next.kp T.b_law_next .nil pass0 (pa_cons (pv 0) (pa_cons pe_int pa_nil)))) pa_nil))) (pe_call G_law_next (hr.mono (by omega)) (by rfl) T.g_law_next T.F_law_next.kp T.b_law_next .nil pass0 (pa_cons (pv 0) (pa_cons pe_int pa_nil))) (fun _ _ => rfl)))
  (pss_cons (ps_set (i := 5) sc_law_asks_head.nd rfl (Or.inl rfl) (pe_lst (pa_cons (pe_call G_law_put (hr.mono (by omega)) (by rfl) T.g_law_put T.F_law_put.kp T.b_law_put .nil pass0 (pa_cons (pv 3) (pa_cons (pv 4) (pa_cons (pe_lst (pa_cons (pe_op op_mod (pe_op op_add (pe_op op_add (pe_ix (r := rIxL K) ix_list (pv 3) (pv 4) (fun _ _ => rfl)) pe_int) (pe_call G_law_next (hr.mono (by omega)) (by rfl) T.g_law_next T.F_law_next.kp T.b_law_next .nil pass0 (pa_cons (pv 0) (pa_cons pe_int pa_nil)))) pe_int) pa_nil)) pa_nil)))) (pa_cons (pe_op op_repL (pe_lst (pa_cons pe_int pa_nil)) pe_int) pa_nil))))
  (pss_cons (ps_set (i := 5) sc_law_asks_head.nd rfl (Or.inl rfl) (pe_op (r := rCatL K) op_catL (pv 5) (pe_lst (pa_cons (pe_call G_law_put (hr.mono (by omega)) (by rfl) T.g_law_put T.F_law_put.kp T.b_law_put .nil pass0 (pa_cons (pv 3) (pa_cons pe_int (pa_cons (pe_lst (pa_cons (pe_op op_add pe_int (pe_call G_law_next (hr.mono (by omega)) (by rfl) T.g_law_next T.F_law_next.kp T.b_law_next .nil pass0 (pa_cons (pv 0) (pa_cons pe_int pa_nil)))) pa_nil)) pa_nil)))) (pa_cons (pe_call G_law_put (hr.mono (by omega)) (by rfl) T.g_law_put T.F_law_put.kp T.b_law_put .nil pass0 (pa_cons (pv 3) (pa_cons pe_int (pa_cons (pe_op op_repL (pe_lst (pa_cons pe_int pa_nil)) pe_int) pa_nil)))) pa_nil)))))
  (pss_one (ps_ret (pe_cmpR (r := rEqD K) (op_eqD hu64) (pe_lc (own := [("_law_each", 6)]) rfl sc_law_asks_head.nd (pi_list (pv 5)) (blkOk_by (own := [("_law_each", 6)]) (N := ["_law_state", "_law_turn_here", "_law_area", "_law_sector", "_law_place", "_law_wrong", "_law_each"]) (sc := (defScope s_law_asks_head)) (by decide +kernel)) (fun _ _ _ _ _ => (pg_name (i := 6) sc_law_asks_head.nd rfl (Or.inl rfl))) (fun _ _ _ _ _ => pts_nil) (fun _ _ _ _ _ => (pe_call G_read_head (hr.mono (by omega)) (by rfl) T.g_read_head T.F_read_head.kp T.b_read_head .nil pass0 (pa_cons (pv 6) pa_nil)))) (pe_lst (pa_cons pe_non (pa_cons pe_non (pa_cons pe_non (pa_cons pe_non pa_nil))))) (nomark _))))))))))), ?_⟩
  rintro ss M Q ⟨p, xs, rfl, hp, hD, q⟩
  walk_at "k"
  show WS K _ [some (.ref p), none, none, none, none, none, none] M _
  walk_at "f"
  refine ⟨p, xs, rfl, hp, hD, fun t xs1 ht0 ht1 hD1 => ?_⟩
  walk_at "f"
  refine ⟨p, 2, xs1, rfl, um_same, hD1, by decide, by decide, fun ar xs2 ha0 ha1 hD2 => ?_⟩
  rw [um_um]
  have hb6 := be_len t 6
  walk_at "f"
  refine ⟨t, 6, rfl, by decide, ?_⟩
  walk_at "f"
  have ht2 : t < 256 ^ 6 := by show t < 281474976710656; omega
  obtain ⟨k1, k2, k3⟩ := head_is ht0 ht2 (i := ar) (by omega)
  have hsl : ([82, 85, 76, 69] ++ be t 6 ++ [ar] ++ List.replicate 53 0).length = 64 := by simp [be_len]
  have hS4 : ∀ k : Nat, k < 4 → ([82, 85, 76, 69] ++ be t 6 ++ [ar] ++ List.replicate 53 0)[k]? = ([82, 85, 76, 69] : List Int)[k]? := fun k hk => by
    rw [List.append_assoc, List.append_assoc, List.getElem?_append_left (by show k < 4; omega)]
  have hS11 : ∀ k : Nat, 11 ≤ k → k < 64 → ([82, 85, 76, 69] ++ be t 6 ++ [ar] ++ List.replicate 53 0)[k]? = some 0 := fun k h1 h2 => by
    rw [List.getElem?_append_right (by simp [be_len]; omega), List.getElem?_replicate, if_pos (by simp [be_len]; omega)]
  refine ⟨t, ar, rfl, ?_⟩
  rw [show Int.toNat 53 = 53 from rfl]
  generalize [82, 85, 76, 69] ++ be t 6 ++ [ar] ++ List.replicate 53 0 = S at *
  walk_at "f"
  refine ⟨_, rfl, okD_lsi2 (by omega), ?_⟩
  walk_at "f"
  refine ⟨S, rfl, by omega, by omega, ?_⟩
  rw [k1, k2, k3]
  walk_at "f"
  refine ⟨.tuple [.int t, .int ar], rfl, rfl, ?_⟩
  walk_at "f"
  refine ⟨p, 4, xs2, rfl, um_same, hD2, by decide, by decide, fun v1 xs3 h1a h1b hD3 => ?_⟩
  rw [um_um]
  walk_at "f"
  refine ⟨p, 53, xs3, rfl, um_same, hD3, by decide, by decide, fun v2 xs4 h2a h2b hD4 => ?_⟩
  rw [um_um]
  walk_at "f"
  refine ⟨p, 2, xs4, rfl, um_same, hD4, by decide, by decide, fun i xs5 h3a h3b hD5 => ?_⟩
  rw [um_um]
  obtain ⟨n, hn, hn2⟩ : ∃ n : Nat, atI (([v1, 11 + v2].map PyData.int).map Sl.dat) i = some (.int (n : Int)) ∧ (n < 4 ∨ (11 ≤ n ∧ n < 64)) := by
    have hi : i.toNat = 0 ∨ i.toNat = 1 := by omega
    have hx : atI (([v1, 11 + v2].map PyData.int).map Sl.dat) i = some (.int ([v1, 11 + v2].getD i.toNat 0)) := atI_two 0 h3a (by show i.toNat < 2; omega)
    rcases hi with e | e <;> rw [e] at hx
    · exact ⟨v1.toNat, by rw [Int.toNat_of_nonneg h1a]; exact hx, by omega⟩
    · exact ⟨(11 + v2).toNat, by rw [Int.toNat_of_nonneg (by omega)]; exact hx, by omega⟩
  refine w2_ixL (lsv_dat (ds := [v1, 11 + v2].map PyData.int)) hn ?_
  have hn64 : n < 64 := by omega
  refine ws_seq (ws_set ?_)
  walk_at "f"
  case hx => exact atI_two 0 (by omega) (by omega)
  walk_at "f"
  refine ⟨p, 255, xs5, rfl, um_same, hD5, by decide, by decide, fun v3 xs6 h4a h4b hD6 => ?_⟩
  rw [um_um, Int.toNat_natCast]
  walk_at "f"
  have hSn : 0 ≤ S.getD n 0 ∧ S.getD n 0 < 256 := by
    rw [List.getD_eq_getElem?_getD]
    rcases hn2 with h | ⟨h, h'⟩
    · rw [hS4 n h]
      have : n = 0 ∨ n = 1 ∨ n = 2 ∨ n = 3 := by omega
      rcases this with e | e | e | e <;> subst e <;> decide
    · rw [hS11 n h h']
      decide
  have hx1 : ∀ y : Int, y = (S.getD n 0 + 1 + v3) % 256 → y ≠ S.getD n 0 := fun y hy => by omega
  refine ⟨S, n, [(S.getD n 0 + 1 + v3) % 256], rfl, by omega, by simp, ?_⟩
  generalize hy : (S.getD n 0 + 1 + v3) % 256 = y
  have hy2 := hx1 y hy.symm
  have w1l : (S.take n ++ [y] ++ S.drop (n + [y].length)).length = 64 := by rw [put_len (by rw [hsl]; show n + 1 ≤ 64; omega), hsl]
  have w1 : isHead (S.take n ++ [y] ++ S.drop (n + [y].length)) = false := by
    refine not_head (.inr (.inr ⟨n, ?_⟩))
    have hg : (S.take n ++ [y] ++ S.drop (n + [y].length))[n]? = some y := by
      rw [put_get (by rw [hsl]; show n + 1 ≤ 64; omega), if_neg (by omega), if_pos (by show n < n + 1; omega), Nat.sub_self]
      rfl
    rw [hg]
    rw [List.getD_eq_getElem?_getD] at hy2
    rcases hn2 with h | ⟨h, h'⟩
    · refine .inl ⟨h, fun e => hy2 ?_⟩
      rw [hS4 n h, ← e]
      rfl
    · refine .inr ⟨h, h', fun e => hy2 ?_⟩
      rw [hS11 n h h']
      exact Option.some.inj e
  generalize S.take n ++ [y] ++ S.drop (n + [y].length) = W1 at *
  walk_at "f"
  refine ⟨p, 254, xs6, rfl, um_same, hD6, by decide, by decide, fun v4 xs7 h5a h5b hD7 => ?_⟩
  rw [um_um]
  walk_at "f"
  refine ⟨S, 10, [2 + v4], rfl, by omega, by simp, ?_⟩
  have w3l : (S.take 10 ++ [2 + v4] ++ S.drop (10 + [2 + v4].length)).length = 64 := by rw [put_len (by rw [hsl]; show 10 + 1 ≤ 64; omega), hsl]
  have w3 : isHead (S.take 10 ++ [2 + v4] ++ S.drop (10 + [2 + v4].length)) = false := by
    refine not_head (.inr (.inl ?_))
    rw [List.getD_eq_getElem?_getD, put_get (by rw [hsl]; show 10 + 1 ≤ 64; omega), if_neg (by omega), if_pos (by show 10 < 10 + 1; omega)]
    show 1 < 2 + v4
    omega
  generalize S.take 10 ++ [2 + v4] ++ S.drop (10 + [2 + v4].length) = W3 at *
  walk_at "f"
  refine ⟨S, 4, List.replicate 6 0, rfl, by omega, by decide, ?_⟩
  have w4l : (S.take 4 ++ List.replicate 6 0 ++ S.drop (4 + (List.replicate 6 (0 : Int)).length)).length = 64 := by rw [put_len (by rw [hsl]; show 4 + 6 ≤ 64; omega), hsl]
  have w4 : isHead (S.take 4 ++ List.replicate 6 0 ++ S.drop (4 + (List.replicate 6 (0 : Int)).length)) = false := by
    refine not_head (.inl ?_)
    have e : ((S.take 4 ++ List.replicate 6 0 ++ S.drop (4 + (List.replicate 6 (0 : Int)).length)).drop 4).take 6 = List.replicate 6 0 := by
      have hl : (S.take 4).length = 4 := by rw [List.length_take]; omega
      rw [List.append_assoc, List.drop_append_of_le_length (by omega), List.drop_of_length_le (by omega), List.nil_append]
      exact List.take_left' rfl
    rw [e]
    decide
  generalize S.take 4 ++ List.replicate 6 0 ++ S.drop (4 + (List.replicate 6 (0 : Int)).length) = W4 at *
  walk_at "f"
  refine w2_cat (ds := [ll W1, ll (List.replicate 64 0)]) (es := [ll W3, ll W4]) lsv_dat lsv_dat (by simp) ?_
  refine ws_ret (w_op ?_)
  have w2 : isHead (List.replicate 64 0) = false := not_head (.inr (.inr ⟨0, .inl ⟨by decide, by decide⟩⟩))
  refine w_lcD (xs := [W1, List.replicate 64 0, W3, W4]) (enc := ll) (M1 := um M p (.lst xs7)) List.mem_cons_self (by exact w_var rfl ⟨rfl, rfl⟩) (by simp) (fun _ => .none) ?_ ?_
  · intro x D o hx hDn
    have hxh : isHead x = false ∧ x.length = 64 := by
      rcases List.mem_cons.mp hx with rfl | hx
      · exact ⟨w1, w1l⟩
      rcases List.mem_cons.mp hx with rfl | hx
      · exact ⟨w2, by rw [List.length_replicate]⟩
      rcases List.mem_cons.mp hx with rfl | hx
      · exact ⟨w3, w3l⟩
      rcases List.mem_cons.mp hx with rfl | hx
      · exact ⟨w4, w4l⟩
      · cases hx
    walk_at "f"
    refine ⟨x, rfl, by omega, by omega, ?_⟩
    rw [hxh.1]
    exact ⟨rfl, rfl⟩
  · walk_at "f"
    show W2 K (rEqD K) (.dat (.list [.none, .none, .none, .none])) (.dat (.list [.none, .none, .none, .none])) _ Q
    refine w2_eq (by decide) (by decide) ?_
    rw [show PyData.eqv (.list [.none, .none, .none, .none]) (.list [.none, .none, .none, .none]) = true by decide]
    exact q xs7 hD7
end
end K07


set_option Elab.async false
set_option linter.all false
set_option maxRecDepth 100000
set_option  maxHeartbeats 4000000
namespace K07
open PySem PyProof.Rows L2 Ab
theorem put_getA {α : Type} {s x : List α} {n k : Nat} (hn : n + x.length ≤ s.length) : (s.take n ++ x ++ s.drop (n + x.length))[k]? = if k < n then s[k]? else if k < n + x.length then x[k - n]? else s[k]? := by
  rw [List.append_assoc]
  have hl : (s.take n).length = n := by rw [List.length_take]; omega
  split
  · rw [List.getElem?_append_left (by omega), List.getElem?_take, if_pos (by assumption)]
  · rw [List.getElem?_append_right (by omega), hl]
    split
    · rw [List.getElem?_append_left (by omega)]
    · rw [List.getElem?_append_right (by omega), List.getElem?_drop]
      congr 1
      omega
theorem put_lenA {α : Type} {s x : List α} {n : Nat} (hn : n + x.length ≤ s.length) : (s.take n ++ x ++ s.drop (n + x.length)).length = s.length := by
  rw [List.length_append, List.length_append, List.length_take, List.length_drop]
  omega
theorem mid_same {s u : List Int} (h : ∀ k, 6 ≤ k → k < 10 → s[k]? = u[k]?) : (s.drop 6).take 4 = (u.drop 6).take 4 := by
  apply List.ext_getElem?
  intro i
  rw [List.getElem?_take, List.getElem?_take, List.getElem?_drop, List.getElem?_drop]
  split
  · exact h _ (by omega) (by omega)
  · rfl
theorem getD_of {α : Type} {xs : List α} {i : Nat} {x d : α} (h : xs[i]? = some x) : xs.getD i d = x := by
  rw [List.getD_eq_getElem?_getD, h]
  rfl
theorem body_len64 : ∀ {ls : List (List Int)}, (∀ s ∈ ls, s.length = 64) → (body ls).length = 54 * ls.length
  | [], _ => rfl
  | x :: xs, h => by
    have h1 := h x List.mem_cons_self
    have h2 := body_len64 fun s hs => h s (List.mem_cons_of_mem _ hs)
    show (x.drop 10 ++ body xs).length = 54 * (xs.length + 1)
    rw [List.length_append, List.length_drop]
    omega
section
variable {t : Int} {data : List Int}
theorem block_getD (hd : data.length ≤ 1000) {k : Nat} (h : k < nCh (content data).length) : (block t data).getD k [] = sec t (be (nCh (content data).length : Int) 4) (piece (content data) 0 k) := getD_of (block_get t data h)
theorem cnt_mid (hd : data.length ≤ 1000) {s : List Int} (h : (s.drop 6).take 4 = be (nCh (content data).length : Int) 4) : numOf ((s.drop 6).take 4) = (nCh (content data).length : Int) := by
  rw [h]
  have := nCh_small hd
  exact numOf_be 4 _ (by omega) (by show (nCh (content data).length : Int) < 4294967296; omega)
theorem bad_turn (hd : data.length ≤ 1000) (h0 : 0 ≤ t) (h1 : t < 256 ^ 6) {pl k : Nat} (hpl : pl < nCh (content data).length) (hk : k < 6) {y : Int} (hy : y ≠ ((block t data).getD pl []).getD k 0) :
    readB ((block t data).take pl ++ [((block t data).getD pl []).take k ++ [y] ++ ((block t data).getD pl []).drop (k + 1)] ++ (block t data).drop (pl + 1)) t = .none := by
  have hbl := block_len t data
  rw [block_getD hd hpl] at hy ⊢
  have hSl : (sec t (be (nCh (content data).length : Int) 4) (piece (content data) 0 pl)).length = 64 := sec_len (be_len _ _) (piece_len hpl)
  have hS6 := sec_take6 t (be (nCh (content data).length : Int) 4) (piece (content data) 0 pl)
  have hSm := sec_mid (t := t) (p := piece (content data) 0 pl) (be_len (nCh (content data).length : Int) 4)
  generalize sec t (be (nCh (content data).length : Int) 4) (piece (content data) 0 pl) = S at *
  have hp1 : k + [y].length ≤ S.length := by rw [hSl]; show k + 1 ≤ 64; omega
  have hWg : ∀ i, (S.take k ++ [y] ++ S.drop (k + 1))[i]? = if i < k then S[i]? else if i < k + 1 then [y][i - k]? else S[i]? := fun i => put_getA (x := [y]) hp1
  have hWm : ((S.take k ++ [y] ++ S.drop (k + 1)).drop 6).take 4 = be (nCh (content data).length : Int) 4 := by
    rw [← hSm]
    refine mid_same fun i hi _ => ?_
    rw [hWg, if_neg (by omega), if_neg (by omega)]
  have hWt : hasTurn t (S.take k ++ [y] ++ S.drop (k + 1)) = false := by
    have hb6 := be_len t 6
    have hkl : k < (be t 6).length := by omega
    have e1 : (S.take k ++ [y] ++ S.drop (k + 1)).take 6 = (be t 6).take k ++ [y] ++ (be t 6).drop (k + 1) := by
      apply List.ext_getElem?
      intro i
      have hBg : ∀ i, ((be t 6).take k ++ [y] ++ (be t 6).drop (k + 1))[i]? = if i < k then (be t 6)[i]? else if i < k + 1 then [y][i - k]? else (be t 6)[i]? := fun i => put_getA (x := [y]) (by rw [hb6]; show k + 1 ≤ 6; omega)
      have hbg : ∀ i, i < 6 → (be t 6)[i]? = S[i]? := fun i hi => by rw [← hS6, List.getElem?_take, if_pos hi]
      rw [List.getElem?_take, hWg, hBg]
      by_cases hi : i < 6
      · rw [if_pos hi, hbg i hi]
      · rw [if_neg hi, if_neg (by omega), if_neg (by omega), List.getElem?_eq_none (by omega)]
    have e2 : (be t 6).take k ++ [(be t 6)[k]] ++ (be t 6).drop (k + 1) = be t 6 := by
      rw [List.append_assoc, List.singleton_append, List.getElem_cons_drop, List.take_append_drop]
    have hyk : y ≠ (be t 6)[k] := by
      intro e
      apply hy
      have : S[k]? = some (be t 6)[k] := by
        have h := List.getElem?_eq_getElem hkl
        rw [← h, ← hS6, List.getElem?_take, if_pos hk]
      rw [getD_of this, e]
    unfold hasTurn
    rw [e1]
    refine decide_eq_false fun e => ?_
    have := numOf_one (xs := (be t 6).take k) (zs := (be t 6).drop (k + 1)) hyk
    rw [e2, numOf_be 6 t h0 h1] at this
    exact this e
  generalize S.take k ++ [y] ++ S.drop (k + 1) = W at *
  have hp2 : pl + [W].length ≤ (block t data).length := by rw [hbl]; show pl + 1 ≤ _; omega
  have hLl : ((block t data).take pl ++ [W] ++ (block t data).drop (pl + 1)).length = (block t data).length := put_lenA (x := [W]) hp2
  have hLg : ∀ i, ((block t data).take pl ++ [W] ++ (block t data).drop (pl + 1))[i]? = if i < pl then (block t data)[i]? else if i < pl + 1 then [W][i - pl]? else (block t data)[i]? := fun i => put_getA (x := [W]) hp2
  have hcnt : numOf (((((block t data).take pl ++ [W] ++ (block t data).drop (pl + 1)).getD 0 []).drop 6).take 4) = (nCh (content data).length : Int) := by
    refine cnt_mid hd ?_
    by_cases h : pl = 0
    · subst h
      rw [getD_of (x := W) (by rw [hLg]; rfl)]
      exact hWm
    · rw [getD_of (x := sec t (be (nCh (content data).length : Int) 4) (piece (content data) 0 0)) (by rw [hLg, if_pos (by omega)]; exact block_get t data (nCh_pos data))]
      exact sec_mid (be_len _ _)
  refine read_turn (by rw [hLl, hbl]; have := nCh_pos data; omega) ⟨W, ?_, hWt⟩
  rw [hcnt, Int.toNat_natCast, List.take_of_length_le (by rw [hLl, hbl]; exact Nat.le_refl _)]
  simp
theorem bad_less (hd : data.length ≤ 1000) : readB ((block t data).take ((block t data).length - 1)) t = .none := by
  have hbl := block_len t data
  have hpos := nCh_pos data
  by_cases h : (block t data).length - 1 = 0
  · rw [h]
    rfl
  · refine read_cnt ?_
    have hg : ((block t data).take ((block t data).length - 1)).getD 0 [] = sec t (be (nCh (content data).length : Int) 4) (piece (content data) 0 0) := getD_of (by
      rw [List.getElem?_take, if_pos (by omega)]
      exact block_get t data hpos)
    rw [hg, cnt_mid hd (sec_mid (be_len _ _)), List.length_take]
    omega
theorem block_cons (hd : data.length ≤ 1000) : block t data = sec t (be (nCh (content data).length : Int) 4) (piece (content data) 0 0) :: (block t data).drop 1 := by
  have hpos := nCh_pos data
  have h := block_get t data hpos
  cases hb : block t data with
  | nil => rw [hb] at h; cases h
  | cons x r =>
    rw [hb] at h
    rw [Option.some.inj h]
    rfl
theorem bad_size (hd : data.length ≤ 1000) {m : Int} (hm : 54 * (nCh (content data).length : Int) - 3 ≤ m) (hm2 : m < 100000) :
    readB ([((block t data).getD 0 []).take 10 ++ be m 4 ++ ((block t data).getD 0 []).drop (10 + (be m 4).length)] ++ (block t data).drop 1) t = .none := by
  have hbl := block_len t data
  have hpos := nCh_pos data
  rw [block_getD hd hpos]
  have hSl : (sec t (be (nCh (content data).length : Int) 4) (piece (content data) 0 0)).length = 64 := sec_len (be_len _ _) (piece_len hpos)
  have hSm := sec_mid (t := t) (p := piece (content data) 0 0) (be_len (nCh (content data).length : Int) 4)
  generalize sec t (be (nCh (content data).length : Int) 4) (piece (content data) 0 0) = S at *
  have hb4 := be_len m 4
  have hp1 : 10 + (be m 4).length ≤ S.length := by omega
  have hWl : (S.take 10 ++ be m 4 ++ S.drop (10 + (be m 4).length)).length = 64 := by rw [put_lenA hp1, hSl]
  have hWm : ((S.take 10 ++ be m 4 ++ S.drop (10 + (be m 4).length)).drop 6).take 4 = be (nCh (content data).length : Int) 4 := by
    rw [← hSm]
    refine mid_same fun i hi hi2 => ?_
    rw [put_getA hp1, if_pos (by omega)]
  have hWd : (S.take 10 ++ be m 4 ++ S.drop (10 + (be m 4).length)).drop 10 = be m 4 ++ S.drop (10 + (be m 4).length) := by
    have hl : (S.take 10).length = 10 := by rw [List.length_take]; omega
    rw [List.append_assoc, List.drop_append_of_le_length (by omega), List.drop_of_length_le (by omega), List.nil_append]
  generalize S.take 10 ++ be m 4 ++ S.drop (10 + (be m 4).length) = W at *
  have hLl : ([W] ++ (block t data).drop 1).length = nCh (content data).length := by
    rw [List.length_append, List.length_drop, hbl]
    show 1 + _ = _
    omega
  have hcnt : numOf (((([W] ++ (block t data).drop 1).getD 0 []).drop 6).take 4) = (nCh (content data).length : Int) := cnt_mid hd hWm
  have htk : ([W] ++ (block t data).drop 1).take (nCh (content data).length : Int).toNat = [W] ++ (block t data).drop 1 := by
    rw [Int.toNat_natCast]
    exact List.take_of_length_le (by rw [hLl]; exact Nat.le_refl _)
  refine read_size ?_
  rw [hcnt, htk, body_len64 (fun s hs => ?_), hLl]
  · have e : (body ([W] ++ (block t data).drop 1)).take 4 = be m 4 := by
      show (W.drop 10 ++ body ((block t data).drop 1)).take 4 = _
      rw [hWd, List.append_assoc, List.take_append_of_le_length (by omega), List.take_of_length_le (by omega)]
    rw [e, numOf_be 4 m (by omega) (by show m < 4294967296; omega)]
    omega
  · rcases List.mem_append.mp hs with hs | hs
    · rw [List.mem_singleton.mp hs, hWl]
    · exact block_mem (List.mem_of_mem_drop hs)
theorem bad_zero (hd : data.length ≤ 1000) : readB ([((block t data).getD 0 []).take 6 ++ [0, 0, 0, 0] ++ ((block t data).getD 0 []).drop (6 + 4)] ++ (block t data).drop 1) t = .none := by
  have hpos := nCh_pos data
  rw [block_getD hd hpos]
  have hSl : (sec t (be (nCh (content data).length : Int) 4) (piece (content data) 0 0)).length = 64 := sec_len (be_len _ _) (piece_len hpos)
  generalize sec t (be (nCh (content data).length : Int) 4) (piece (content data) 0 0) = S at *
  refine read_cnt ?_
  have e : (((([S.take 6 ++ [0, 0, 0, 0] ++ S.drop (6 + 4)] ++ (block t data).drop 1).getD 0 []).drop 6).take 4) = [0, 0, 0, 0] := by
    show ((S.take 6 ++ [0, 0, 0, 0] ++ S.drop (6 + 4)).drop 6).take 4 = _
    have hl : (S.take 6).length = 6 := by rw [List.length_take]; omega
    rw [List.append_assoc, List.drop_append_of_le_length (by omega), List.drop_of_length_le (by omega), List.nil_append]
    rfl
  rw [e]
  intro z
  have : numOf [0, 0, 0, 0] = 0 := by decide
  omega
theorem bad_next (hd : data.length ≤ 1000) (h0 : 0 ≤ t) (h1 : t < 256 ^ 6) (r : List (List Int)) : readB (block t data ++ r) (t + 1) = .none := by
  rw [block_cons hd, List.cons_append]
  refine read_first ?_
  unfold hasTurn
  rw [sec_take6, numOf_be 6 t h0 h1]
  exact decide_eq_false (by omega)
end
end K07


set_option Elab.async false
set_option linter.all false
set_option maxRecDepth 100000
set_option  maxHeartbeats 4000000
namespace K07
open PySem PyProof.Rows L2 Ab
local macro_rules | `(tactic| walk_at "len") => `(tactic| first | decide | omega | (simp only [List.length_append, List.length_map, List.length_replicate, List.length_cons, List.length_nil, List.length_take, List.length_drop, List.length_reverse, List.length_range]; omega))
local macro_rules | `(tactic| walk_at "1") => `(tactic| (first
  | (with_reducible refine ws_set ?_)
  | (with_reducible refine ws_ret ?_)
  | (with_reducible refine ws_if ?_)
  | (with_reducible refine ws_drop ?_)
  | (with_reducible refine w_op ?_)
  | (with_reducible refine w_int ?_)
  | (with_reducible refine w_bl ?_)
  | (with_reducible refine w_non ?_)
  | (with_reducible refine w_str ?_)
  | (with_reducible refine w_cb ?_)
  | (with_reducible refine w_call ?_)
  | (with_reducible refine w_sl ?_)
  | (with_reducible refine w_tupD ?_)
  | (with_reducible refine w_chain ?_)
  | (with_reducible refine w_andV ?_)
  | (with_reducible refine w_orV ?_)
  | (with_reducible refine w_notV ?_)
  | (with_reducible refine wo_none ?_)
  | (with_reducible refine wo_some ?_)
  | (with_reducible refine wa_cons ?_)
  | (with_reducible refine wa_nil ?_)
  | (with_reducible refine wt_test ?_)
  | (with_reducible refine wt_B ?_)
  | (with_reducible refine wt_and ?_)
  | (with_reducible refine wt_or ?_)
  | (with_reducible refine wt_not ?_)
  | (with_reducible refine wt_yes ?_)
  | (with_reducible refine w2_i0 ?_)
  | (with_reducible refine w2_b0 ?_)
  | (with_reducible refine w1_neg ?_)
  | ((with_reducible refine w2_i ?hc ?_); (case hc => first | decide | exact ⟨by decide, by decide⟩ | exact Or.inl ⟨by decide, by decide⟩ | exact Or.inr ⟨by decide, by decide⟩ | exact ⟨by decide, by decide, by decide⟩ | omega); skip)
  | ((with_reducible refine' w_var ?hv ?_); (case hv => exact rfl); skip)
  | ((with_reducible show W2 _ (rEqD _) _ _ _ _); (refine w2_eq ?ha ?hb ?_); (case ha => first | exact shaped_int _ | exact shaped_bool _); (case hb => first | exact shaped_int _ | exact shaped_bool _); skip)
  | ((with_reducible show W2 _ (rNeD _) _ _ _ _); (refine w2_ne ?ha ?hb ?_); (case ha => first | exact shaped_int _ | exact shaped_bool _); (case hb => first | exact shaped_int _ | exact shaped_bool _); skip)
  | ((with_reducible show W2 _ _ _ _ _ _); (refine w2_isN ?_))
  | ((with_reducible show W2 _ _ _ _ _ _); (refine w2_notN ?_))
  | (with_reducible refine wl_lenE ?_)
  | (with_reducible refine wl_lenD ?_)
  | (with_reducible refine wl_lenTD ?_)
  | (with_reducible refine wl_listE ?_)
  | (with_reducible refine wsl_E ?_)
  | ((with_reducible refine' w2_catE ?hl ?_); (try (case hl => walk_at "len")); skip)
  | ((with_reducible refine' w2_rep1 ?h1 ?h2 ?_); (try (case h1 => first | decide | omega)); (try (case h2 => first | decide | omega)); skip)
  | ((with_reducible show WL _ _ [_] _ _); (refine' wl_len ?hl ?_); (case hl => first | exact lsv_dat | exact lsv_ref um_same | exact lsv_ref (by assumption)); skip)
  | ((with_reducible show WL _ _ [_] _ _); (refine' wl_list ?hl ?_); (case hl => first | exact .inl lsv_dat | exact .inl (lsv_ref (by assumption))); skip)
  | ((with_reducible show WSl _ (rSlL _) _ _ _ _ _); (refine' wsl_lst ?hl ?_); (case hl => first | exact lsv_dat | exact lsv_ref um_same | exact lsv_ref (by assumption)); skip)
  | ((with_reducible show WL _ _ [_] _ _); (refine wl_int ?_))
  | ((with_reducible show W2 _ (rIxL _) _ _ _ _); (refine' w2_ixL ?hs ?hx ?_); (case hs => first | exact lsv_dat | exact lsv_ref um_same | exact lsv_ref (by assumption)); (try (case hx => exact rfl)); skip)
  | ((with_reducible show W2 _ (rIxT _) _ _ _ _); (refine' w2_ixT ?hx ?_); (try (case hx => exact rfl)); skip)
  | ((with_reducible show WL _ (rIsi _) [_, _] _ _); (refine' wl_isi ?hb ?_); (case hb => first | exact isi_bool _ | exact isi_int _ | exact isi_str _ | exact isi_tuple _ | exact isi_list _); skip)
  | ((with_reducible show W _ (tC (V.ty _)) _ _ _); (refine w_raw ?_))
  | ((with_reducible show WL _ _ [_] _ _); (refine' wl_lenT ?hl ?_); (case hl => exact tpv_dat); skip)
  | (with_reducible refine ws_next ?_)
  | (with_reducible refine ite_t rfl ?_)
  | (with_reducible refine ite_f rfl ?_)
  | ((with_reducible show ∃ b : Bool, _ = Sl.bl b ∧ _); (with_reducible refine ⟨_, rfl, ?_⟩))
  | ((with_reducible show ∃ i : Int, _ = Sl.int i ∧ _); (with_reducible refine ⟨_, rfl, ?_⟩))
  | ((with_reducible show List.length _ ≤ 100000 ∧ _); (refine ⟨(by simp), ?_⟩))
  | ((with_reducible show ∃ ds : List PyData, datsOf _ = some ds ∧ _); (refine ⟨_, rfl, ?_⟩))))
local macro_rules | `(tactic| walk_at "e") => `(tactic| repeat (first | (with_reducible refine ws_seq ?_) | (walk_at "1")))
local macro_rules | `(tactic| walk_at "g") => `(tactic| repeat (first | (walk_at "1") | ((with_reducible refine w_lstI (wa_cons ?_)); (repeat (walk_at "1")); (with_reducible show ∃ ns : List Int, itemsI _ = some ns ∧ _); (refine ⟨_, rfl, ?_⟩)) | (with_reducible refine w_lstD ?_)))
local macro_rules | `(tactic| walk_at "f") => `(tactic| repeat (first | (with_reducible refine ws_seq ?_) | (walk_at "1") | ((with_reducible refine w_lstI (wa_cons ?_)); (repeat (walk_at "1")); (with_reducible show ∃ ns : List Int, itemsI _ = some ns ∧ _); (refine ⟨_, rfl, ?_⟩)) | (with_reducible refine w_lstD ?_)))
local macro_rules | `(tactic| walk_at "k") => `(tactic| first | dsimp only [cxOf, Cx.nox, Cx.wish] | skip)

local macro_rules | `(tactic| walk_at "len") => `(tactic| (simp only [List.length_append, List.length_map, List.length_replicate, List.length_cons, List.length_nil, List.length_take, List.length_drop, List.length_reverse, List.length_range, lsb_len, be_len]; omega))
section
variable {P : Program} {w : World} {K : PySem.W.Frag} {mg : Str → Option Value} {base : Heap} {a : AD} {d : FD}
theorem okD_lls {ls : List (List Int)} (h : ls.length ≤ 100000) (h2 : ∀ s ∈ ls, s.length ≤ 100000) : okD 2 (.list (ls.map ll)) = true := okD_mkL (by simpa using h) (okAll_of fun x hx => by
  obtain ⟨s, hs, rfl⟩ := List.mem_map.mp hx
  exact okD_lsi 0 (h2 s hs))
abbrev lll (ls : List (List Int)) : PyData := .list (ls.map ll)
def MidB (M : MH) (p : Addr) (t : Int) (data : List Int) (others : List (List Int)) (ρ' : Rho) (M' : MH) : Prop := ∃ (p2 : Addr) (ys : List Sl) (L : List (List Int)) (x : Int) (y7 : Option Sl), M p2 = none ∧ p2 ≠ p ∧
  ρ' = [some (.ref p), some (.int t), some (lsm .int data), some (lsm ll (block t data)), some (lsm .int data), some (lsm ll others), some (.ref p2), y7, some (.int (54 * ((block t data).length : Int) - 4 - (data.length : Int))), none, none, none, none, none, none, none] ∧
  M' = um (um M p (.lst ys)) p2 (.lst ((L.map ll).map .dat)) ∧ DrawL ys ∧ Good t (nCh (content data).length) (piece (content data) x) L
theorem ok_block_law (T : Txt K mg a d) : FnOk P w K mg base CX0 4 a.law_asks_block d.law_asks_block ["_law_state"] (conc K A_asks) := by
  have G_law_turn : FnOk P w K mg base CX0 2 a.law_turn d.law_turn ["_law_state"] (conc K A_turn) := ok_turn T
  have G_law_bytes : FnOk P w K mg base CX0 2 a.law_bytes d.law_bytes ["_law_state"] (conc K A_bytes) := ok_bytes T
  have G_law_next : FnOk P w K mg base CX0 1 a.law_next d.law_next ["_law_state", "_law_limit"] (conc K A_next) := ok_next T
  have G_law_fixed : FnOk P w K mg base CX0 1 a.law_fixed d.law_fixed ["_law_number", "_law_count"] (conc K A_lfixed) := ok_lfixed T
  have G_law_put : FnOk P w K mg base CX0 1 a.law_put d.law_put ["_law_sector", "_law_place", "_law_data"] (conc K A_put) := ok_put T
  have G_law_block : FnOk P w K mg base CX0 2 a.law_block d.law_block ["_law_turn_here", "_law_data"] (conc K A_law_block) := ok_law_block T
  have G_write_block : FnOk P w K mg base CX0 2 a.write_block d.write_block ["turn", "data"] (conc K A_write_block) := ok_write_block T
  have G_read_block : FnOk P w K mg base CX0 3 a.read_block d.read_block ["sectors", "turn"] (conc K A_read_block) := ok_read_block T
  have G_law_same : FnOk P w K mg base CX0 3 a.law_same d.law_same ["_law_actual", "_law_expected"] (conc K (A_sameN 3)) := ok_sameN T 3
  refine ab_ok T.F_law_asks_block sc_law_asks_block (fun ss M Q ⟨p, xs, e, _⟩ => by subst e; rfl) fun cdv Ar outer s H E hr => ?_
  have hu64 := hr.units
  refine ⟨_, (pss_cons (ps_set (i := 1) sc_law_asks_block.nd rfl (Or.inr rfl) (pe_call G_law_turn (hr.mono (by omega)) (by rfl) T.g_law_turn T.F_law_turn.kp T.b_law_turn .nil pass0 (pa_cons (pv 0) pa_nil)))
  (pss_cons (ps_set (i := 2) sc_law_asks_block.nd rfl (Or.inl rfl) (pe_call G_law_bytes (hr.mono (by omega)) (by rfl) T.g_law_bytes T.F_law_bytes.kp T.b_law_bytes .nil pass0 (pa_cons (pv 0) pa_nil)))
  (pss_cons (ps_set (i := 3) sc_law_asks_block.nd rfl (Or.inl rfl) (pe_call G_law_block (hr.mono (by omega)) (by rfl) T.g_law_block T.F_law_block.kp T.b_law_block .nil pass0 (pa_cons (pv 1) (pa_cons (pv 2) pa_nil))))
  (pss_cons (ps_set (i := 4) sc_law_asks_block.nd rfl (Or.inl rfl) (pe_callTy (r := rListS K) call_list_of (by rfl) T.n_list (by decide +kernel) (pa_cons (pv 2) pa_nil)))
  (pss_cons (ps_if (PW.pt (pw_or (pt_not (pt_val (pe_call G_law_same (hr.mono (by omega)) (by rfl) T.g_law_same T.F_law_same.kp T.b_law_same .nil pass0 (pa_cons (pe_call G_write_block (hr.mono (by omega)) (by rfl) T.g_write_block T.F_write_block.kp T.b_write_block .nil pass0 (pa_cons (pv 1) (pa_cons (pv 4) pa_nil))) (pa_cons (pv 3) pa_nil))))) (pw_or1 (pt_cmpR (r := rNeD K) (op_neD hu64) (pv 4) (pv 2) (nomark _))))) (pss_one (ps_ret pe_bl)) pss_nil)
  (pss_cons (ps_set (i := 5) sc_law_asks_block.nd rfl (Or.inl rfl) (pe_call G_law_block (hr.mono (by omega)) (by rfl) T.g_law_block T.F_law_block.kp T.b_law_block .nil pass0 (pa_cons (pe_ix (r := rIxL K) ix_list (pe_lst (pa_cons (pv 1) (pa_cons (pe_op op_add (pv 1) pe_int) pa_nil))) (pe_call G_law_next (hr.mono (by omega)) (by rfl) T.g_law_next T.F_law_next.kp T.b_law_next .nil pass0 (pa_cons (pv 0) (pa_cons pe_int pa_nil))) (fun _ _ => rfl)) (pa_cons (pe_call G_law_bytes (hr.mono (by omega)) (by rfl) T.g_law_bytes T.F_law_bytes.kp T.b_law_bytes .nil pass0 (pa_cons (pv 0) pa_nil)) pa_nil))))
  (pss_cons (ps_set (i := 6) sc_law_asks_block.nd rfl (Or.inl rfl) (pe_op (r := rCatL K) op_catL (pe_slice (r := rSlL K) sl_list (pv 3) po_none (po_some pe_int)) (pe_lc (own := [("_law_sector", 7)]) rfl sc_law_asks_block.nd (pi_list (pe_slice (r := rSlL K) sl_list (pv 3) (po_some pe_int) po_none)) (blkOk_by (own := [("_law_sector", 7)]) (N := ["_law_state", "_law_turn_here", "_law_data", "_law_block_here", "_law_passed", "_law_others", "_law_sectors", "_law_sector", "_law_behind", "_law_each", "_law_told", "_law_place", "_law_at", "_law_wrong", "_law_spoilt", "_law_more"]) (sc := (defScope s_law_asks_block)) (by decide +kernel)) (fun _ _ _ _ _ => (pg_name (i := 7) sc_law_asks_block.nd rfl (Or.inl rfl))) (fun _ _ _ _ _ => pts_nil) (fun _ _ _ _ _ => (pe_call G_law_put (hr.mono (by omega)) (by rfl) T.g_law_put T.F_law_put.kp T.b_law_put .nil pass0 (pa_cons (pv 7) (pa_cons pe_int (pa_cons (pe_call G_law_fixed (hr.mono (by omega)) (by rfl) T.g_law_fixed T.F_law_fixed.kp T.b_law_fixed .nil pass0 (pa_cons (pe_call G_law_next (hr.mono (by omega)) (by rfl) T.g_law_next T.F_law_next.kp T.b_law_next .nil pass0 (pa_cons (pv 0) (pa_cons (pe_op op_pow pe_int pe_int) pa_nil))) (pa_cons pe_int pa_nil))) pa_nil))))))))
  (pss_cons (ps_set (i := 8) sc_law_asks_block.nd rfl (Or.inl rfl) (pe_op op_sub (pe_op op_sub (pe_op op_mul pe_int (pe_callB (r := rLenS K) call_len_seq (by rfl) T.n_len PySem.boot_len (pa_cons (pv 3) pa_nil))) pe_int) (pe_callB (r := rLenS K) call_len_seq (by rfl) T.n_len PySem.boot_len (pa_cons (pv 2) pa_nil))))
  (pss_cons (ps_if (pt_cmpR op_gt (pv 8) pe_int (nomark _)) (pss_one (ps_asg (pe_op (r := rCatL K) op_catL (pe_slice (r := rSlL K) sl_list (pe_ix (r := rIxL K) ix_list (pv 6) (pe_op op_sub (pe_callB (r := rLenS K) call_len_seq (by rfl) T.n_len PySem.boot_len (pa_cons (pv 6) pa_nil)) pe_int) (fun _ _ => rfl)) po_none (po_some (pe_op op_sub pe_int (pv 8)))) (pe_op op_repL (pe_lst (pa_cons (pe_call G_law_next (hr.mono (by omega)) (by rfl) T.g_law_next T.F_law_next.kp T.b_law_next .nil pass0 (pa_cons (pv 0) (pa_cons pe_int pa_nil))) pa_nil)) (pv 8))) (pg_sub (pv 6) (pe_op op_sub (pe_callB (r := rLenS K) call_len_seq (by rfl) T.n_len PySem.boot_len (pa_cons (pv 6) pa_nil)) pe_int) set_list))) pss_nil)
  (pss_cons (ps_for PassesOwn.never rfl (pi_list (pe_lst (pa_cons (pv 3) (pa_cons (pv 6) pa_nil)))) (pg_name (i := 9) sc_law_asks_block.nd rfl (Or.inl rfl)) (pss_cons (ps_set (i := 10) sc_law_asks_block.nd rfl (Or.inl rfl) (pe_call G_read_block (hr.mono (by omega)) (by rfl) T.g_read_block T.F_read_block.kp T.b_read_block .nil pass0 (pa_cons (pe_op (r := rCatL K) op_catL (pe_op (r := rCatL K) op_catL (pv 9) (pe_op op_repL (pv 5) (pe_call G_law_next (hr.mono (by omega)) (by rfl) T.g_law_next T.F_law_next.kp T.b_law_next .nil pass0 (pa_cons (pv 0) (pa_cons pe_int pa_nil))))) (pe_op op_repL (pe_lst (pa_cons (pe_op op_repL (pe_lst (pa_cons pe_int pa_nil)) pe_int) pa_nil)) (pe_call G_law_next (hr.mono (by omega)) (by rfl) T.g_law_next T.F_law_next.kp T.b_law_next .nil pass0 (pa_cons (pv 0) (pa_cons pe_int pa_nil))))) (pa_cons (pv 1) pa_nil))))
  (pss_one (ps_if (pt_not (pt_val (pe_call G_law_same (hr.mono (by omega)) (by rfl) T.g_law_same T.F_law_same.kp T.b_law_same .nil pass0 (pa_cons (pv 10) (pa_cons (pe_tup (pa_cons (pv 2) (pa_cons (pe_callB (r := rLenS K) call_len_seq (by rfl) T.n_len PySem.boot_len (pa_cons (pv 3) pa_nil)) pa_nil))) pa_nil))))) (pss_one (ps_ret pe_bl)) pss_nil))))
  (pss_cons (ps_if (PW.pt (pw_or (pt_cmpR op_notN (pe_call G_read_block (hr.mono (by omega)) (by rfl) T.g_read_block T.F_read_block.kp T.b_read_block .nil pass0 (pa_cons (pe_op (r := rCatL K) op_catL (pv 3) (pv 5)) (pa_cons (pe_op op_add (pv 1) pe_int) pa_nil))) pe_non (nomark _)) (pw_or1 (pt_cmpR op_notN (pe_call G_read_block (hr.mono (by omega)) (by rfl) T.g_read_block T.F_read_block.kp T.b_read_block .nil pass0 (pa_cons (pe_lst pa_nil) (pa_cons (pv 1) pa_nil))) pe_non (nomark _))))) (pss_one (ps_ret pe_bl)) pss_nil)
  (pss_cons (ps_set (i := 11) sc_law_asks_block.nd rfl (Or.inl rfl) (pe_call G_law_next (hr.mono (by omega)) (by rfl) T.g_law_next T.F_law_next.kp T.b_law_next .nil pass0 (pa_cons (pv 0) (pa_cons (pe_callB (r := rLenS K) call_len_seq (by rfl) T.n_len PySem.boot_len (pa_cons (pv 3) pa_nil)) pa_nil))))
  (pss_cons (ps_set (i := 12) sc_law_asks_block.nd rfl (Or.inl rfl) (pe_call G_law_next (hr.mono (by omega)) (by rfl) T.g_law_next T.F_law_next.kp T.b_law_next .nil pass0 (pa_cons (pv 0) (pa_cons pe_int pa_nil))))
  (pss_cons (ps_set (i := 13) sc_law_asks_block.nd rfl (Or.inl rfl) (pe_call G_law_put (hr.mono (by omega)) (by rfl) T.g_law_put T.F_law_put.kp T.b_law_put .nil pass0 (pa_cons (pe_ix (r := rIxL K) ix_list (pv 3) (pv 11) (fun _ _ => rfl)) (pa_cons (pv 12) (pa_cons (pe_lst (pa_cons (pe_op op_mod (pe_op op_add (pe_op op_add (pe_ix (r := rIxL K) ix_list (pe_ix (r := rIxL K) ix_list (pv 3) (pv 11) (fun _ _ => rfl)) (pv 12) (fun _ _ => rfl)) pe_int) (pe_call G_law_next (hr.mono (by omega)) (by rfl) T.g_law_next T.F_law_next.kp T.b_law_next .nil pass0 (pa_cons (pv 0) (pa_cons pe_int pa_nil)))) pe_int) pa_nil)) pa_nil)))))
  (pss_cons (ps_set (i := 14) sc_law_asks_block.nd rfl (Or.inl rfl) (pe_lst (pa_cons (pe_op (r := rCatL K) op_catL (pe_op (r := rCatL K) op_catL (pe_slice (r := rSlL K) sl_list (pv 3) po_none (po_some (pv 11))) (pe_lst (pa_cons (pv 13) pa_nil))) (pe_slice (r := rSlL K) sl_list (pv 3) (po_some (pe_op op_add (pv 11) pe_int)) po_none)) (pa_cons (pe_slice (r := rSlL K) sl_list (pv 3) po_none (po_some (pe_op op_sub (pe_callB (r := rLenS K) call_len_seq (by rfl) T.n_len PySem.boot_len (pa_cons (pv 3) pa_nil)) pe_int))) pa_nil))))
  (pss_cons (ps_set (i := 15) sc_law_asks_block.nd rfl (Or.inl rfl) (pe_call G_law_fixed (hr.mono (by omega)) (by rfl) T.g_law_fixed T.F_law_fixed.kp T.b_law_fixed .nil pass0 (pa_cons (pe_op op_add (pe_op op_sub (pe_op op_mul pe_int (pe_callB (r := rLenS K) call_len_seq (by rfl) T.n_len PySem.boot_len (pa_cons (pv 3) pa_nil))) pe_int) (pe_call G_law_next (hr.mono (by omega)) (by rfl) T.g_law_next T.F_law_next.kp T.b_law_next .nil pass0 (pa_cons (pv 0) (pa_cons pe_int pa_nil)))) (pa_cons pe_int pa_nil))))
  (pss_cons (ps_set (i := 14) sc_law_asks_block.nd rfl (Or.inl rfl) (pe_op (r := rCatL K) op_catL (pv 14) (pe_lst (pa_cons (pe_op (r := rCatL K) op_catL (pe_lst (pa_cons (pe_call G_law_put (hr.mono (by omega)) (by rfl) T.g_law_put T.F_law_put.kp T.b_law_put .nil pass0 (pa_cons (pe_ix (r := rIxL K) ix_list (pv 3) pe_int (fun _ _ => rfl)) (pa_cons pe_int (pa_cons (pv 15) pa_nil)))) pa_nil)) (pe_slice (r := rSlL K) sl_list (pv 3) (po_some pe_int) po_none)) (pa_cons (pe_op (r := rCatL K) op_catL (pe_lst (pa_cons (pe_call G_law_put (hr.mono (by omega)) (by rfl) T.g_law_put T.F_law_put.kp T.b_law_put .nil pass0 (pa_cons (pe_ix (r := rIxL K) ix_list (pv 3) pe_int (fun _ _ => rfl)) (pa_cons pe_int (pa_cons (pe_lst (pa_cons pe_int (pa_cons pe_int (pa_cons pe_int (pa_cons pe_int pa_nil))))) pa_nil)))) pa_nil)) (pe_slice (r := rSlL K) sl_list (pv 3) (po_some pe_int) po_none)) pa_nil)))))
  (pss_one (ps_ret (pe_cmpR (r := rEqD K) (op_eqD hu64) (pe_lc (own := [("_law_each", 9)]) rfl sc_law_asks_block.nd (pi_list (pv 14)) (blkOk_by (own := [("_law_each", 9)]) (N := ["_law_state", "_law_turn_here", "_law_data", "_law_block_here", "_law_passed", "_law_others", "_law_sectors", "_law_sector", "_law_behind", "_law_each", "_law_told", "_law_place", "_law_at", "_law_wrong", "_law_spoilt", "_law_more"]) (sc := (defScope s_law_asks_block)) (by decide +kernel)) (fun _ _ _ _ _ => (pg_name (i := 9) sc_law_asks_block.nd rfl (Or.inl rfl))) (fun _ _ _ _ _ => pts_nil) (fun _ _ _ _ _ => (pe_call G_read_block (hr.mono (by omega)) (by rfl) T.g_read_block T.F_read_block.kp T.b_read_block .nil pass0 (pa_cons (pv 9) (pa_cons (pv 1) pa_nil))))) (pe_lst (pa_cons pe_non (pa_cons pe_non (pa_cons pe_non (pa_cons pe_non pa_nil))))) (nomark _))))))))))))))))))))), ?_⟩
  rintro ss M Q ⟨p, xs, rfl, hp, hD, q⟩
  walk_at "k"
  show WS K _ [some (.ref p), none, none, none, none, none, none, none, none, none, none, none, none, none, none, none] M _
  walk_at "f"
  refine ⟨p, xs, rfl, hp, hD, fun t xs1 ht0 ht1 hD1 => ?_⟩
  walk_at "f"
  refine ⟨p, xs1, rfl, um_same, hD1, fun data xs2 hdl hdb hD2 => ?_⟩
  rw [um_um]
  walk_at "f"
  refine ⟨t, data, rfl, by omega, ?_⟩
  have hn20 := nCh_small (data := data) (by omega)
  have hnp := nCh_pos data
  have hbl := block_len t data
  walk_at "f"
  refine ⟨t, data, rfl, by omega, ?_⟩
  walk_at "f"
  refine ⟨_, rfl, okD_lls (by omega) (fun s hs => by rw [block_mem hs]; decide), ?_⟩
  walk_at "f"
  refine w2_ne (okD_shaped (okD_lsi 0 (by omega)) (by decide)) (okD_shaped (okD_lsi 0 (by omega)) (by decide)) ?_
  rw [eqv_lsi, decide_eq_true rfl]
  walk_at "f"
  refine ⟨p, 2, xs2, rfl, um_same, hD2, by decide, by decide, fun i xs3 hi0 hi1 hD3 => ?_⟩
  rw [um_um]
  refine w2_ixL (lsv_dat (ds := [t, t + 1].map PyData.int)) (atI_two 0 hi0 (by show i.toNat < 2; omega)) ?_
  generalize [t, t + 1].getD i.toNat 0 = t2
  walk_at "f"
  refine ⟨p, xs3, rfl, um_same, hD3, fun odata xs4 hol hob hD4 => ?_⟩
  rw [um_um]
  walk_at "f"
  refine ⟨t2, odata, rfl, by omega, ?_⟩
  have ho20 := nCh_small (data := odata) (by omega)
  have hobl := block_len t2 odata
  have homem : ∀ s ∈ block t2 odata, s.length = 64 := fun s hs => block_mem hs
  generalize block t2 odata = others at *
  refine ws_seq (ws_set (w_op ?_))
  walk_at "f"
  rw [cutG_hi _ (by decide)]
  refine w_lcJ (xs := (block t data).drop 1) (enc := ll) (M1 := um M p (.lst xs4)) List.mem_cons_self ?_
    (fun pre acc M' => ∃ (ys : List Sl) (ps : List (List Int)), M' = um M p (.lst ys) ∧ DrawL ys ∧ acc = ps.map ll ∧ ps.length = pre.length ∧ ∀ k, k < ps.length → ∃ mid : List Int, mid.length = 4 ∧ ps[k]? = some (sec t mid (piece (content data) 0 (k + 1))))
    ⟨xs4, [], rfl, hD4, rfl, rfl, fun k hk => absurd hk (Nat.not_lt_zero k)⟩ ?_ ?_
  · walk_at "e"
    rw [cutG_lo _ (by decide)]
    exact ⟨rfl, rfl⟩
  · rintro pre x post acc M' D he ⟨ys, ps, rfl, hDy, rfl, hpl, hps⟩ hDn
    have hDp : D ≠ p := fun e => by rw [e, um_same] at hDn; cases hDn
    have hpre : pre.length + 1 < nCh (content data).length := by
      have := congrArg List.length he
      rw [List.length_drop, List.length_append, List.length_cons, hbl] at this
      omega
    have hx : x = sec t (be (nCh (content data).length : Int) 4) (piece (content data) 0 (pre.length + 1)) := by
      have h1 : ((block t data).drop 1)[pre.length]? = some x := by rw [he, List.getElem?_append_right (Nat.le_refl _), Nat.sub_self]; rfl
      rw [List.getElem?_drop, Nat.add_comm, block_get t data hpre] at h1
      exact (Option.some.inj h1).symm
    have hxl : x.length = 64 := by rw [hx, sec_len (be_len _ _) (piece_len hpre)]
    walk_at "f"
    refine ⟨p, 2 ^ 32, ys, rfl, (by rw [um_ne (Ne.symm hDp), um_same]), hDy, by decide, by decide, fun v ys2 hv0 hv1 hDy2 => ?_⟩
    rw [um_swap hDp]
    walk_at "f"
    refine ⟨v, 4, rfl, by decide, ?_⟩
    walk_at "f"
    have hb4 := be_len v 4
    refine ⟨x, 6, be v 4, rfl, by omega, by omega, ?_⟩
    refine ⟨_, _, rfl, rfl, by rw [um_ne hDp]; rw [um_ne hDp] at hDn; exact hDn, by rw [List.length_map]; omega, ys2, ps ++ [sec t (be v 4) (piece (content data) 0 (pre.length + 1))], rfl, hDy2, ?_, by rw [List.length_append, List.length_append, hpl]; rfl, fun k hk => ?_⟩
    · rw [hb4, hx, sec_take6, sec_drop (be_len _ _)]
      exact (List.map_append (f := ll) (l₁ := ps) (l₂ := [sec t (be v 4) (piece (content data) 0 (pre.length + 1))])).symm
    · by_cases hkp : k < ps.length
      · obtain ⟨mid, m1, m2⟩ := hps k hkp
        exact ⟨mid, m1, by rw [List.getElem?_append_left hkp]; exact m2⟩
      · have ek : k = ps.length := by
          rw [List.length_append] at hk
          have : [sec t (be v 4) (piece (content data) 0 (pre.length + 1))].length = 1 := rfl
          omega
        refine ⟨be v 4, hb4, ?_⟩
        rw [List.getElem?_append_right (by omega), ek, Nat.sub_self, hpl]
        rfl
  rintro acc M' ⟨ys, ps, rfl, hDy, rfl, hpl, hps⟩
  have hgood : Good t (nCh (content data).length) (piece (content data) 0) ((block t data).take 1 ++ ps) := good_first (by omega) (by rw [hpl, List.length_drop, hbl]; omega) hps
  have hpsl : ps.length < 20 := by rw [hpl, List.length_drop, hbl]; omega
  refine w2_catM lsv_dat lsv_dat (by simp; omega) fun p2 hp2 => ?_
  rw [← List.map_append, ← List.map_append]
  have hp2p : p2 ≠ p := fun e => by rw [e, um_same] at hp2; cases hp2
  have hMp2 : M p2 = none := by rw [um_ne hp2p] at hp2; exact hp2
  rw [show (1 : Int).toNat = 1 from rfl]
  generalize (block t data).take 1 ++ ps = L at *
  refine ws_seq ?_
  walk_at "g"
  show WS K _ [some (.ref p), some (.int t), some (lsm .int data), some (lsm ll (block t data)), some (lsm .int data), some (lsm ll others), some (.ref p2), none, some (.int (54 * ((block t data).length : Int) - 4 - (data.length : Int))), none, none, none, none, none, none, none] _ _
  refine ws_mid (MidB M p t data others) ?_ ?_
  · walk_at "g"
    refine ite_b (fun hb => ?_) (fun _ => ws_next ⟨p2, ys, L, 0, none, hMp2, hp2p, rfl, rfl, hDy, hgood⟩)
    have hb' := of_decide_eq_true hb
    have hLl := hgood.len
    refine ws_setL ?_
    walk_at "g"
    case hx => rw [List.length_map, List.length_map]; exact atI_two (f := ll) [] (by omega) (by omega)
    have hi1 : ((L.length : Int) - 1).toNat = nCh (content data).length - 1 := by omega
    have hcl := content_len data
    have hbh : (54 * ((block t data).length : Int) - 4 - (data.length : Int)).toNat = 54 * nCh (content data).length - (content data).length := by omega
    have hbh2 : (64 - (54 * ((block t data).length : Int) - 4 - (data.length : Int))).toNat = 64 - (54 * nCh (content data).length - (content data).length) := by unfold nCh at *; omega
    have hbh3 : 0 ≤ 64 - (54 * ((block t data).length : Int) - 4 - (data.length : Int)) ∧ (54 * ((block t data).length : Int) - 4 - (data.length : Int)) ≤ 60 := by unfold nCh at *; omega
    rw [hi1]
    have hlast : (L.getD (nCh (content data).length - 1) []).length = 64 := by
      have hlt : nCh (content data).length - 1 < L.length := by omega
      rw [List.getD_eq_getElem?_getD, List.getElem?_eq_getElem hlt]
      exact good_mem hgood (List.getElem_mem hlt)
    walk_at "g"
    refine ⟨p, 256, ys, rfl, (by rw [um_ne (Ne.symm hp2p), um_same]), hDy, by decide, by decide, fun v ys2 hv0 hv1 hDy2 => ?_⟩
    rw [um_swap hp2p]
    walk_at "g"
    refine w2_rep1 (f := PyData.int) (x := v) (by omega) (by omega) ?_
    rw [cutG_hi _ hbh3.1, hbh, hbh2]
    walk_at "g"
    refine ⟨p2, _, _, nCh (content data).length - 1, rfl, rfl, um_same, ?_, ?_⟩
    · rw [List.length_map, List.length_map]
      unfold ixN
      rw [if_pos (by omega), if_pos (by omega), hi1]
    · rw [um_um]
      refine ⟨p2, ys2, L.set (nCh (content data).length - 1) ((L.getD (nCh (content data).length - 1) []).take (64 - (54 * nCh (content data).length - (content data).length)) ++ List.replicate (54 * nCh (content data).length - (content data).length) v), v, none, hMp2, hp2p, rfl, ?_, hDy2, good_last hgood v⟩
      rw [List.map_set, List.map_set]
  · rintro ρ' M' ⟨p2, ys, L, x, y7, hMp2, hp2p, rfl, rfl, hDy, hgood⟩
    refine ws_freeze (i := 6) (a := p2) (ds := L.map ll) rfl um_same ?_
    rw [del_um (by rw [um_ne hp2p]; exact hMp2)]
    have hLl := hgood.len
    have hLm : ∀ s ∈ L, s.length = 64 := fun s hs => good_mem hgood hs
    have hBm : ∀ s ∈ block t data, s.length = 64 := fun s hs => block_mem hs
    have ht2 : t < 256 ^ 6 := by show t < 281474976710656; omega
    show WS K _ [some (.ref p), some (.int t), some (lsm .int data), some (lsm ll (block t data)), some (lsm .int data), some (lsm ll others), some (lsm ll L), y7, some (.int (54 * ((block t data).length : Int) - 4 - (data.length : Int))), none, none, none, none, none, none, none] _ _
    generalize 54 * ((block t data).length : Int) - 4 - (data.length : Int) = bh
    have hgb := block_good t (data := data) (by omega)
    refine ws_seq ?_
    refine ws_forD (enc := lll) (xs := [block t data, L]) (M1 := um M p (.lst ys)) (by walk_at "g"; exact ⟨rfl, rfl⟩)
      (fun pre ρ' M' => ∃ (ys : List Sl) (y9 y10 : Option Sl), ρ' = [some (.ref p), some (.int t), some (lsm .int data), some (lsm ll (block t data)), some (lsm .int data), some (lsm ll others), some (lsm ll L), y7, some (.int bh), y9, y10, none, none, none, none, none] ∧ M' = um M p (.lst ys) ∧ DrawL ys) ⟨ys, none, none, rfl, rfl, hDy⟩ ?_ ?_
    · rintro pre x post ρ' M' he ⟨ys, y9, y10, rfl, rfl, hDy⟩
      have hx : ∃ x0, Good t (nCh (content data).length) (piece (content data) x0) x := by
        have hm : x ∈ [block t data, L] := by rw [he]; simp
        rcases List.mem_cons.mp hm with rfl | hm
        · exact ⟨0, hgb⟩
        rcases List.mem_cons.mp hm with rfl | hm
        · exact ⟨_, hgood⟩
        · cases hm
      obtain ⟨x0, hgx⟩ := hx
      have hxm : ∀ s ∈ x, s.length = 64 := fun s hs => good_mem hgx hs
      have hxl := hgx.len
      refine wg_name ?_
      walk_at "f"
      refine ⟨p, 2, ys, rfl, um_same, hDy, by decide, by decide, fun v1 ys1 h1a h1b hDy1 => ?_⟩
      rw [um_um]
      refine w2_repE (f := ll) (xs := others) (by omega) (by omega) (by have : v1.toNat ≤ 1 := by omega
                                                                        exact Nat.le_trans (Nat.mul_le_mul_left _ this) (by omega)) ?_
      have hrl : ((List.replicate v1.toNat others).flatten).length ≤ 40 := by
        have : v1.toNat = 0 ∨ v1.toNat = 1 := by omega
        rcases this with e | e <;> rw [e] <;> simp <;> omega
      have hrm : ∀ s ∈ (List.replicate v1.toNat others).flatten, s.length = 64 := fun s hs => by
        obtain ⟨l, hl1, hl2⟩ := List.mem_flatten.mp hs
        rw [List.eq_of_mem_replicate hl1] at hl2
        exact homem s hl2
      generalize (List.replicate v1.toNat others).flatten = R1 at *
      walk_at "f"
      refine ⟨p, 3, ys1, rfl, um_same, hDy1, by decide, by decide, fun v2 ys2 h2a h2b hDy2 => ?_⟩
      rw [um_um]
      refine w2_repE (f := ll) (xs := [List.replicate (64 : Int).toNat 0]) (by omega) (by omega) (by show 1 * v2.toNat ≤ 100000; omega) ?_
      have hzl : ((List.replicate v2.toNat [List.replicate (64 : Int).toNat (0 : Int)]).flatten).length ≤ 40 := by
        rw [rep_one, List.length_replicate]
        omega
      have hzm : ∀ s ∈ (List.replicate v2.toNat [List.replicate (64 : Int).toNat (0 : Int)]).flatten, s.length = 64 := fun s hs => by
        rw [rep_one] at hs
        rw [List.eq_of_mem_replicate hs, List.length_replicate]
        rfl
      generalize (List.replicate v2.toNat [List.replicate (64 : Int).toNat (0 : Int)]).flatten = R2 at *
      walk_at "f"
      refine ⟨x ++ R1 ++ R2, t, rfl, by simp; omega, fun s hs => ?_, ?_⟩
      · rcases List.mem_append.mp hs with hs | hs
        · rcases List.mem_append.mp hs with hs | hs
          · rw [hxm s hs]; decide
          · rw [hrm s hs]; decide
        · rw [hzm s hs]; decide
      rw [List.append_assoc, read_ok hgx (by omega) ht2 (by omega) (flat_content data x0)]
      walk_at "f"
      rw [hbl]
      refine ⟨_, rfl, okD_mkT (by simp) (by show (okD 1 (ll data) && (true && true)) = true; rw [okD_lsi 0 (by omega)]; rfl), ?_⟩
      walk_at "f"
      exact ⟨ys2, _, _, rfl, rfl, hDy2⟩
    · rintro ρ' M' ⟨ys, y9, y10, rfl, rfl, hDy⟩
      have hd1000 : data.length ≤ 1000 := by omega
      have hnb : ∀ k, k < nCh (content data).length → ((block t data).getD k []).length = 64 := fun k hk => by
        rw [block_getD hd1000 hk, sec_len (be_len _ _) (piece_len hk)]
      walk_at "f"
      refine ⟨block t data ++ others, t + 1, rfl, by simp; omega, fun s hs => ?_, ?_⟩
      · rcases List.mem_append.mp hs with hs | hs
        · rw [hBm s hs]; decide
        · rw [homem s hs]; decide
      rw [bad_next hd1000 (by omega) ht2]
      walk_at "f"
      refine ⟨[], t, rfl, by decide, (fun s hs => by cases hs), ?_⟩
      rw [show readB [] t = .none from rfl]
      walk_at "f"
      refine ⟨p, _, ys, rfl, um_same, hDy, by omega, by omega, fun pl ys1 hpl0 hpl1 hDy1 => ?_⟩
      rw [um_um]
      obtain ⟨pl, rfl⟩ := Int.eq_ofNat_of_zero_le hpl0
      have hpl : pl < nCh (content data).length := by omega
      walk_at "f"
      refine ⟨p, 6, ys1, rfl, um_same, hDy1, by decide, by decide, fun k ys2 hk0 hk1 hDy2 => ?_⟩
      rw [um_um]
      obtain ⟨k, rfl⟩ := Int.eq_ofNat_of_zero_le hk0
      have hk : k < 6 := by omega
      have hplen : (pl : Int).toNat < (block t data).length := by rw [Int.toNat_natCast]; omega
      walk_at "f"
      case hx => exact atI_two (f := ll) [] (by omega) hplen
      walk_at "f"
      case hx => exact atI_two (f := ll) [] (by omega) hplen
      walk_at "f"
      case hx => rw [Int.toNat_natCast]; exact atI_two 0 (by omega) (by rw [hnb pl hpl]; omega)
      simp only [Int.toNat_natCast]
      walk_at "f"
      refine ⟨p, 255, ys2, rfl, um_same, hDy2, by decide, by decide, fun v3 ys3 h3a h3b hDy3 => ?_⟩
      rw [um_um]
      walk_at "f"
      have hSby : 0 ≤ ((block t data).getD pl []).getD k 0 ∧ ((block t data).getD pl []).getD k 0 < 256 := by
        have e : ((block t data).getD pl [])[k]? = (be t 6)[k]? := by
          rw [block_getD hd1000 hpl, ← sec_take6 t (be (nCh (content data).length : Int) 4) (piece (content data) 0 pl), List.getElem?_take, if_pos hk]
        have hkl : k < (be t 6).length := by rw [be_len]; exact hk
        rw [List.getD_eq_getElem?_getD, e, List.getElem?_eq_getElem hkl, Option.getD_some]
        exact be_by t 6 _ (List.getElem_mem hkl)
      have hyne : (((block t data).getD pl []).getD k 0 + 1 + v3) % 256 ≠ ((block t data).getD pl []).getD k 0 := by omega
      generalize hy : (((block t data).getD pl []).getD k 0 + 1 + v3) % 256 = y at *
      refine ⟨(block t data).getD pl [], k, [y], rfl, by rw [hnb pl hpl]; decide, by simp, ?_⟩
      have hb1 := bad_turn (t := t) hd1000 (by omega) ht2 hpl hk hyne
      have hWl : (((block t data).getD pl []).take k ++ [y] ++ ((block t data).getD pl []).drop (k + [y].length)).length = 64 := by
        rw [put_lenA (by rw [hnb pl hpl]; show k + 1 ≤ 64; omega), hnb pl hpl]
      have hb1' : readB ((block t data).take pl ++ [((block t data).getD pl []).take k ++ [y] ++ ((block t data).getD pl []).drop (k + [y].length)] ++ (block t data).drop (pl + 1)) t = .none := hb1
      generalize ((block t data).getD pl []).take k ++ [y] ++ ((block t data).getD pl []).drop (k + [y].length) = W at *
      walk_at "f"
      have hcl1 := cutG_len (block t data) none (some (pl : Int))
      have hcl2 := cutG_len (block t data) (some ((pl : Int) + 1)) none
      have hcl3 := cutG_len (block t data) (some 1) none
      refine w2_catE (f := ll) (ys := [W]) (by show _ + 1 ≤ 100000; omega) ?_
      walk_at "f"
      rw [cutG_hi _ (by omega), cutG_lo _ (by omega), Int.toNat_natCast, show ((pl : Int) + 1).toNat = pl + 1 by omega]
      have hA1l : ((block t data).take pl ++ [W] ++ (block t data).drop (pl + 1)).length = (block t data).length := put_lenA (x := [W]) (by show pl + 1 ≤ _; omega)
      have hA1m : ∀ s ∈ (block t data).take pl ++ [W] ++ (block t data).drop (pl + 1), s.length = 64 := fun s hs => by
        rcases List.mem_append.mp hs with hs | hs
        · rcases List.mem_append.mp hs with hs | hs
          · exact hBm s (List.mem_of_mem_take hs)
          · rw [List.mem_singleton.mp hs, hWl]
        · exact hBm s (List.mem_of_mem_drop hs)
      generalize (block t data).take pl ++ [W] ++ (block t data).drop (pl + 1) = A1 at *
      walk_at "f"
      rw [cutG_hi _ (by omega), show (((block t data).length : Int) - 1).toNat = (block t data).length - 1 by omega]
      have hb2 := bad_less (t := t) hd1000
      have hA2l : ((block t data).take ((block t data).length - 1)).length ≤ 100 := by rw [List.length_take]; omega
      have hA2m : ∀ s ∈ (block t data).take ((block t data).length - 1), s.length = 64 := fun s hs => hBm s (List.mem_of_mem_take hs)
      generalize (block t data).take ((block t data).length - 1) = A2 at *
      refine ⟨p, 1000, ys3, rfl, um_same, hDy3, by decide, by decide, fun v4 ys4 h4a h4b hDy4 => ?_⟩
      rw [um_um]
      walk_at "f"
      refine ⟨_, 4, rfl, by decide, ?_⟩
      have hb3 := bad_size (t := t) hd1000 (m := 54 * ((block t data).length : Int) - 3 + v4) (by omega) (by omega)
      generalize 54 * ((block t data).length : Int) - 3 + v4 = mo at *
      have hmo := be_len mo 4
      walk_at "f"
      case hx => exact atI_two (f := ll) [] (by omega) (by show 0 < _; omega)
      rw [show (0 : Int).toNat = 0 from rfl]
      have h0l := hnb 0 hnp
      walk_at "f"
      refine ⟨(block t data).getD 0 [], 10, be mo 4, rfl, by omega, by omega, ?_⟩
      walk_at "f"
      have hW3l : (((block t data).getD 0 []).take 10 ++ be mo 4 ++ ((block t data).getD 0 []).drop (10 + (be mo 4).length)).length = 64 := by rw [put_lenA (by omega), h0l]
      generalize ((block t data).getD 0 []).take 10 ++ be mo 4 ++ ((block t data).getD 0 []).drop (10 + (be mo 4).length) = W3 at *
      refine w2_catE (f := ll) (xs := [W3]) (by show 1 + _ ≤ 100000; omega) ?_
      rw [cutG_lo _ (by decide)]
      walk_at "f"
      case hx => exact atI_two (f := ll) [] (by omega) (by show 0 < _; omega)
      rw [show (0 : Int).toNat = 0 from rfl]
      walk_at "f"
      refine ⟨(block t data).getD 0 [], 6, [0, 0, 0, 0], rfl, by omega, by decide, ?_⟩
      walk_at "f"
      have hb4 := bad_zero (t := t) hd1000
      have hW4l : (((block t data).getD 0 []).take 6 ++ [0, 0, 0, 0] ++ ((block t data).getD 0 []).drop (6 + [(0 : Int), 0, 0, 0].length)).length = 64 := by rw [put_lenA (by rw [h0l]; decide), h0l]
      have hb4' : readB ([((block t data).getD 0 []).take 6 ++ [0, 0, 0, 0] ++ ((block t data).getD 0 []).drop (6 + [(0 : Int), 0, 0, 0].length)] ++ (block t data).drop 1) t = .none := hb4
      generalize ((block t data).getD 0 []).take 6 ++ [0, 0, 0, 0] ++ ((block t data).getD 0 []).drop (6 + [(0 : Int), 0, 0, 0].length) = W4 at *
      refine w2_catE (f := ll) (xs := [W4]) (by show 1 + _ ≤ 100000; omega) ?_
      rw [cutG_lo _ (by decide)]
      walk_at "f"
      have hdl : ((block t data).drop (1 : Int).toNat).length ≤ 20 := by rw [List.length_drop]; omega
      have hdm : ∀ s ∈ (block t data).drop (1 : Int).toNat, s.length = 64 := fun s hs => hBm s (List.mem_of_mem_drop hs)
      have hb3' : readB ([W3] ++ (block t data).drop (1 : Int).toNat) t = .none := hb3
      have hb4'' : readB ([W4] ++ (block t data).drop (1 : Int).toNat) t = .none := hb4'
      generalize (block t data).drop (1 : Int).toNat = R at *
      refine w2_cat (ds := [.list (A1.map ll), .list (A2.map ll)]) (es := [.list (([W3] ++ R).map ll), .list (([W4] ++ R).map ll)]) lsv_dat lsv_dat (by simp) ?_
      refine ws_ret (w_op ?_)
      refine w_lcD (xs := [A1, A2, [W3] ++ R, [W4] ++ R]) (enc := lll) (M1 := um M p (.lst ys4)) List.mem_cons_self (by exact w_var rfl ⟨rfl, rfl⟩) (by simp) (fun _ => .none) ?_ ?_
      · intro x D o hx hDn
        have hxx : readB x t = .none ∧ x.length ≤ 200 ∧ ∀ s ∈ x, s.length = 64 := by
          rcases List.mem_cons.mp hx with rfl | hx
          · exact ⟨hb1', by omega, hA1m⟩
          rcases List.mem_cons.mp hx with rfl | hx
          · exact ⟨hb2, by omega, hA2m⟩
          rcases List.mem_cons.mp hx with rfl | hx
          · refine ⟨hb3', by simp; omega, fun s hs => ?_⟩
            rcases List.mem_cons.mp hs with rfl | hs
            · exact hW3l
            · exact hdm s hs
          rcases List.mem_cons.mp hx with rfl | hx
          · refine ⟨hb4'', by simp; omega, fun s hs => ?_⟩
            rcases List.mem_cons.mp hs with rfl | hs
            · exact hW4l
            · exact hdm s hs
          · cases hx
        walk_at "f"
        refine ⟨x, t, rfl, hxx.2.1, fun s hs => by rw [hxx.2.2 s hs]; decide, ?_⟩
        rw [hxx.1]
        exact ⟨rfl, rfl⟩
      · walk_at "f"
        show W2 K (rEqD K) (.dat (.list [.none, .none, .none, .none])) (.dat (.list [.none, .none, .none, .none])) _ Q
        refine w2_eq (by decide) (by decide) ?_
        rw [show PyData.eqv (.list [.none, .none, .none, .none]) (.list [.none, .none, .none, .none]) = true by decide]
        exact q ys4 hDy4
end
end K07


set_option Elab.async false
set_option linter.all false
set_option maxRecDepth 100000
set_option  maxHeartbeats 4000000
namespace K07
open PySem PyProof.Rows L2 Ab
local macro_rules | `(tactic| walk_at "len") => `(tactic| first | decide | omega | (simp only [List.length_append, List.length_map, List.length_replicate, List.length_cons, List.length_nil, List.length_take, List.length_drop, List.length_reverse, List.length_range]; omega))
local macro_rules | `(tactic| walk_at "1") => `(tactic| (first
  | (with_reducible refine ws_set ?_)
  | (with_reducible refine ws_ret ?_)
  | (with_reducible refine ws_if ?_)
  | (with_reducible refine ws_drop ?_)
  | (with_reducible refine w_op ?_)
  | (with_reducible refine w_int ?_)
  | (with_reducible refine w_bl ?_)
  | (with_reducible refine w_non ?_)
  | (with_reducible refine w_str ?_)
  | (with_reducible refine w_cb ?_)
  | (with_reducible refine w_call ?_)
  | (with_reducible refine w_sl ?_)
  | (with_reducible refine w_tupD ?_)
  | (with_reducible refine w_chain ?_)
  | (with_reducible refine w_andV ?_)
  | (with_reducible refine w_orV ?_)
  | (with_reducible refine w_notV ?_)
  | (with_reducible refine wo_none ?_)
  | (with_reducible refine wo_some ?_)
  | (with_reducible refine wa_cons ?_)
  | (with_reducible refine wa_nil ?_)
  | (with_reducible refine wt_test ?_)
  | (with_reducible refine wt_B ?_)
  | (with_reducible refine wt_and ?_)
  | (with_reducible refine wt_or ?_)
  | (with_reducible refine wt_not ?_)
  | (with_reducible refine wt_yes ?_)
  | (with_reducible refine w2_i0 ?_)
  | (with_reducible refine w2_b0 ?_)
  | (with_reducible refine w1_neg ?_)
  | ((with_reducible refine w2_i ?hc ?_); (case hc => first | decide | exact ⟨by decide, by decide⟩ | exact Or.inl ⟨by decide, by decide⟩ | exact Or.inr ⟨by decide, by decide⟩ | exact ⟨by decide, by decide, by decide⟩ | omega); skip)
  | ((with_reducible refine' w_var ?hv ?_); (case hv => exact rfl); skip)
  | ((with_reducible show W2 _ (rEqD _) _ _ _ _); (refine w2_eq ?ha ?hb ?_); (case ha => first | exact shaped_int _ | exact shaped_bool _); (case hb => first | exact shaped_int _ | exact shaped_bool _); skip)
  | ((with_reducible show W2 _ (rNeD _) _ _ _ _); (refine w2_ne ?ha ?hb ?_); (case ha => first | exact shaped_int _ | exact shaped_bool _); (case hb => first | exact shaped_int _ | exact shaped_bool _); skip)
  | ((with_reducible show W2 _ _ _ _ _ _); (refine w2_isN ?_))
  | ((with_reducible show W2 _ _ _ _ _ _); (refine w2_notN ?_))
  | (with_reducible refine wl_lenE ?_)
  | (with_reducible refine wl_lenD ?_)
  | (with_reducible refine wl_lenTD ?_)
  | (with_reducible refine wl_listE ?_)
  | (with_reducible refine wsl_E ?_)
  | ((with_reducible refine' w2_catE ?hl ?_); (try (case hl => walk_at "len")); skip)
  | ((with_reducible refine' w2_rep1 ?h1 ?h2 ?_); (try (case h1 => first | decide | omega)); (try (case h2 => first | decide | omega)); skip)
  | ((with_reducible show WL _ _ [_] _ _); (refine' wl_len ?hl ?_); (case hl => first | exact lsv_dat | exact lsv_ref um_same | exact lsv_ref (by assumption)); skip)
  | ((with_reducible show WL _ _ [_] _ _); (refine' wl_list ?hl ?_); (case hl => first | exact .inl lsv_dat | exact .inl (lsv_ref (by assumption))); skip)
  | ((with_reducible show WSl _ (rSlL _) _ _ _ _ _); (refine' wsl_lst ?hl ?_); (case hl => first | exact lsv_dat | exact lsv_ref um_same | exact lsv_ref (by assumption)); skip)
  | ((with_reducible show WL _ _ [_] _ _); (refine wl_int ?_))
  | ((with_reducible show W2 _ (rIxL _) _ _ _ _); (refine' w2_ixL ?hs ?hx ?_); (case hs => first | exact lsv_dat | exact lsv_ref um_same | exact lsv_ref (by assumption)); (try (case hx => exact rfl)); skip)
  | ((with_reducible show W2 _ (rIxT _) _ _ _ _); (refine' w2_ixT ?hx ?_); (try (case hx => exact rfl)); skip)
  | ((with_reducible show WL _ (rIsi _) [_, _] _ _); (refine' wl_isi ?hb ?_); (case hb => first | exact isi_bool _ | exact isi_int _ | exact isi_str _ | exact isi_tuple _ | exact isi_list _); skip)
  | ((with_reducible show W _ (tC (V.ty _)) _ _ _); (refine w_raw ?_))
  | ((with_reducible show WL _ _ [_] _ _); (refine' wl_lenT ?hl ?_); (case hl => exact tpv_dat); skip)
  | (with_reducible refine ws_next ?_)
  | (with_reducible refine ite_t rfl ?_)
  | (with_reducible refine ite_f rfl ?_)
  | ((with_reducible show ∃ b : Bool, _ = Sl.bl b ∧ _); (with_reducible refine ⟨_, rfl, ?_⟩))
  | ((with_reducible show ∃ i : Int, _ = Sl.int i ∧ _); (with_reducible refine ⟨_, rfl, ?_⟩))
  | ((with_reducible show List.length _ ≤ 100000 ∧ _); (refine ⟨(by simp), ?_⟩))
  | ((with_reducible show ∃ ds : List PyData, datsOf _ = some ds ∧ _); (refine ⟨_, rfl, ?_⟩))))
local macro_rules | `(tactic| walk_at "e") => `(tactic| repeat (first | (with_reducible refine ws_seq ?_) | (walk_at "1")))
local macro_rules | `(tactic| walk_at "g") => `(tactic| repeat (first | (walk_at "1") | ((with_reducible refine w_lstI (wa_cons ?_)); (repeat (walk_at "1")); (with_reducible show ∃ ns : List Int, itemsI _ = some ns ∧ _); (refine ⟨_, rfl, ?_⟩)) | (with_reducible refine w_lstD ?_)))
local macro_rules | `(tactic| walk_at "f") => `(tactic| repeat (first | (with_reducible refine ws_seq ?_) | (walk_at "1") | ((with_reducible refine w_lstI (wa_cons ?_)); (repeat (walk_at "1")); (with_reducible show ∃ ns : List Int, itemsI _ = some ns ∧ _); (refine ⟨_, rfl, ?_⟩)) | (with_reducible refine w_lstD ?_)))
local macro_rules | `(tactic| walk_at "k") => `(tactic| first | dsimp only [cxOf, Cx.nox, Cx.wish] | skip)

section
variable {P : Program} {w : World} {K : PySem.W.Frag} {mg : Str → Option Value} {base : Heap} {a : AD} {d : FD}
theorem ok_law (T : Txt K mg a d) : FnOk P w K mg base CX0 5 a.law d.law ["_law_script"] (scriptA K) := by
  have G_law_asks_block : FnOk P w K mg base CX0 4 a.law_asks_block d.law_asks_block ["_law_state"] (conc K A_asks) := ok_block_law T
  have G_law_asks_head : FnOk P w K mg base CX0 4 a.law_asks_head d.law_asks_head ["_law_state"] (conc K A_asks) := ok_head_law T
  have G_law_asks_places : FnOk P w K mg base CX0 4 a.law_asks_places d.law_asks_places ["_law_size"] (conc K A_places) := ok_places T
  have G_law_next : FnOk P w K mg base CX0 1 a.law_next d.law_next ["_law_state", "_law_limit"] (conc K A_next) := ok_next T
  refine ab_ok T.F_law sc_law (fun ss M Q ⟨p, xs, e, _⟩ => by subst e; rfl) fun cdv Ar outer s H E hr => ⟨_, (pss_cons (ps_set (i := 1) sc_law.nd rfl (Or.inl rfl) (pe_lst (pa_cons (pe_callTy (r := rListS K) call_list_of (by rfl) T.n_list (by decide +kernel) (pa_cons (pv 0) pa_nil)) (pa_cons pe_int (pa_cons pe_int (pa_cons pe_int pa_nil))))))
  (pss_cons (ps_for PassesOwn.never rfl (pi_range1 rfl T.n_range (pa_cons pe_int pa_nil)) (pg_name (i := 2) sc_law.nd rfl (Or.inl rfl)) (pss_one (ps_if (PW.pt (pw_or (pt_not (pt_val (pe_call G_law_asks_block (hr.mono (by omega)) (by rfl) T.g_law_asks_block T.F_law_asks_block.kp T.b_law_asks_block .nil pass0 (pa_cons (pv 1) pa_nil)))) (pw_or (pt_not (pt_val (pe_call G_law_asks_head (hr.mono (by omega)) (by rfl) T.g_law_asks_head T.F_law_asks_head.kp T.b_law_asks_head .nil pass0 (pa_cons (pv 1) pa_nil)))) (pw_or1 (pt_not (pt_val (pe_call G_law_asks_places (hr.mono (by omega)) (by rfl) T.g_law_asks_places T.F_law_asks_places.kp T.b_law_asks_places .nil pass0 (pa_cons (pe_op op_add pe_int (pe_call G_law_next (hr.mono (by omega)) (by rfl) T.g_law_next T.F_law_next.kp T.b_law_next .nil pass0 (pa_cons (pv 1) (pa_cons pe_int pa_nil)))) pa_nil)))))))) (pss_one (ps_ret pe_bl)) pss_nil)))
  (pss_one (ps_ret pe_bl)))), ?_⟩
  rintro ss M Q ⟨sc, ns, rfl, hl, hb, hs, q⟩
  walk_at "k"
  show WS K _ [some sc, none, none] M _
  refine ws_seq (ws_set (w_lstM ?_))
  walk_at "g"
  refine wl_list (.inl (hs M)) ?_
  walk_at "g"
  intro p hp
  refine ws_seq ?_
  refine ws_forR1 (n := 3) (M1 := um M p (.lst [.dat (.list (ns.map .int)), .int 0, .int 0, .int 1])) (by walk_at "e"; exact ⟨rfl, rfl⟩) (by omega)
    (fun i ρ' M' => ∃ (ys : List Sl) (y : Option Sl), ρ' = [some sc, some (.ref p), y] ∧ M' = um M p (.lst ys) ∧ DrawL ys) ⟨_, none, rfl, rfl, ns, 0, 0, 1, rfl, by decide⟩ ?_ ?_
  · rintro i ρ' M' hi ⟨ys, y, rfl, rfl, hD⟩
    refine wg_name ?_
    walk_at "f"
    refine ⟨p, ys, rfl, um_same, hD, fun ys1 hD1 => ?_⟩
    rw [um_um]
    walk_at "f"
    refine ⟨p, ys1, rfl, um_same, hD1, fun ys2 hD2 => ?_⟩
    rw [um_um]
    walk_at "f"
    refine ⟨p, 341, ys2, rfl, um_same, hD2, by decide, by decide, fun v ys3 h0 h1 hD3 => ?_⟩
    rw [um_um]
    walk_at "f"
    refine ⟨60 + v, rfl, by omega, by omega, ?_⟩
    walk_at "f"
    exact ⟨ys3, some (.int (i : Int)), rfl, rfl, hD3⟩
  · rintro ρ' M' ⟨ys, y, rfl, rfl, hD⟩
    walk_at "f"
    exact q _
end
theorem all_mk {l : PySem.W.OpenLaw} {w : World} {K : PySem.W.Frag} {h : Heap} {mg : Str → Option Value} {fa f0 f1 f2 f3 f4 f5 f6 f7 f8 f9 f10 f11 f12 f13 f14 f15 f16 f17 f18 f19 c0 : Addr} (X : K.In h) (G : h.Ns mainGlobals mg) (hfa : mg "law" = some (.ref fa))
    {od0 an0 od1 an1 od2 an2 od3 an3 od4 an4 od5 an5 od6 an6 od7 an7 od8 an8 od9 an9 od10 an10 od11 an11 od12 an12 od13 an13 od14 an14 od15 an15 od16 an16 od17 an17 od18 an18 od19 an19 : Option Addr} {sl0 sl1 sl2 sl3 sl4 sl5 sl6 sl7 sl8 sl9 sl10 sl11 sl12 sl13 sl14 sl15 sl16 sl17 sl18 sl19 : Array (Option Value)} {oc0 kV0 dc0 pm0 cd0 ct0 oc1 kV1 dc1 pm1 cd1 ct1 oc2 kV2 dc2 pm2 cd2 ct2 oc3 kV3 dc3 pm3 cd3 ct3 oc4 kV4 dc4 pm4 cd4 ct4 oc5 kV5 dc5 pm5 cd5 ct5 oc6 kV6 dc6 pm6 cd6 ct6 oc7 kV7 dc7 pm7 cd7 ct7 oc8 kV8 dc8 pm8 cd8 ct8 oc9 kV9 dc9 pm9 cd9 ct9 oc10 kV10 dc10 pm10 cd10 ct10 oc11 kV11 dc11 pm11 cd11 ct11 oc12 kV12 dc12 pm12 cd12 ct12 oc13 kV13 dc13 pm13 cd13 ct13 oc14 kV14 dc14 pm14 cd14 ct14 oc15 kV15 dc15 pm15 cd15 ct15 oc16 kV16 dc16 pm16 cd16 ct16 oc17 kV17 dc17 pm17 cd17 ct17 oc18 kV18 dc18 pm18 cd18 ct18 oc19 kV19 dc19 pm19 cd19 ct19 : Value} {t0 t1 : Tok}
    (a0 : PySem.W.nsIn K mainGlobals "fixed" = some (some (.ref f0))) (l0 : K.lookup f0 = some ⟨oc0, od0, .func (PySem.W.fnOf "fixed" "fixed" (defArgs s_fixed) (defBody s_fixed) (defScope s_fixed) .none kV0 dc0 pm0 an0 cd0 ct0), sl0⟩) (c_0 : PySem.W.codeIn K cd0 "fixed" = true) (k0 : PySem.W.keepIn K (.ref f0) = true)
    (a1 : PySem.W.nsIn K mainGlobals "number_of" = some (some (.ref f1))) (l1 : K.lookup f1 = some ⟨oc1, od1, .func (PySem.W.fnOf "number_of" "number_of" (defArgs s_number_of) (defBody s_number_of) (defScope s_number_of) .none kV1 dc1 pm1 an1 cd1 ct1), sl1⟩) (c_1 : PySem.W.codeIn K cd1 "number_of" = true) (k1 : PySem.W.keepIn K (.ref f1) = true)
    (a2 : PySem.W.nsIn K mainGlobals "turn_of" = some (some (.ref f2))) (l2 : K.lookup f2 = some ⟨oc2, od2, .func (PySem.W.fnOf "turn_of" "turn_of" (defArgs s_turn_of) (defBody s_turn_of) (defScope s_turn_of) .none kV2 dc2 pm2 an2 cd2 ct2), sl2⟩) (c_2 : PySem.W.codeIn K cd2 "turn_of" = true) (k2 : PySem.W.keepIn K (.ref f2) = true)
    (a3 : PySem.W.nsIn K mainGlobals "write_block" = some (some (.ref f3))) (l3 : K.lookup f3 = some ⟨oc3, od3, .func (PySem.W.fnOf "write_block" "write_block" (defArgs s_write_block) (defBody s_write_block) (defScope s_write_block) .none kV3 dc3 pm3 an3 cd3 ct3), sl3⟩) (c_3 : PySem.W.codeIn K cd3 "write_block" = true) (k3 : PySem.W.keepIn K (.ref f3) = true)
    (a4 : PySem.W.nsIn K mainGlobals "read_block" = some (some (.ref f4))) (l4 : K.lookup f4 = some ⟨oc4, od4, .func (PySem.W.fnOf "read_block" "read_block" (defArgs s_read_block) (defBody s_read_block) (defScope s_read_block) .none kV4 dc4 pm4 an4 cd4 ct4), sl4⟩) (c_4 : PySem.W.codeIn K cd4 "read_block" = true) (k4 : PySem.W.keepIn K (.ref f4) = true)
    (a5 : PySem.W.nsIn K mainGlobals "area_size" = some (some (.ref f5))) (l5 : K.lookup f5 = some ⟨oc5, od5, .func (PySem.W.fnOf "area_size" "area_size" (defArgs s_area_size) (defBody s_area_size) (defScope s_area_size) .none kV5 dc5 pm5 an5 cd5 ct5), sl5⟩) (c_5 : PySem.W.codeIn K cd5 "area_size" = true) (k5 : PySem.W.keepIn K (.ref f5) = true)
    (a6 : PySem.W.nsIn K mainGlobals "area_start" = some (some (.ref f6))) (l6 : K.lookup f6 = some ⟨oc6, od6, .func (PySem.W.fnOf "area_start" "area_start" (defArgs s_area_start) (defBody s_area_start) (defScope s_area_start) .none kV6 dc6 pm6 an6 cd6 ct6), sl6⟩) (c_6 : PySem.W.codeIn K cd6 "area_start" = true) (k6 : PySem.W.keepIn K (.ref f6) = true)
    (a7 : PySem.W.nsIn K mainGlobals "head" = some (some (.ref f7))) (l7 : K.lookup f7 = some ⟨oc7, od7, .func (PySem.W.fnOf "head" "head" (defArgs s_head) (defBody s_head) (defScope s_head) .none kV7 dc7 pm7 an7 cd7 ct7), sl7⟩) (c_7 : PySem.W.codeIn K cd7 "head" = true) (k7 : PySem.W.keepIn K (.ref f7) = true)
    (a8 : PySem.W.nsIn K mainGlobals "read_head" = some (some (.ref f8))) (l8 : K.lookup f8 = some ⟨oc8, od8, .func (PySem.W.fnOf "read_head" "read_head" (defArgs s_read_head) (defBody s_read_head) (defScope s_read_head) .none kV8 dc8 pm8 an8 cd8 ct8), sl8⟩) (c_8 : PySem.W.codeIn K cd8 "read_head" = true) (k8 : PySem.W.keepIn K (.ref f8) = true)
    (a9 : PySem.W.nsIn K mainGlobals "_law_next" = some (some (.ref f9))) (l9 : K.lookup f9 = some ⟨oc9, od9, .func (PySem.W.fnOf "_law_next" "_law_next" (defArgs s_law_next) (defBody s_law_next) (defScope s_law_next) .none kV9 dc9 pm9 an9 cd9 ct9), sl9⟩) (c_9 : PySem.W.codeIn K cd9 "_law_next" = true) (k9 : PySem.W.keepIn K (.ref f9) = true)
    (a10 : PySem.W.nsIn K mainGlobals "_law_same" = some (some (.ref f10))) (l10 : K.lookup f10 = some ⟨oc10, od10, .func (PySem.W.fnOf "_law_same" "_law_same" (defArgs s_law_same) (defBody s_law_same) (defScope s_law_same) .none kV10 dc10 pm10 an10 cd10 ct10), sl10⟩) (c_10 : PySem.W.codeIn K cd10 "_law_same" = true) (k10 : PySem.W.keepIn K (.ref f10) = true)
    (a11 : PySem.W.nsIn K mainGlobals "_law_fixed" = some (some (.ref f11))) (l11 : K.lookup f11 = some ⟨oc11, od11, .func (PySem.W.fnOf "_law_fixed" "_law_fixed" (defArgs s_law_fixed) (defBody s_law_fixed) (defScope s_law_fixed) .none kV11 dc11 pm11 an11 cd11 ct11), sl11⟩) (c_11 : PySem.W.codeIn K cd11 "_law_fixed" = true) (k11 : PySem.W.keepIn K (.ref f11) = true)
    (a12 : PySem.W.nsIn K mainGlobals "_law_block" = some (some (.ref f12))) (l12 : K.lookup f12 = some ⟨oc12, od12, .func (PySem.W.fnOf "_law_block" "_law_block" (defArgs s_law_block) (defBody s_law_block) (defScope s_law_block) .none kV12 dc12 pm12 an12 cd12 ct12), sl12⟩) (c_12 : PySem.W.codeIn K cd12 "_law_block" = true) (k12 : PySem.W.keepIn K (.ref f12) = true)
    (a13 : PySem.W.nsIn K mainGlobals "_law_turn" = some (some (.ref f13))) (l13 : K.lookup f13 = some ⟨oc13, od13, .func (PySem.W.fnOf "_law_turn" "_law_turn" (defArgs s_law_turn) (defBody s_law_turn) (defScope s_law_turn) .none kV13 dc13 pm13 an13 cd13 ct13), sl13⟩) (c_13 : PySem.W.codeIn K cd13 "_law_turn" = true) (k13 : PySem.W.keepIn K (.ref f13) = true)
    (a14 : PySem.W.nsIn K mainGlobals "_law_bytes" = some (some (.ref f14))) (l14 : K.lookup f14 = some ⟨oc14, od14, .func (PySem.W.fnOf "_law_bytes" "_law_bytes" (defArgs s_law_bytes) (defBody s_law_bytes) (defScope s_law_bytes) .none kV14 dc14 pm14 an14 cd14 ct14), sl14⟩) (c_14 : PySem.W.codeIn K cd14 "_law_bytes" = true) (k14 : PySem.W.keepIn K (.ref f14) = true)
    (a15 : PySem.W.nsIn K mainGlobals "_law_put" = some (some (.ref f15))) (l15 : K.lookup f15 = some ⟨oc15, od15, .func (PySem.W.fnOf "_law_put" "_law_put" (defArgs s_law_put) (defBody s_law_put) (defScope s_law_put) .none kV15 dc15 pm15 an15 cd15 ct15), sl15⟩) (c_15 : PySem.W.codeIn K cd15 "_law_put" = true) (k15 : PySem.W.keepIn K (.ref f15) = true)
    (a16 : PySem.W.nsIn K mainGlobals "_law_asks_block" = some (some (.ref f16))) (l16 : K.lookup f16 = some ⟨oc16, od16, .func (PySem.W.fnOf "_law_asks_block" "_law_asks_block" (defArgs s_law_asks_block) (defBody s_law_asks_block) (defScope s_law_asks_block) .none kV16 dc16 pm16 an16 cd16 ct16), sl16⟩) (c_16 : PySem.W.codeIn K cd16 "_law_asks_block" = true) (k16 : PySem.W.keepIn K (.ref f16) = true)
    (a17 : PySem.W.nsIn K mainGlobals "_law_asks_head" = some (some (.ref f17))) (l17 : K.lookup f17 = some ⟨oc17, od17, .func (PySem.W.fnOf "_law_asks_head" "_law_asks_head" (defArgs s_law_asks_head) (defBody s_law_asks_head) (defScope s_law_asks_head) .none kV17 dc17 pm17 an17 cd17 ct17), sl17⟩) (c_17 : PySem.W.codeIn K cd17 "_law_asks_head" = true) (k17 : PySem.W.keepIn K (.ref f17) = true)
    (a18 : PySem.W.nsIn K mainGlobals "_law_asks_places" = some (some (.ref f18))) (l18 : K.lookup f18 = some ⟨oc18, od18, .func (PySem.W.fnOf "_law_asks_places" "_law_asks_places" (defArgs s_law_asks_places) (defBody s_law_asks_places) (defScope s_law_asks_places) .none kV18 dc18 pm18 an18 cd18 ct18), sl18⟩) (c_18 : PySem.W.codeIn K cd18 "_law_asks_places" = true) (k18 : PySem.W.keepIn K (.ref f18) = true)
    (a19 : PySem.W.nsIn K mainGlobals "law" = some (some (.ref f19))) (l19 : K.lookup f19 = some ⟨oc19, od19, .func (PySem.W.fnOf "law" "law" (defArgs s_law) (defBody s_law) (defScope s_law) .none kV19 dc19 pm19 an19 cd19 ct19), sl19⟩) (c_19 : PySem.W.codeIn K cd19 "law" = true) (k19 : PySem.W.keepIn K (.ref f19) = true)
    (z0 : PySem.W.nsIn K mainGlobals "bool" = some none)
    (z1 : PySem.W.nsIn K mainGlobals "int" = some none)
    (z2 : PySem.W.nsIn K mainGlobals "isinstance" = some none)
    (z3 : PySem.W.nsIn K mainGlobals "len" = some none)
    (z4 : PySem.W.nsIn K mainGlobals "list" = some none)
    (z5 : PySem.W.nsIn K mainGlobals "range" = some none)
    (z6 : PySem.W.nsIn K mainGlobals "str" = some none)
    (z7 : PySem.W.nsIn K mainGlobals "tuple" = some none)
    (i0 : PySem.W.nsIn K mainGlobals "HEAD_ZEROS" = some (some (.int 53 t0)))
    (i1 : PySem.W.nsIn K mainGlobals "PIECE" = some (some (.int 54 t1)))
    {lo0 : Obj} (j0 : PySem.W.nsIn K mainGlobals "MARK" = some (some (.ref c0))) (jl0 : K.lookup c0 = some lo0) (jo0 : ∃ its n, lo0.cls = .type "list" ∧ lo0.dict = none ∧ lo0.data = .seq its n ∧ its.size ≤ sizeLine ∧ Vals [.int 82, .int 85, .int 76, .int 69] its.toList)
    : ∃ fd : FuncData, (∀ (s : Shared) (v : Value), BindsTo s fd ⟨[v], []⟩ [("_law_script", v)]) ∧ ∀ base : Heap, K.In base → base.Ns mainGlobals mg → FnOk l.prog w K mg base CX0 5 fa fd ["_law_script"] (Ab.scriptA K) := by
  have e := hfa.symm.trans (PySem.W.mg_of X G a19)
  cases e
  have F0 := fun_mk (st := s_fixed) l0 c_0 k0
  have b0 := F0.binds (ps := ["number", "count"]) fun _ _ _ _ _ _ us hl => match us, hl with | [_, _], _ => rfl
  have F1 := fun_mk (st := s_number_of) l1 c_1 k1
  have b1 := F1.binds (ps := ["data"]) fun _ _ _ _ _ _ us hl => match us, hl with | [_], _ => rfl
  have F2 := fun_mk (st := s_turn_of) l2 c_2 k2
  have b2 := F2.binds (ps := ["sector"]) fun _ _ _ _ _ _ us hl => match us, hl with | [_], _ => rfl
  have F3 := fun_mk (st := s_write_block) l3 c_3 k3
  have b3 := F3.binds (ps := ["turn", "data"]) fun _ _ _ _ _ _ us hl => match us, hl with | [_, _], _ => rfl
  have F4 := fun_mk (st := s_read_block) l4 c_4 k4
  have b4 := F4.binds (ps := ["sectors", "turn"]) fun _ _ _ _ _ _ us hl => match us, hl with | [_, _], _ => rfl
  have F5 := fun_mk (st := s_area_size) l5 c_5 k5
  have b5 := F5.binds (ps := ["size"]) fun _ _ _ _ _ _ us hl => match us, hl with | [_], _ => rfl
  have F6 := fun_mk (st := s_area_start) l6 c_6 k6
  have b6 := F6.binds (ps := ["size", "area"]) fun _ _ _ _ _ _ us hl => match us, hl with | [_, _], _ => rfl
  have F7 := fun_mk (st := s_head) l7 c_7 k7
  have b7 := F7.binds (ps := ["turn", "area"]) fun _ _ _ _ _ _ us hl => match us, hl with | [_, _], _ => rfl
  have F8 := fun_mk (st := s_read_head) l8 c_8 k8
  have b8 := F8.binds (ps := ["sector"]) fun _ _ _ _ _ _ us hl => match us, hl with | [_], _ => rfl
  have F9 := fun_mk (st := s_law_next) l9 c_9 k9
  have b9 := F9.binds (ps := ["_law_state", "_law_limit"]) fun _ _ _ _ _ _ us hl => match us, hl with | [_, _], _ => rfl
  have F10 := fun_mk (st := s_law_same) l10 c_10 k10
  have b10 := F10.binds (ps := ["_law_actual", "_law_expected"]) fun _ _ _ _ _ _ us hl => match us, hl with | [_, _], _ => rfl
  have F11 := fun_mk (st := s_law_fixed) l11 c_11 k11
  have b11 := F11.binds (ps := ["_law_number", "_law_count"]) fun _ _ _ _ _ _ us hl => match us, hl with | [_, _], _ => rfl
  have F12 := fun_mk (st := s_law_block) l12 c_12 k12
  have b12 := F12.binds (ps := ["_law_turn_here", "_law_data"]) fun _ _ _ _ _ _ us hl => match us, hl with | [_, _], _ => rfl
  have F13 := fun_mk (st := s_law_turn) l13 c_13 k13
  have b13 := F13.binds (ps := ["_law_state"]) fun _ _ _ _ _ _ us hl => match us, hl with | [_], _ => rfl
  have F14 := fun_mk (st := s_law_bytes) l14 c_14 k14
  have b14 := F14.binds (ps := ["_law_state"]) fun _ _ _ _ _ _ us hl => match us, hl with | [_], _ => rfl
  have F15 := fun_mk (st := s_law_put) l15 c_15 k15
  have b15 := F15.binds (ps := ["_law_sector", "_law_place", "_law_data"]) fun _ _ _ _ _ _ us hl => match us, hl with | [_, _, _], _ => rfl
  have F16 := fun_mk (st := s_law_asks_block) l16 c_16 k16
  have b16 := F16.binds (ps := ["_law_state"]) fun _ _ _ _ _ _ us hl => match us, hl with | [_], _ => rfl
  have F17 := fun_mk (st := s_law_asks_head) l17 c_17 k17
  have b17 := F17.binds (ps := ["_law_state"]) fun _ _ _ _ _ _ us hl => match us, hl with | [_], _ => rfl
  have F18 := fun_mk (st := s_law_asks_places) l18 c_18 k18
  have b18 := F18.binds (ps := ["_law_size"]) fun _ _ _ _ _ _ us hl => match us, hl with | [_], _ => rfl
  have F19 := fun_mk (st := s_law) l19 c_19 k19
  have b19 := F19.binds (ps := ["_law_script"]) fun _ _ _ _ _ _ us hl => match us, hl with | [_], _ => rfl
  have T : Txt K mg ⟨f0, f1, f2, f3, f4, f5, f6, f7, f8, f9, f10, f11, f12, f13, f14, f15, f16, f17, f18, fa, t0, t1, c0⟩ ⟨_, _, _, _, _, _, _, _, _, _, _, _, _, _, _, _, _, _, _, _⟩ := ⟨F0, PySem.W.mg_of X G a0, b0, F1, PySem.W.mg_of X G a1, b1, F2, PySem.W.mg_of X G a2, b2, F3, PySem.W.mg_of X G a3, b3, F4, PySem.W.mg_of X G a4, b4, F5, PySem.W.mg_of X G a5, b5, F6, PySem.W.mg_of X G a6, b6, F7, PySem.W.mg_of X G a7, b7, F8, PySem.W.mg_of X G a8, b8, F9, PySem.W.mg_of X G a9, b9, F10, PySem.W.mg_of X G a10, b10, F11, PySem.W.mg_of X G a11, b11, F12, PySem.W.mg_of X G a12, b12, F13, PySem.W.mg_of X G a13, b13, F14, PySem.W.mg_of X G a14, b14, F15, PySem.W.mg_of X G a15, b15, F16, PySem.W.mg_of X G a16, b16, F17, PySem.W.mg_of X G a17, b17, F18, PySem.W.mg_of X G a18, b18, F19, PySem.W.mg_of X G a19, b19, PySem.W.mg_none_of X G z0, PySem.W.mg_none_of X G z1, PySem.W.mg_none_of X G z2, PySem.W.mg_none_of X G z3, PySem.W.mg_none_of X G z4, PySem.W.mg_none_of X G z5, PySem.W.mg_none_of X G z6, PySem.W.mg_none_of X G z7, PySem.W.mg_of X G i0, PySem.W.mg_of X G i1, PySem.W.mg_of X G j0, let ⟨its, n, x⟩ := jo0; ⟨lo0, its, n, jl0, x⟩⟩
  exact ⟨_, fun s v => .of_eq rfl, fun base _ _ => ok_law T⟩
end K07
open PySem PySem.W PyProof.Rows
set_option maxRecDepth 100000 in
set_option maxHeartbeats 0 in
theorem PySem.Challenge.cw_rulestead_k07_blocks_and_heads_holds : PySem.Challenge.rw_rulestead_k07_blocks_and_heads.Holds := by
  w_on; o_law; k_head; (case hw => w_witness2)
  k_fill
  refine L2.walk_ofB (l := PySem.Challenge.rw_rulestead_k07_blocks_and_heads) (n := 63) (k := 5) (x := "_law_script") (CX := fun _ => L2.CX0) (sp := fun w => Ab.scriptA _) rfl (by decide) rfl ⟨rfl, by decide, by decide⟩ (fun w h Y => PySem.W.kIn_of Y) ?F (fun _ H a ns hl hb hO hS => Ab.script_in hl hb hS) (fun _ _ _ _ _ h => h)
  case F =>
    intro w mg fa h KX G hmg
    refine' K07.all_mk KX G hmg ?a0 ?l0 ?c_0 ?k0 ?a1 ?l1 ?c_1 ?k1 ?a2 ?l2 ?c_2 ?k2 ?a3 ?l3 ?c_3 ?k3 ?a4 ?l4 ?c_4 ?k4 ?a5 ?l5 ?c_5 ?k5 ?a6 ?l6 ?c_6 ?k6 ?a7 ?l7 ?c_7 ?k7 ?a8 ?l8 ?c_8 ?k8 ?a9 ?l9 ?c_9 ?k9 ?a10 ?l10 ?c_10 ?k10 ?a11 ?l11 ?c_11 ?k11 ?a12 ?l12 ?c_12 ?k12 ?a13 ?l13 ?c_13 ?k13 ?a14 ?l14 ?c_14 ?k14 ?a15 ?l15 ?c_15 ?k15 ?a16 ?l16 ?c_16 ?k16 ?a17 ?l17 ?c_17 ?k17 ?a18 ?l18 ?c_18 ?k18 ?a19 ?l19 ?c_19 ?k19 ?z0 ?z1 ?z2 ?z3 ?z4 ?z5 ?z6 ?z7 ?i0 ?i1 ?j0 ?jl0 ?jo0
    (case a0 => k_is)
    (case l0 => k_is)
    (case c_0 => k_is)
    (case k0 => k_is)
    (case a1 => k_is)
    (case l1 => k_is)
    (case c_1 => k_is)
    (case k1 => k_is)
    (case a2 => k_is)
    (case l2 => k_is)
    (case c_2 => k_is)
    (case k2 => k_is)
    (case a3 => k_is)
    (case l3 => k_is)
    (case c_3 => k_is)
    (case k3 => k_is)
    (case a4 => k_is)
    (case l4 => k_is)
    (case c_4 => k_is)
    (case k4 => k_is)
    (case a5 => k_is)
    (case l5 => k_is)
    (case c_5 => k_is)
    (case k5 => k_is)
    (case a6 => k_is)
    (case l6 => k_is)
    (case c_6 => k_is)
    (case k6 => k_is)
    (case a7 => k_is)
    (case l7 => k_is)
    (case c_7 => k_is)
    (case k7 => k_is)
    (case a8 => k_is)
    (case l8 => k_is)
    (case c_8 => k_is)
    (case k8 => k_is)
    (case a9 => k_is)
    (case l9 => k_is)
    (case c_9 => k_is)
    (case k9 => k_is)
    (case a10 => k_is)
    (case l10 => k_is)
    (case c_10 => k_is)
    (case k10 => k_is)
    (case a11 => k_is)
    (case l11 => k_is)
    (case c_11 => k_is)
    (case k11 => k_is)
    (case a12 => k_is)
    (case l12 => k_is)
    (case c_12 => k_is)
    (case k12 => k_is)
    (case a13 => k_is)
    (case l13 => k_is)
    (case c_13 => k_is)
    (case k13 => k_is)
    (case a14 => k_is)
    (case l14 => k_is)
    (case c_14 => k_is)
    (case k14 => k_is)
    (case a15 => k_is)
    (case l15 => k_is)
    (case c_15 => k_is)
    (case k15 => k_is)
    (case a16 => k_is)
    (case l16 => k_is)
    (case c_16 => k_is)
    (case k16 => k_is)
    (case a17 => k_is)
    (case l17 => k_is)
    (case c_17 => k_is)
    (case k17 => k_is)
    (case a18 => k_is)
    (case l18 => k_is)
    (case c_18 => k_is)
    (case k18 => k_is)
    (case a19 => k_is)
    (case l19 => k_is)
    (case c_19 => k_is)
    (case k19 => k_is)
    (case z0 => k_is)
    (case z1 => k_is)
    (case z2 => k_is)
    (case z3 => k_is)
    (case z4 => k_is)
    (case z5 => k_is)
    (case z6 => k_is)
    (case z7 => k_is)
    (case i0 => k_is)
    (case i1 => k_is)
    (case j0 => k_is)
    (case jl0 => k_is)
    (case jo0 => exact ⟨_, _, rfl, rfl, rfl, by decide, .cons ⟨_, rfl⟩ (.cons ⟨_, rfl⟩ (.cons ⟨_, rfl⟩ (.cons ⟨_, rfl⟩ .nil)))⟩)


