import PyProof.Rows.All
import Wide.All
import OpenK.AllK
import Wide.FinOn
import HandS.ForMost
import HandS.Wide
import HandS.IsInst
import HandS.Style
import HandS.Deep
import HandS.EndBits
import KE.DataCmp
import HandS.TupLe
import HandS.Text
import HandS.Strs
import HandS.TupAny
import PySem.Challenge.RW_rulestead_k01_values_rows_and_keys
set_option Elab.async false
set_option linter.all false
set_option maxRecDepth 100000
set_option  maxHeartbeats 4000000
/-! Ab: a calculus over HandS's readings in which data (lists, tuples of data that nobody changes any more) are plain values and only what may change stands in a small map. -/
namespace Ab
open PySem L2

/-! ### heaps -/
theorem same_new {H : Hp} {p : Addr} {o : HO} (h : H p = none) : Same H (upd H p o) := fun b u e => by
  rw [upd_ne (ne_of_none e h)]
  exact e
theorem same_rd {H H' : Hp} {a : Addr} {u : HO} (e : Same H H') (h : Rd H a u) : Rd H' a u := by
  rcases h with h | ⟨o, h⟩
  · exact .inl (e _ _ h)
  · exact .inr ⟨o, e _ _ h⟩
theorem same_l {K : PySem.W.Frag} {H H' : Hp} {a : Addr} {xs : List V} (e : Same H H') (h : SqL K H a xs) : SqL K H' a xs := by
  rcases h with h | h
  · exact .inl (same_rd e h)
  · exact .inr h
theorem same_t {K : PySem.W.Frag} {H H' : Hp} {a : Addr} {xs : List V} (e : Same H H') (h : SqT K H a xs) : SqT K H' a xs := by
  rcases h with h | h
  · exact .inl (same_rd e h)
  · exact .inr h
/-! data that stands in the heap: lists tracked (none of the module's own), tuples of any kind -/
mutual
inductive Dq (K : PySem.W.Frag) (H : Hp) : V → PyData → Prop
  | non : Dq K H .non .none
  | bl (b : Bool) : Dq K H (.bl b) (.bool b)
  | int (i : Int) : Dq K H (.int i) (.int i)
  | str (x : Str) : Dq K H (.str x) (.str x)
  | lst {a : Addr} {xs : List V} {ds : List PyData} : Rd H a (.lst xs) → DqAll K H xs ds → Dq K H (.ref a) (.list ds)
  | tup {a : Addr} {xs : List V} {ds : List PyData} : SqT K H a xs → DqAll K H xs ds → Dq K H (.ref a) (.tuple ds)
inductive DqAll (K : PySem.W.Frag) (H : Hp) : List V → List PyData → Prop
  | nil : DqAll K H [] []
  | cons {v : V} {vs : List V} {d : PyData} {ds : List PyData} : Dq K H v d → DqAll K H vs ds → DqAll K H (v :: vs) (d :: ds)
end
section
variable {K : PySem.W.Frag} {B B' : Hp}
mutual
theorem dq_dp : ∀ (d : PyData) (v : V), Dq K B v d → Dp K B v d
  | .none, _, h => by cases h; exact .non
  | .bool b, _, h => by cases h; exact .bl b
  | .int i, _, h => by cases h; exact .int i
  | .str x, _, h => by cases h; exact .str x
  | .list ds, _, h => by
    cases h with
    | lst hs ha => exact .lst (.inl hs) (dqa_dp ds _ ha)
  | .tuple ds, _, h => by
    cases h with
    | tup hs ha => exact .tup hs (dqa_dp ds _ ha)
  | .dict _, _, h => by cases h
theorem dqa_dp : ∀ (ds : List PyData) (vs : List V), DqAll K B vs ds → DpAll K B vs ds
  | [], _, h => by cases h; exact .nil
  | d :: ds, _, h => by
    cases h with
    | cons h1 h2 => exact .cons (dq_dp d _ h1) (dqa_dp ds _ h2)
end
mutual
theorem dp_same (e : Same B B') : ∀ (d : PyData) (v : V), Dq K B v d → Dq K B' v d
  | .none, _, h => by cases h; exact .non
  | .bool b, _, h => by cases h; exact .bl b
  | .int i, _, h => by cases h; exact .int i
  | .str x, _, h => by cases h; exact .str x
  | .list ds, _, h => by
    cases h with
    | lst hs ha => exact .lst (same_rd e hs) (dpa_same e ds _ ha)
  | .tuple ds, _, h => by
    cases h with
    | tup hs ha => exact .tup (same_t e hs) (dpa_same e ds _ ha)
  | .dict _, _, h => by cases h
theorem dpa_same (e : Same B B') : ∀ (ds : List PyData) (vs : List V), DqAll K B vs ds → DqAll K B' vs ds
  | [], _, h => by cases h; exact .nil
  | d :: ds, _, h => by
    cases h with
    | cons h1 h2 => exact .cons (dp_same e d _ h1) (dpa_same e ds _ h2)
end
end

/-! ### what a slot holds -/
inductive Sl where
  /-- data that nobody changes -/
  | dat (d : PyData)
  /-- just this value -/
  | raw (v : V)
  /-- what else is known of it, as long as things are only added -/
  | abs (P : Hp → V → Prop) (m : ∀ B B' v, Same B B' → P B v → P B' v)
abbrev Sl.int (i : Int) : Sl := .dat (.int i)
abbrev Sl.bl (b : Bool) : Sl := .dat (.bool b)
abbrev Sl.str (x : Str) : Sl := .dat (.str x)
abbrev Sl.non : Sl := .dat .none
abbrev Sl.ls (ds : List PyData) : Sl := .dat (.list ds)
abbrev Sl.tp (ds : List PyData) : Sl := .dat (.tuple ds)
abbrev Sl.ref (a : Addr) : Sl := .raw (.ref a)

def SlOk (K : PySem.W.Frag) (B : Hp) (v : V) : Sl → Prop
  | .dat d => Dq K B v d
  | .raw u => v = u
  | .abs P _ => P B v
section
variable {K : PySem.W.Frag} {B B' : Hp} {v : V} {s : Sl}
theorem SlOk.mono (e : Same B B') (h : SlOk K B v s) : SlOk K B' v s := by
  cases s with
  | dat d => exact dp_same e d v h
  | raw u => exact h
  | abs P m => exact m _ _ _ e h
theorem slok_int {i : Int} : SlOk K B (.int i) (.int i) := Dq.int i
theorem slok_bl {b : Bool} : SlOk K B (.bl b) (.bl b) := Dq.bl b
theorem slok_str {x : Str} : SlOk K B (.str x) (.str x) := Dq.str x
theorem slok_non : SlOk K B .non .non := Dq.non
theorem slok_ref {a : Addr} : SlOk K B (.ref a) (.ref a) := rfl
theorem of_int {i : Int} (h : SlOk K B v (.int i)) : v = .int i := by cases h; rfl
theorem of_bl {b : Bool} (h : SlOk K B v (.bl b)) : v = .bl b := by cases h; rfl
theorem of_str {x : Str} (h : SlOk K B v (.str x)) : v = .str x := by cases h; rfl
theorem of_non (h : SlOk K B v .non) : v = .non := by cases h; rfl
abbrev SlAll (K : PySem.W.Frag) (B : Hp) : List V → List Sl → Prop := Paired fun v s => SlOk K B v s
theorem SlAll.mono (e : Same B B') {vs : List V} {ss : List Sl} (h : SlAll K B vs ss) : SlAll K B' vs ss := Paired.mapP h fun _ _ q => q.mono e
theorem sla_dat : ∀ {vs : List V} {ds : List PyData}, DqAll K B vs ds → SlAll K B vs (ds.map .dat)
  | _, _, .nil => .nil
  | _, _, .cons h t => .cons h (sla_dat t)
theorem dpa_of : ∀ {vs : List V} {ds : List PyData}, SlAll K B vs (ds.map .dat) → DqAll K B vs ds
  | _, [], .nil => .nil
  | _, _ :: _, .cons h t => .cons h (dpa_of t)
theorem DqAll.length : ∀ {vs : List V} {ds : List PyData}, DqAll K B vs ds → vs.length = ds.length
  | _, _, .nil => rfl
  | _, _, .cons _ t => congrArg (· + 1) (DqAll.length t)
theorem DqAll.app : ∀ {vs ws : List V} {ds es : List PyData}, DqAll K B vs ds → DqAll K B ws es → DqAll K B (vs ++ ws) (ds ++ es)
  | _, _, _, _, .nil, h => h
  | _, _, _, _, .cons h t, h' => .cons h (DqAll.app t h')
theorem DqAll.take : ∀ (n : Nat) {vs : List V} {ds : List PyData}, DqAll K B vs ds → DqAll K B (vs.take n) (ds.take n)
  | 0, _, _, _ => .nil
  | _ + 1, _, _, .nil => .nil
  | n + 1, _, _, .cons h t => .cons h (DqAll.take n t)
theorem DqAll.drop : ∀ (n : Nat) {vs : List V} {ds : List PyData}, DqAll K B vs ds → DqAll K B (vs.drop n) (ds.drop n)
  | 0, _, _, h => h
  | _ + 1, _, _, .nil => .nil
  | n + 1, _, _, .cons _ t => DqAll.drop n t
theorem DqAll.get : ∀ {i : Nat} {vs : List V} {ds : List PyData} {d : PyData}, DqAll K B vs ds → ds[i]? = some d → ∃ v, vs[i]? = some v ∧ Dq K B v d
  | _, _, _, _, .nil, e => by simp at e
  | 0, _, _, _, .cons h _, e => by simp at e; subst e; exact ⟨_, rfl, h⟩
  | i + 1, _, _, _, .cons _ t, e => by
    obtain ⟨v, h1, h2⟩ := DqAll.get (i := i) t (by simpa using e)
    exact ⟨v, by simpa using h1, h2⟩
theorem SlAll.get : ∀ {i : Nat} {vs : List V} {ss : List Sl} {s : Sl}, SlAll K B vs ss → ss[i]? = some s → ∃ v, vs[i]? = some v ∧ SlOk K B v s
  | _, _, _, _, .nil, e => by simp at e
  | 0, _, _, _, .cons h _, e => by simp at e; subst e; exact ⟨_, rfl, h⟩
  | i + 1, _, _, _, .cons _ t, e => by
    obtain ⟨v, h1, h2⟩ := SlAll.get (i := i) t (by simpa using e)
    exact ⟨v, by simpa using h1, h2⟩
theorem SlAll.setI {v : V} {s : Sl} (r : SlOk K B v s) : ∀ (i : Nat) {vs : List V} {ss : List Sl}, SlAll K B vs ss → SlAll K B (vs.set i v) (ss.set i s)
  | _, _, _, .nil => .nil
  | 0, _, _, .cons _ t => .cons r t
  | i + 1, _, _, .cons q t => .cons q (SlAll.setI r i t)
theorem SlAll.app : ∀ {vs ws : List V} {ds es : List Sl}, SlAll K B vs ds → SlAll K B ws es → SlAll K B (vs ++ ws) (ds ++ es)
  | _, _, _, _, .nil, h => h
  | _, _, _, _, .cons h t, h' => .cons h (SlAll.app t h')
end

/-! ### the frame -/
abbrev Rho := List (Option Sl)
def Rl (K : PySem.W.Frag) (B : Hp) : L2.St → Rho → Prop
  | [], [] => True
  | x :: σ, y :: ρ => (∀ s, y = some s → ∃ v, x = some v ∧ SlOk K B v s) ∧ Rl K B σ ρ
  | _, _ => False
section
variable {K : PySem.W.Frag} {B B' : Hp}
theorem Rl.mono (e : Same B B') : ∀ {σ : L2.St} {ρ : Rho}, Rl K B σ ρ → Rl K B' σ ρ
  | [], [], _ => trivial
  | _ :: _, _ :: _, ⟨h, t⟩ => ⟨fun s q => let ⟨v, e1, e2⟩ := h s q; ⟨v, e1, e2.mono e⟩, Rl.mono e t⟩
theorem Rl.get : ∀ {i : Nat} {σ : L2.St} {ρ : Rho} {s : Sl}, Rl K B σ ρ → ρ[i]? = some (some s) → ∃ v, σ[i]? = some (some v) ∧ SlOk K B v s
  | _, [], [], _, _, e => by simp at e
  | 0, _ :: _, _ :: _, s, ⟨h, _⟩, e => by
    obtain ⟨v, e1, e2⟩ := h s (by simpa using e)
    exact ⟨v, by rw [e1]; rfl, e2⟩
  | i + 1, _ :: _, _ :: _, s, ⟨_, t⟩, e => by
    obtain ⟨v, h1, h2⟩ := Rl.get (i := i) t (by simpa using e)
    exact ⟨v, by simpa using h1, h2⟩
theorem Rl.put {v : V} {s : Sl} (r : SlOk K B v s) : ∀ (i : Nat) {σ : L2.St} {ρ : Rho}, Rl K B σ ρ → Rl K B (σ.set i (some v)) (ρ.set i (some s))
  | _, [], [], _ => trivial
  | 0, _ :: _, _ :: _, ⟨_, t⟩ => ⟨fun s' q => (by cases q; exact ⟨v, rfl, r⟩), t⟩
  | i + 1, _ :: _, _ :: _, ⟨h, t⟩ => ⟨h, Rl.put r i t⟩
theorem Rl.non : ∀ (i : Nat) {σ : L2.St} {ρ : Rho}, Rl K B σ ρ → Rl K B (σ.set i none) (ρ.set i none)
  | _, [], [], _ => trivial
  | 0, _ :: _, _ :: _, ⟨_, t⟩ => ⟨fun s' q => (by cases q), t⟩
  | i + 1, _ :: _, _ :: _, ⟨h, t⟩ => ⟨h, Rl.non i t⟩
/-- less may be known -/
theorem Rl.less : ∀ (i : Nat) {σ : L2.St} {ρ : Rho}, Rl K B σ ρ → Rl K B σ (ρ.set i none)
  | _, [], [], _ => trivial
  | 0, _ :: _, _ :: _, ⟨_, t⟩ => ⟨fun s' q => (by simp at q), t⟩
  | i + 1, _ :: _, _ :: _, ⟨h, t⟩ => ⟨h, Rl.less i t⟩
def wipeR (ρ : Rho) : List Nat → Rho
  | [] => ρ
  | v :: vs => (wipeR ρ vs).set v none
theorem Rl.wiped {σ : L2.St} {ρ : Rho} (h : Rl K B σ ρ) : ∀ vs : List Nat, Rl K B (wipe σ vs) (wipeR ρ vs)
  | [] => h
  | v :: vs => Rl.non v (Rl.wiped h vs)
theorem rl_start : ∀ {vs : List V} {ss : List Sl} (n : Nat), SlAll K B vs ss → Rl K B (vs.map some ++ List.replicate n none) (ss.map some ++ List.replicate n none)
  | _, _, n, .nil => by
    show Rl K B (List.replicate n none) (List.replicate n none)
    induction n with
    | zero => trivial
    | succ n ih => exact ⟨fun s q => (by cases q), ih⟩
  | _, _, n, .cons h t => ⟨fun s q => (by cases q; exact ⟨_, rfl, h⟩), rl_start n t⟩
/-- what is known of a frame stands in another list of what is known, slot by slot -/
theorem wipe_set (σ : L2.St) (x : Option V) : ∀ (vs : List Nat) (j : Nat), j ∈ vs → wipe (σ.set j x) vs = wipe σ vs
  | [], _, h => by cases h
  | v :: vs, j, h => by
    show (wipe (σ.set j x) vs).set v none = (wipe σ vs).set v none
    by_cases hj : j ∈ vs
    · rw [wipe_set σ x vs j hj]
    · have e : j = v := by
        rcases List.mem_cons.mp h with h | h
        · exact h
        · exact absurd h hj
      subst e
      have out : ∀ (vs : List Nat) (σ : L2.St), j ∉ vs → wipe (σ.set j x) vs = (wipe σ vs).set j x := by
        intro vs
        induction vs with
        | nil => intro σ _; rfl
        | cons w ws ih =>
          intro σ hn
          have h1 : j ≠ w := fun e => hn (by rw [e]; exact List.mem_cons_self)
          have h2 : j ∉ ws := fun e => hn (List.mem_cons_of_mem _ e)
          show (wipe (σ.set j x) ws).set w none = ((wipe σ ws).set w none).set j x
          rw [ih σ h2, List.set_comm _ _ h1]
      rw [out vs σ hj, List.set_set]
theorem wipe_wipe (σ : L2.St) : ∀ (vs : List Nat), wipe (wipe σ vs) vs = wipe σ vs
  | [] => rfl
  | v :: vs => by
    show (wipe ((wipe σ vs).set v none) vs).set v none = (wipe σ vs).set v none
    by_cases hv : v ∈ vs
    · rw [wipe_set _ _ vs v hv, wipe_wipe σ vs]
    · have out : ∀ (vs : List Nat) (σ : L2.St), v ∉ vs → wipe (σ.set v none) vs = (wipe σ vs).set v none := by
        intro vs
        induction vs with
        | nil => intro σ _; rfl
        | cons w ws ih =>
          intro σ hn
          have h1 : v ≠ w := fun e => hn (by rw [e]; exact List.mem_cons_self)
          have h2 : v ∉ ws := fun e => hn (List.mem_cons_of_mem _ e)
          show (wipe (σ.set v none) ws).set w none = ((wipe σ ws).set w none).set v none
          rw [ih σ h2, List.set_comm _ _ h1]
      rw [out vs _ hv, wipe_wipe σ vs, List.set_set]
end

/-! ### what may change -/
inductive MO where
  | lst (xs : List Sl)
  | dK (kvs : List (Key × Sl))
  | ins (C dx : Addr) (fs : List (Str × Sl))
  | ho (o : HO)
abbrev MH := Addr → Option MO
def um (M : MH) (a : Addr) (o : MO) : MH := fun b => if b = a then some o else M b
def del (M : MH) (a : Addr) : MH := fun b => if b = a then none else M b
theorem um_same {M : MH} {a : Addr} {o : MO} : um M a o a = some o := by unfold um; rw [if_pos rfl]
theorem um_ne {M : MH} {a b : Addr} {o : MO} (h : b ≠ a) : um M a o b = M b := by unfold um; rw [if_neg h]
theorem um_um {M : MH} {a : Addr} {o u : MO} : um (um M a o) a u = um M a u := by
  funext b; unfold um; split <;> rfl
theorem um_id {M : MH} {a : Addr} {o : MO} (h : M a = some o) : um M a o = M := by
  funext b
  by_cases e : b = a
  · subst e; rw [um_same, h]
  · rw [um_ne e]
theorem um_comm {M : MH} {a b : Addr} {o u : MO} (h : a ≠ b) : um (um M a o) b u = um (um M b u) a o := by
  funext c
  by_cases e1 : c = a
  · subst e1
    rw [um_ne h, um_same, um_same]
  · by_cases e2 : c = b
    · subst e2
      rw [um_same, um_ne e1, um_same]
    · rw [um_ne e2, um_ne e1, um_ne e1, um_ne e2]
theorem del_same {M : MH} {a : Addr} : del M a a = none := by unfold del; rw [if_pos rfl]
theorem del_ne {M : MH} {a b : Addr} (h : b ≠ a) : del M a b = M b := by unfold del; rw [if_neg h]
theorem del_um {M : MH} {a : Addr} {o : MO} (h : M a = none) : del (um M a o) a = M := by
  funext b
  by_cases e : b = a
  · subst e; rw [del_same, h]
  · rw [del_ne e, um_ne e]
theorem mne {M : MH} {a b : Addr} {o : MO} (h : M a = some o) (h' : M b = none) : a ≠ b := by
  intro e; subst e; rw [h] at h'; cases h'
abbrev SlKs {κ : Type} (K : PySem.W.Frag) (B : Hp) : List (κ × V) → List (κ × Sl) → Prop := Paired fun p q => p.1 = q.1 ∧ SlOk K B p.2 q.2
def MOk (K : PySem.W.Frag) (B : Hp) (u : HO) : MO → Prop
  | .lst xs => ∃ vs, u = .lst vs ∧ SlAll K B vs xs
  | .dK kvs => ∃ vs, u = .dK vs ∧ SlKs K B vs kvs
  | .ins C dx fs => ∃ vs, u = .ins C dx vs ∧ SlKs K B vs fs
  | .ho o => u = o
theorem MOk.mono {K : PySem.W.Frag} {B B' : Hp} (e : Same B B') {u : HO} {o : MO} (h : MOk K B u o) : MOk K B' u o := by
  cases o with
  | lst xs => obtain ⟨vs, h1, h2⟩ := h; exact ⟨vs, h1, h2.mono e⟩
  | dK xs => obtain ⟨vs, h1, h2⟩ := h; exact ⟨vs, h1, Paired.mapP h2 fun _ _ q => ⟨q.1, q.2.mono e⟩⟩
  | ins C dx xs => obtain ⟨vs, h1, h2⟩ := h; exact ⟨vs, h1, Paired.mapP h2 fun _ _ q => ⟨q.1, q.2.mono e⟩⟩
  | ho o => exact h
structure Sep (K : PySem.W.Frag) (B : Hp) (M : MH) (H : Hp) : Prop where
  sub : Same B H
  has : ∀ a o, M a = some o → B a = none ∧ ∃ u, H a = some u ∧ MOk K B u o
section
variable {K : PySem.W.Frag} {B H : Hp} {M : MH}
theorem Sep.freeB (S : Sep K B M H) {p : Addr} (h : H p = none) : B p = none := S.sub.free h
theorem Sep.freeM (S : Sep K B M H) {p : Addr} (h : H p = none) : M p = none := by
  cases e : M p with
  | none => rfl
  | some o =>
    obtain ⟨_, u, hu, _⟩ := S.has p o e
    rw [h] at hu; cases hu
/-- a new object that nobody will change -/
theorem Sep.alloc (S : Sep K B M H) {p : Addr} {o : HO} (h : H p = none) : Sep K (upd B p o) M (upd H p o) := by
  have hB := S.freeB h
  refine ⟨fun b u e => ?_, fun a u e => ?_⟩
  · by_cases hb : b = p
    · subst hb; rw [upd_same] at e ⊢; exact e
    · rw [upd_ne hb] at e ⊢; exact S.sub b u e
  · obtain ⟨h1, w, h2, h3⟩ := S.has a u e
    have hne : a ≠ p := ne_of_none h2 h
    exact ⟨by rw [upd_ne hne]; exact h1, w, by rw [upd_ne hne]; exact h2, h3.mono (same_new hB)⟩
/-- a new object that may be changed -/
theorem Sep.new (S : Sep K B M H) {p : Addr} {u : HO} {o : MO} (h : H p = none) (ok : MOk K B u o) : Sep K B (um M p o) (upd H p u) := by
  have hB := S.freeB h
  refine ⟨fun b w e => ?_, fun a w e => ?_⟩
  · rw [upd_ne (ne_of_none e hB)]; exact S.sub b w e
  · by_cases ha : a = p
    · subst ha
      rw [um_same] at e; cases e
      exact ⟨hB, u, upd_same, ok⟩
    · rw [um_ne ha] at e
      obtain ⟨h1, w', h2, h3⟩ := S.has a w e
      exact ⟨h1, w', by rw [upd_ne ha]; exact h2, h3⟩
/-- it is changed -/
theorem Sep.put (S : Sep K B M H) {p : Addr} {u : HO} {o o' : MO} (h : M p = some o) (ok : MOk K B u o') : Sep K B (um M p o') (upd H p u) := by
  obtain ⟨hB, _, _, _⟩ := S.has p o h
  refine ⟨fun b w e => ?_, fun a w e => ?_⟩
  · rw [upd_ne (ne_of_none e hB)]; exact S.sub b w e
  · by_cases ha : a = p
    · subst ha
      rw [um_same] at e; cases e
      exact ⟨hB, u, upd_same, ok⟩
    · rw [um_ne ha] at e
      obtain ⟨h1, w', h2, h3⟩ := S.has a w e
      exact ⟨h1, w', by rw [upd_ne ha]; exact h2, h3⟩
/-- it will not be changed any more -/
theorem Sep.freeze (S : Sep K B M H) {p : Addr} {u : HO} {o : MO} (h : M p = some o) (hu : H p = some u) : Sep K (upd B p u) (del M p) H := by
  obtain ⟨hB, _, _, _⟩ := S.has p o h
  refine ⟨fun b w e => ?_, fun a w e => ?_⟩
  · by_cases hb : b = p
    · subst hb; rw [upd_same] at e; cases e; exact hu
    · rw [upd_ne hb] at e; exact S.sub b w e
  · by_cases ha : a = p
    · subst ha; rw [del_same] at e; cases e
    · rw [del_ne ha] at e
      obtain ⟨h1, w', h2, h3⟩ := S.has a w e
      exact ⟨by rw [upd_ne ha]; exact h1, w', h2, h3.mono (same_new hB)⟩
/-- less may be said -/
theorem Sep.drop (S : Sep K B M H) {p : Addr} : Sep K B (del M p) H := ⟨S.sub, fun a o e => by
  by_cases ha : a = p
  · subst ha; rw [del_same] at e; cases e
  · rw [del_ne ha] at e; exact S.has a o e⟩
theorem Sep.sub' (S : Sep K B M H) {M' : MH} (h : ∀ a o, M' a = some o → M a = some o) : Sep K B M' H := ⟨S.sub, fun a o e => S.has a o (h a o e)⟩
end

/-! ### lists and tuples that are read -/
/-- a list that is read: data, or one that may change -/
def LsV (K : PySem.W.Frag) (s : Sl) (M : MH) (xs : List Sl) : Prop := (∃ ds, s = .dat (.list ds) ∧ xs = ds.map .dat) ∨ (∃ a, s = .raw (.ref a) ∧ M a = some (.lst xs)) ∨ ∃ a vs, s = .raw (.ref a) ∧ (∀ H, SqL K H a vs) ∧ ∀ B, SlAll K B vs xs
def TpV (s : Sl) (xs : List Sl) : Prop := ∃ ds, s = .dat (.tuple ds) ∧ xs = ds.map .dat
theorem lsv_dat {K : PySem.W.Frag} {ds : List PyData} {M : MH} : LsV K (.dat (.list ds)) M (ds.map .dat) := .inl ⟨ds, rfl, rfl⟩
theorem lsv_ref {K : PySem.W.Frag} {a : Addr} {M : MH} {xs : List Sl} (h : M a = some (.lst xs)) : LsV K (.raw (.ref a)) M xs := .inr (.inl ⟨a, rfl, h⟩)
theorem tpv_dat {ds : List PyData} : TpV (.dat (.tuple ds)) (ds.map .dat) := ⟨ds, rfl, rfl⟩
section
variable {K : PySem.W.Frag} {B H : Hp} {M : MH} {v : V} {s : Sl} {xs : List Sl}
theorem LsV.get (h : LsV K s M xs) (S : Sep K B M H) (o : SlOk K B v s) : ∃ a vs, v = .ref a ∧ SqL K H a vs ∧ SlAll K B vs xs := by
  rcases h with ⟨ds, rfl, rfl⟩ | ⟨a, rfl, e⟩ | ⟨a, vs, rfl, h1, h2⟩
  · cases o with
    | lst hs ha => exact ⟨_, _, rfl, .inl (same_rd S.sub hs), sla_dat ha⟩
  · obtain ⟨_, u, hu, vs, rfl, ha⟩ := S.has a _ e
    exact ⟨a, vs, o, SqL.of hu, ha⟩
  · exact ⟨a, vs, o, h1 H, h2 B⟩
/-- a list that is no constant of the module -/
def LsR (s : Sl) (M : MH) (xs : List Sl) : Prop := (∃ ds, s = .dat (.list ds) ∧ xs = ds.map .dat) ∨ ∃ a, s = .raw (.ref a) ∧ M a = some (.lst xs)
theorem lsr_dat {ds : List PyData} {M : MH} : LsR (.dat (.list ds)) M (ds.map .dat) := .inl ⟨ds, rfl, rfl⟩
theorem lsr_ref {a : Addr} {M : MH} {xs : List Sl} (h : M a = some (.lst xs)) : LsR (.raw (.ref a)) M xs := .inr ⟨a, rfl, h⟩
theorem LsR.get (h : LsR s M xs) (S : Sep K B M H) (o : SlOk K B v s) : ∃ a vs, v = .ref a ∧ Rd H a (.lst vs) ∧ SlAll K B vs xs := by
  rcases h with ⟨ds, rfl, rfl⟩ | ⟨a, rfl, e⟩
  · cases o with
    | lst hs ha => exact ⟨_, _, rfl, same_rd S.sub hs, sla_dat ha⟩
  · obtain ⟨_, u, hu, vs, rfl, ha⟩ := S.has a _ e
    exact ⟨a, vs, o, Rd.of hu, ha⟩
theorem TpV.get (h : TpV s xs) (S : Sep K B M H) (o : SlOk K B v s) : ∃ a vs, v = .ref a ∧ SqT K H a vs ∧ SlAll K B vs xs := by
  obtain ⟨ds, rfl, rfl⟩ := h
  cases o with
  | tup hs ha => exact ⟨_, _, rfl, same_t S.sub hs, sla_dat ha⟩
theorem SlAll.len {vs : List V} (h : SlAll K B vs xs) : vs.length = xs.length := Paired.length h
end

/-! ### the calculus -/
def W (K : PySem.W.Frag) (te : TE) (ρ : Rho) (M : MH) (Q : Sl → MH → Prop) : Prop :=
  ∀ σ B H, Rl K B σ ρ → Sep K B M H → ∀ Q0 : VK, (∀ s v M' B' H', Q s M' → Same B B' → Sep K B' M' H' → SlOk K B' v s → Q0 v H') → te σ H Q0
def WT (K : PySem.W.Frag) (te : TT) (ρ : Rho) (M : MH) (Q : Bool → MH → Prop) : Prop :=
  ∀ σ B H, Rl K B σ ρ → Sep K B M H → ∀ Q0 : Bool → Hp → Prop, (∀ b M' B' H', Q b M' → Same B B' → Sep K B' M' H' → Q0 b H') → te σ H Q0
def WA (K : PySem.W.Frag) (te : TA) (ρ : Rho) (M : MH) (Q : List Sl → MH → Prop) : Prop :=
  ∀ σ B H, Rl K B σ ρ → Sep K B M H → ∀ Q0 : List V → Hp → Prop, (∀ ss vs M' B' H', Q ss M' → Same B B' → Sep K B' M' H' → SlAll K B' vs ss → Q0 vs H') → te σ H Q0
def WO (K : PySem.W.Frag) (te : TO) (ρ : Rho) (M : MH) (Q : Option Int → MH → Prop) : Prop :=
  ∀ σ B H, Rl K B σ ρ → Sep K B M H → ∀ Q0 : Option Int → Hp → Prop, (∀ b M' B' H', Q b M' → Same B B' → Sep K B' M' H' → Q0 b H') → te σ H Q0
/-- operations on values -/
def W2 (K : PySem.W.Frag) (r : R2) (x y : Sl) (M : MH) (Q : Sl → MH → Prop) : Prop :=
  ∀ B H v w, Sep K B M H → SlOk K B v x → SlOk K B w y → ∀ Q0 : VK, (∀ s z M' B' H', Q s M' → Same B B' → Sep K B' M' H' → SlOk K B' z s → Q0 z H') → r v w H Q0
def W1 (K : PySem.W.Frag) (r : V → Hp → VK → Prop) (x : Sl) (M : MH) (Q : Sl → MH → Prop) : Prop :=
  ∀ B H v, Sep K B M H → SlOk K B v x → ∀ Q0 : VK, (∀ s z M' B' H', Q s M' → Same B B' → Sep K B' M' H' → SlOk K B' z s → Q0 z H') → r v H Q0
def WL (K : PySem.W.Frag) (r : List V → Hp → VK → Prop) (xs : List Sl) (M : MH) (Q : Sl → MH → Prop) : Prop :=
  ∀ B H vs, Sep K B M H → SlAll K B vs xs → ∀ Q0 : VK, (∀ s z M' B' H', Q s M' → Same B B' → Sep K B' M' H' → SlOk K B' z s → Q0 z H') → r vs H Q0
def WM (K : PySem.W.Frag) (r : V → List V → Hp → VK → Prop) (x : Sl) (xs : List Sl) (M : MH) (Q : Sl → MH → Prop) : Prop :=
  ∀ B H v vs, Sep K B M H → SlOk K B v x → SlAll K B vs xs → ∀ Q0 : VK, (∀ s z M' B' H', Q s M' → Same B B' → Sep K B' M' H' → SlOk K B' z s → Q0 z H') → r v vs H Q0
def WSl (K : PySem.W.Frag) (r : V → Option Int → Option Int → Hp → VK → Prop) (x : Sl) (lo hi : Option Int) (M : MH) (Q : Sl → MH → Prop) : Prop :=
  ∀ B H v, Sep K B M H → SlOk K B v x → ∀ Q0 : VK, (∀ s z M' B' H', Q s M' → Same B B' → Sep K B' M' H' → SlOk K B' z s → Q0 z H') → r v lo hi H Q0
/-- targets -/
def WG (K : PySem.W.Frag) (g : TG) (x : Sl) (ρ : Rho) (M : MH) (Q : Rho → MH → Prop) : Prop :=
  ∀ σ B H v, Rl K B σ ρ → Sep K B M H → SlOk K B v x → ∀ Q0 : L2.St → Hp → Prop, (∀ ρ' M' σ' B' H', Q ρ' M' → Same B B' → Rl K B' σ' ρ' → Sep K B' M' H' → Q0 σ' H') → g v σ H Q0
/-- statements -/
structure AE where
  nx : Rho → MH → Prop
  rt : Sl → MH → Prop
  bk : Rho → MH → Prop
  ct : Rho → MH → Prop
def NoR : Rho → MH → Prop := fun _ _ => False
def WS (K : PySem.W.Frag) (t : TS) (ρ : Rho) (M : MH) (P : AE) : Prop :=
  ∀ σ B H D, Rl K B σ ρ → Sep K B M H →
    (∀ ρ' M' σ' B' H', P.nx ρ' M' → Same B B' → Rl K B' σ' ρ' → Sep K B' M' H' → D.nx σ' H') →
    (∀ s v M' B' H', P.rt s M' → Same B B' → Sep K B' M' H' → SlOk K B' v s → D.rt v H') →
    (∀ ρ' M' σ' B' H', P.bk ρ' M' → Same B B' → Rl K B' σ' ρ' → Sep K B' M' H' → D.bk σ' H') →
    (∀ ρ' M' σ' B' H', P.ct ρ' M' → Same B B' → Rl K B' σ' ρ' → Sep K B' M' H' → D.ct σ' H') → t D σ H

section
variable {K : PySem.W.Frag} {ρ : Rho} {M : MH} {Q Q' : Sl → MH → Prop} {ta tb te tc : TE} {r r' : R2} {P : AE}
theorem W.imp (h : W K te ρ M Q) (k : ∀ s M', Q s M' → Q' s M') : W K te ρ M Q' := fun σ B H hR hS Q0 q => h σ B H hR hS Q0 fun s v M' B' H' z => q s v M' B' H' (k _ _ z)
theorem WS.imp {t : TS} {P' : AE} (h : WS K t ρ M P) (h1 : ∀ ρ' M', P.nx ρ' M' → P'.nx ρ' M') (h2 : ∀ s M', P.rt s M' → P'.rt s M') (h3 : ∀ ρ' M', P.bk ρ' M' → P'.bk ρ' M') (h4 : ∀ ρ' M', P.ct ρ' M' → P'.ct ρ' M') : WS K t ρ M P' :=
  fun σ B H D hR hS a b c d => h σ B H D hR hS (fun ρ' M' σ' B' H' z => a ρ' M' σ' B' H' (h1 _ _ z)) (fun s v M' B' H' z => b s v M' B' H' (h2 _ _ z)) (fun ρ' M' σ' B' H' z => c ρ' M' σ' B' H' (h3 _ _ z)) (fun ρ' M' σ' B' H' z => d ρ' M' σ' B' H' (h4 _ _ z))
theorem w_var {i : Nat} {s : Sl} (h : ρ[i]? = some (some s)) (q : Q s M) : W K (tVar i) ρ M Q := fun σ B H hR hS Q0 k => by
  obtain ⟨v, e, o⟩ := hR.get h
  exact ⟨v, e, k s v M B H q (Same.refl B) hS o⟩
theorem w_int {i : Int} (q : Q (.int i) M) : W K (tC (.int i)) ρ M Q := fun σ B H hR hS Q0 k => k _ _ M B H q (Same.refl B) hS slok_int
theorem w_str {x : Str} (q : Q (.str x) M) : W K (tC (.str x)) ρ M Q := fun σ B H hR hS Q0 k => k _ _ M B H q (Same.refl B) hS slok_str
theorem w_bl {b : Bool} (q : Q (.bl b) M) : W K (tC (.bl b)) ρ M Q := fun σ B H hR hS Q0 k => k _ _ M B H q (Same.refl B) hS slok_bl
theorem w_non (q : Q .non M) : W K (tC .non) ρ M Q := fun σ B H hR hS Q0 k => k _ _ M B H q (Same.refl B) hS slok_non
theorem w_raw {v : V} (q : Q (.raw v) M) : W K (tC v) ρ M Q := fun σ B H hR hS Q0 k => k (.raw v) v M B H q (Same.refl B) hS rfl
/-- a constant of the module that is data -/
theorem w_cdat {v : V} {d : PyData} (h : ∀ B, Dq K B v d) (q : Q (.dat d) M) : W K (tC v) ρ M Q := fun σ B H hR hS Q0 k => k (.dat d) v M B H q (Same.refl B) hS (h B)
theorem w_op (h : W K ta ρ M fun x M1 => W K tb ρ M1 fun y M2 => W2 K r x y M2 Q) : W K (tOp r ta tb) ρ M Q := fun σ B H hR hS Q0 k =>
  h σ B H hR hS _ fun x v M1 B1 H1 hb e1 S1 o1 => hb σ B1 H1 (hR.mono e1) S1 _ fun y w M2 B2 H2 hr e2 S2 o2 =>
    hr B2 H2 v w S2 (o1.mono e2) o2 Q0 fun s z M3 B3 H3 q e3 S3 o3 => k s z M3 B3 H3 q ((e1.trans e2).trans e3) S3 o3
theorem w_un {r : V → Hp → VK → Prop} (h : W K ta ρ M fun x M1 => W1 K r x M1 Q) : W K (tUn r ta) ρ M Q := fun σ B H hR hS Q0 k =>
  h σ B H hR hS _ fun x v M1 B1 H1 hr e1 S1 o1 => hr B1 H1 v S1 o1 Q0 fun s z M3 B3 H3 q e3 S3 o3 => k s z M3 B3 H3 q (e1.trans e3) S3 o3
theorem wa_nil {Q : List Sl → MH → Prop} (q : Q [] M) : WA K tNil ρ M Q := fun σ B H hR hS Q0 k => k [] [] M B H q (Same.refl B) hS .nil
theorem wa_cons {tr : TA} {Q : List Sl → MH → Prop} (h : W K ta ρ M fun x M1 => WA K tr ρ M1 fun xs M2 => Q (x :: xs) M2) : WA K (tCons ta tr) ρ M Q := fun σ B H hR hS Q0 k =>
  h σ B H hR hS _ fun x v M1 B1 H1 hb e1 S1 o1 => hb σ B1 H1 (hR.mono e1) S1 _ fun xs vs M2 B2 H2 q e2 S2 o2 =>
    k (x :: xs) (v :: vs) M2 B2 H2 q (e1.trans e2) S2 (.cons (o1.mono e2) o2)
/-- a built-in called -/
theorem w_cb {t : TA} {r : List V → Hp → VK → Prop} (h : WA K t ρ M fun xs M1 => WL K r xs M1 Q) : W K (tCB r t) ρ M Q := fun σ B H hR hS Q0 k =>
  h σ B H hR hS _ fun xs vs M1 B1 H1 hr e1 S1 o1 => hr B1 H1 vs S1 o1 Q0 fun s z M3 B3 H3 q e3 S3 o3 => k s z M3 B3 H3 q (e1.trans e3) S3 o3
/-- a tuple, a list of data -/
theorem w_tup {t : TA} (h : WA K t ρ M fun xs M1 => ∃ ds, xs = ds.map .dat ∧ ds.length ≤ 100000 ∧ Q (.dat (.tuple ds)) M1) : W K (tTup t) ρ M Q := fun σ B H hR hS Q0 k =>
  h σ B H hR hS _ fun xs vs M1 B1 H1 ⟨ds, e, hl, q⟩ e1 S1 o1 => by
    subst e
    have hd := dpa_of o1
    have hlen := DqAll.length hd
    exact ⟨Nat.le_trans (by omega) (show 100000 ≤ sizeLine by decide), fun p hp => k _ _ M1 (upd B1 p (.tup vs)) _ q (e1.trans (same_new (S1.freeB hp))) (S1.alloc hp) (Dq.tup (SqT.of upd_same) (dpa_same (same_new (S1.freeB hp)) _ _ hd))⟩
theorem w_lst {t : TA} (h : WA K t ρ M fun xs M1 => ∃ ds, xs = ds.map .dat ∧ ds.length ≤ 100000 ∧ Q (.dat (.list ds)) M1) : W K (tLst t) ρ M Q := fun σ B H hR hS Q0 k =>
  h σ B H hR hS _ fun xs vs M1 B1 H1 ⟨ds, e, hl, q⟩ e1 S1 o1 => by
    subst e
    have hd := dpa_of o1
    have hlen := DqAll.length hd
    exact ⟨Nat.le_trans (by omega) (show 100000 ≤ sizeLine by decide), fun p hp => k _ _ M1 (upd B1 p (.lst vs)) _ q (e1.trans (same_new (S1.freeB hp))) (S1.alloc hp) (Dq.lst (Rd.of upd_same) (dpa_same (same_new (S1.freeB hp)) _ _ hd))⟩
/-- a list that will be changed -/
theorem w_lstM {t : TA} (h : WA K t ρ M fun xs M1 => xs.length ≤ 100000 ∧ ∀ p, M1 p = none → Q (.raw (.ref p)) (um M1 p (.lst xs))) : W K (tLst t) ρ M Q := fun σ B H hR hS Q0 k =>
  h σ B H hR hS _ fun xs vs M1 B1 H1 ⟨hl, q⟩ e1 S1 o1 => by
    have hlen := SlAll.len o1
    exact ⟨Nat.le_trans (by omega) (show 100000 ≤ sizeLine by decide), fun p hp => k _ _ _ B1 _ (q p (S1.freeM hp)) e1 (S1.new hp ⟨vs, rfl, o1⟩) rfl⟩
/-- tests -/
theorem wt_test {Q : Bool → MH → Prop} (h : W K te ρ M fun s M1 => ∃ b, s = .bl b ∧ Q b M1) : WT K (tTest te) ρ M Q := fun σ B H hR hS Q0 k =>
  h σ B H hR hS _ fun s v M1 B1 H1 ⟨b, e, q⟩ e1 S1 o1 => by
    subst e
    exact ⟨b, of_bl o1, k b M1 B1 H1 q e1 S1⟩
theorem wt_B {Q : Bool → MH → Prop} (h : W K te ρ M fun s M1 => ∃ b, s = .bl b ∧ Q b M1) : WT K (tB te) ρ M Q := fun σ B H hR hS Q0 k =>
  h σ B H hR hS _ fun s v M1 B1 H1 ⟨b, e, q⟩ e1 S1 o1 => by
    subst e
    exact ⟨b, of_bl o1, k b M1 B1 H1 q e1 S1⟩
theorem wt_and {t u : TT} {Q : Bool → MH → Prop} (h : WT K t ρ M fun b M1 => if b = true then WT K u ρ M1 Q else Q false M1) : WT K (tAnd t u) ρ M Q := fun σ B H hR hS Q0 k =>
  h σ B H hR hS _ fun b M1 B1 H1 q e1 S1 => by
    cases b with
    | true => exact q σ B1 H1 (hR.mono e1) S1 Q0 fun b2 M2 B2 H2 q2 e2 S2 => k b2 M2 B2 H2 q2 (e1.trans e2) S2
    | false => exact k false M1 B1 H1 q e1 S1
theorem wt_or {t u : TT} {Q : Bool → MH → Prop} (h : WT K t ρ M fun b M1 => if b = true then Q true M1 else WT K u ρ M1 Q) : WT K (tOr t u) ρ M Q := fun σ B H hR hS Q0 k =>
  h σ B H hR hS _ fun b M1 B1 H1 q e1 S1 => by
    cases b with
    | false => exact q σ B1 H1 (hR.mono e1) S1 Q0 fun b2 M2 B2 H2 q2 e2 S2 => k b2 M2 B2 H2 q2 (e1.trans e2) S2
    | true => exact k true M1 B1 H1 q e1 S1
theorem wt_not {t : TT} {Q : Bool → MH → Prop} (h : WT K t ρ M fun b M1 => Q (!b) M1) : WT K (tNot t) ρ M Q := fun σ B H hR hS Q0 k =>
  h σ B H hR hS _ fun b M1 B1 H1 q e1 S1 => k _ M1 B1 H1 q e1 S1
theorem w_if {t : TT} (h : WT K t ρ M fun b M1 => if b = true then W K ta ρ M1 Q else W K tb ρ M1 Q) : W K (tIf t ta tb) ρ M Q := fun σ B H hR hS Q0 k =>
  h σ B H hR hS _ fun b M1 B1 H1 q e1 S1 => by
    cases b with
    | true => exact q σ B1 H1 (hR.mono e1) S1 Q0 fun s v M2 B2 H2 q2 e2 S2 o2 => k s v M2 B2 H2 q2 (e1.trans e2) S2 o2
    | false => exact q σ B1 H1 (hR.mono e1) S1 Q0 fun s v M2 B2 H2 q2 e2 S2 o2 => k s v M2 B2 H2 q2 (e1.trans e2) S2 o2
theorem w_andV (h : W K ta ρ M fun s M1 => ∃ b, s = .bl b ∧ if b = true then W K tb ρ M1 Q else Q (.bl false) M1) : W K (tAndV ta tb) ρ M Q := fun σ B H hR hS Q0 k =>
  h σ B H hR hS _ fun s v M1 B1 H1 ⟨b, e, q⟩ e1 S1 o1 => by
    subst e
    refine ⟨b, of_bl o1, ?_⟩
    cases b with
    | true => exact q σ B1 H1 (hR.mono e1) S1 Q0 fun s v M2 B2 H2 q2 e2 S2 o2 => k s v M2 B2 H2 q2 (e1.trans e2) S2 o2
    | false => exact k _ _ M1 B1 H1 q e1 S1 slok_bl
theorem w_orV (h : W K ta ρ M fun s M1 => ∃ b, s = .bl b ∧ if b = true then Q (.bl true) M1 else W K tb ρ M1 Q) : W K (tOrV ta tb) ρ M Q := fun σ B H hR hS Q0 k =>
  h σ B H hR hS _ fun s v M1 B1 H1 ⟨b, e, q⟩ e1 S1 o1 => by
    subst e
    refine ⟨b, of_bl o1, ?_⟩
    cases b with
    | false => exact q σ B1 H1 (hR.mono e1) S1 Q0 fun s v M2 B2 H2 q2 e2 S2 o2 => k s v M2 B2 H2 q2 (e1.trans e2) S2 o2
    | true => exact k _ _ M1 B1 H1 q e1 S1 slok_bl
theorem w_notV (h : W K ta ρ M fun s M1 => ∃ b, s = .bl b ∧ Q (.bl (!b)) M1) : W K (tNotV ta) ρ M Q := fun σ B H hR hS Q0 k =>
  h σ B H hR hS _ fun s v M1 B1 H1 ⟨b, e, q⟩ e1 S1 o1 => by
    subst e
    exact ⟨b, of_bl o1, k _ _ M1 B1 H1 q e1 S1 slok_bl⟩
theorem w_chain (h : W K ta ρ M fun x M1 => W K tb ρ M1 fun y M2 => W2 K r x y M2 fun z M3 => ∃ b, z = .bl b ∧ if b = true then W K tc ρ M3 fun w M4 => W2 K r' y w M4 Q else Q (.bl false) M3) :
    W K (tChain r r' ta tb tc) ρ M Q := fun σ B H hR hS Q0 k =>
  h σ B H hR hS _ fun x v M1 B1 H1 hb e1 S1 o1 => hb σ B1 H1 (hR.mono e1) S1 _ fun y w M2 B2 H2 hr e2 S2 o2 =>
    hr B2 H2 v w S2 (o1.mono e2) o2 _ fun s z M3 B3 H3 ⟨b, eb, q⟩ e3 S3 o3 => by
      subst eb
      refine ⟨b, of_bl o3, ?_⟩
      cases b with
      | true =>
        show tc σ H3 _
        exact q σ B3 H3 (hR.mono ((e1.trans e2).trans e3)) S3 _ fun y' w' M4 B4 H4 q4 e4 S4 o4 => q4 B4 H4 w w' S4 (o2.mono (e3.trans e4)) o4 Q0 fun s5 z5 M5 B5 H5 q5 e5 S5 o5 => k s5 z5 M5 B5 H5 q5 ((((e1.trans e2).trans e3).trans e4).trans e5) S5 o5
      | false =>
        show Q0 (.bl false) H3
        exact k _ _ M3 B3 H3 q ((e1.trans e2).trans e3) S3 slok_bl
/-- slices -/
theorem wo_none {Q : Option Int → MH → Prop} (q : Q none M) : WO K tNoPart ρ M Q := fun σ B H hR hS Q0 k => k none M B H q (Same.refl B) hS
theorem wo_some {Q : Option Int → MH → Prop} (h : W K te ρ M fun s M1 => ∃ i, s = .int i ∧ Q (some i) M1) : WO K (tPart te) ρ M Q := fun σ B H hR hS Q0 k =>
  h σ B H hR hS _ fun s v M1 B1 H1 ⟨i, e, q⟩ e1 S1 o1 => by
    subst e
    exact ⟨i, of_int o1, k _ M1 B1 H1 q e1 S1⟩
theorem w_sl {r : V → Option Int → Option Int → Hp → VK → Prop} {tl th : TO} (h : W K te ρ M fun x M1 => WO K tl ρ M1 fun lo M2 => WO K th ρ M2 fun hi M3 => WSl K r x lo hi M3 Q) : W K (tSl r te tl th) ρ M Q := fun σ B H hR hS Q0 k =>
  h σ B H hR hS _ fun x v M1 B1 H1 h1 e1 S1 o1 => h1 σ B1 H1 (hR.mono e1) S1 _ fun lo M2 B2 H2 h2 e2 S2 => h2 σ B2 H2 (hR.mono (e1.trans e2)) S2 _ fun hi M3 B3 H3 h3 e3 S3 =>
    h3 B3 H3 v S3 (o1.mono (e2.trans e3)) Q0 fun s z M4 B4 H4 q e4 S4 o4 => k s z M4 B4 H4 q (((e1.trans e2).trans e3).trans e4) S4 o4
/-- methods of built-in types -/
theorem w_bm {T : String} {r : V → List V → Hp → VK → Prop} {t : TA} (h : W K ta ρ M fun x M1 => (∀ B H v, Sep K B M1 H → SlOk K B v x → tyV K T v H) ∧ WA K t ρ M1 fun xs M2 => WM K r x xs M2 Q) : W K (tBM K T r ta t) ρ M Q := fun σ B H hR hS Q0 k =>
  h σ B H hR hS _ fun x v M1 B1 H1 ⟨ht, h1⟩ e1 S1 o1 => ⟨ht B1 H1 v S1 o1, h1 σ B1 H1 (hR.mono e1) S1 _ fun xs vs M2 B2 H2 h2 e2 S2 o2 =>
    h2 B2 H2 v vs S2 (o1.mono e2) o2 Q0 fun s z M4 B4 H4 q e4 S4 o4 => k s z M4 B4 H4 q ((e1.trans e2).trans e4) S4 o4⟩
theorem w_bm0 {T : String} {r : V → List V → Hp → VK → Prop} (h : W K ta ρ M fun x M1 => (∀ B H v, Sep K B M1 H → SlOk K B v x → tyV K T v H) ∧ WM K r x [] M1 Q) : W K (tBM0 K T r ta) ρ M Q := fun σ B H hR hS Q0 k =>
  h σ B H hR hS _ fun x v M1 B1 H1 ⟨ht, h1⟩ e1 S1 o1 => ⟨ht B1 H1 v S1 o1, h1 B1 H1 v [] S1 o1 .nil Q0 fun s z M4 B4 H4 q e4 S4 o4 => k s z M4 B4 H4 q (e1.trans e4) S4 o4⟩
theorem ty_lst {s : Sl} {xs : List Sl} (h : LsV K s M xs) : ∀ B H v, Sep K B M H → SlOk K B v s → tyV K "list" v H := fun B H v S o => by
  obtain ⟨a, vs, e, hq, _⟩ := h.get S o
  subst e
  exact .inl ⟨rfl, _, hq⟩
end
end Ab

set_option Elab.async false
set_option linter.all false
set_option maxRecDepth 100000
set_option  maxHeartbeats 4000000
namespace Ab
open PySem L2
section
variable {K : PySem.W.Frag} {ρ : Rho} {M : MH} {Q Q' : Sl → MH → Prop} {ta tb te tc : TE} {r r' : R2} {nx bk ct : Rho → MH → Prop} {rt : Sl → MH → Prop}

/-! ### statements -/
theorem ws_next (q : nx ρ M) : WS K tNext ρ M ⟨nx, rt, bk, ct⟩ := fun σ B H D hR hS a b c d => a ρ M σ B H q (Same.refl B) hR hS
theorem ws_break (q : bk ρ M) : WS K tBreak ρ M ⟨nx, rt, bk, ct⟩ := fun σ B H D hR hS a b c d => c ρ M σ B H q (Same.refl B) hR hS
theorem ws_cont (q : ct ρ M) : WS K tCont ρ M ⟨nx, rt, bk, ct⟩ := fun σ B H D hR hS a b c d => d ρ M σ B H q (Same.refl B) hR hS
theorem ws_seq {t u : TS} (h : WS K t ρ M ⟨fun ρ' M' => WS K u ρ' M' ⟨nx, rt, bk, ct⟩, rt, bk, ct⟩) : WS K (tSeq t u) ρ M ⟨nx, rt, bk, ct⟩ := fun σ B H D hR hS a b c d =>
  h σ B H { D with nx := u D } hR hS (fun ρ1 M1 σ1 B1 H1 q e1 R1 S1 => q σ1 B1 H1 D R1 S1 (fun ρ2 M2 σ2 B2 H2 q2 e2 => a ρ2 M2 σ2 B2 H2 q2 (e1.trans e2)) (fun s v M2 B2 H2 q2 e2 => b s v M2 B2 H2 q2 (e1.trans e2))
    (fun ρ2 M2 σ2 B2 H2 q2 e2 => c ρ2 M2 σ2 B2 H2 q2 (e1.trans e2)) (fun ρ2 M2 σ2 B2 H2 q2 e2 => d ρ2 M2 σ2 B2 H2 q2 (e1.trans e2))) b c d
theorem ws_drop (h : W K te ρ M fun _ M' => nx ρ M') : WS K (tDrop te) ρ M ⟨nx, rt, bk, ct⟩ := fun σ B H D hR hS a b c d =>
  h σ B H hR hS _ fun s v M' B' H' q e S o => a ρ M' σ B' H' q e (hR.mono e) S
theorem ws_ret (h : W K te ρ M rt) : WS K (tRet te) ρ M ⟨nx, rt, bk, ct⟩ := fun σ B H D hR hS a b c d => h σ B H hR hS _ fun s v M' B' H' q e S o => b s v M' B' H' q e S o
theorem ws_retN (h : rt .non M) : WS K tRetN ρ M ⟨nx, rt, bk, ct⟩ := fun σ B H D hR hS a b c d => b .non .non M B H h (Same.refl B) hS slok_non
theorem ws_if {t : TT} {tu tw : TS} (h : WT K t ρ M fun b M' => if b = true then WS K tu ρ M' ⟨nx, rt, bk, ct⟩ else WS K tw ρ M' ⟨nx, rt, bk, ct⟩) : WS K (tIfS t tu tw) ρ M ⟨nx, rt, bk, ct⟩ := fun σ B H D hR hS a b c d =>
  h σ B H hR hS _ fun k M1 B1 H1 q e1 S1 => by
    cases k with
    | true =>
      exact q σ B1 H1 D (hR.mono e1) S1 (fun ρ2 M2 σ2 B2 H2 q2 e2 => a ρ2 M2 σ2 B2 H2 q2 (e1.trans e2)) (fun s v M2 B2 H2 q2 e2 => b s v M2 B2 H2 q2 (e1.trans e2)) (fun ρ2 M2 σ2 B2 H2 q2 e2 => c ρ2 M2 σ2 B2 H2 q2 (e1.trans e2)) (fun ρ2 M2 σ2 B2 H2 q2 e2 => d ρ2 M2 σ2 B2 H2 q2 (e1.trans e2))
    | false =>
      exact q σ B1 H1 D (hR.mono e1) S1 (fun ρ2 M2 σ2 B2 H2 q2 e2 => a ρ2 M2 σ2 B2 H2 q2 (e1.trans e2)) (fun s v M2 B2 H2 q2 e2 => b s v M2 B2 H2 q2 (e1.trans e2)) (fun ρ2 M2 σ2 B2 H2 q2 e2 => c ρ2 M2 σ2 B2 H2 q2 (e1.trans e2)) (fun ρ2 M2 σ2 B2 H2 q2 e2 => d ρ2 M2 σ2 B2 H2 q2 (e1.trans e2))
theorem ws_asg {g : TG} (h : W K te ρ M fun s M1 => WG K g s ρ M1 nx) : WS K (tAsg te g) ρ M ⟨nx, rt, bk, ct⟩ := fun σ B H D hR hS a b c d =>
  h σ B H hR hS _ fun s v M1 B1 H1 q e1 S1 o1 => q σ B1 H1 v (hR.mono e1) S1 o1 D.nx fun ρ2 M2 σ2 B2 H2 q2 e2 R2 S2 => a ρ2 M2 σ2 B2 H2 q2 (e1.trans e2) R2 S2
theorem wg_name {i : Nat} {x : Sl} {Q : Rho → MH → Prop} (q : Q (ρ.set i (some x)) M) : WG K (gName i) x ρ M Q := fun σ B H v hR hS o Q0 k => k _ M _ B H q (Same.refl B) (Rl.put o i hR) hS
theorem ws_set {i : Nat} (h : W K te ρ M fun s M1 => nx (ρ.set i (some s)) M1) : WS K (tAsg te (gName i)) ρ M ⟨nx, rt, bk, ct⟩ := ws_asg (h.imp fun s M1 q => wg_name q)
/-- targets a, b -/
def WGs (K : PySem.W.Frag) (g : TGs) (xs : List Sl) (ρ : Rho) (M : MH) (Q : Rho → MH → Prop) : Prop :=
  ∀ σ B H vs, Rl K B σ ρ → Sep K B M H → SlAll K B vs xs → ∀ Q0 : L2.St → Hp → Prop, (∀ ρ' M' σ' B' H', Q ρ' M' → Same B B' → Rl K B' σ' ρ' → Sep K B' M' H' → Q0 σ' H') → g vs σ H Q0
theorem wgs_nil {Q : Rho → MH → Prop} (q : Q ρ M) : WGs K gNil [] ρ M Q := fun σ B H vs hR hS o Q0 k => by
  cases o
  exact ⟨rfl, k ρ M σ B H q (Same.refl B) hR hS⟩
theorem wgs_cons {g : TG} {gs : TGs} {x : Sl} {xs : List Sl} {Q : Rho → MH → Prop} (h : WG K g x ρ M fun ρ1 M1 => WGs K gs xs ρ1 M1 Q) : WGs K (gCons g gs) (x :: xs) ρ M Q := fun σ B H vs hR hS o Q0 k => by
  cases o with
  | cons o1 o2 =>
    exact ⟨_, _, rfl, h σ B H _ hR hS o1 _ fun ρ1 M1 σ1 B1 H1 q e1 R1 S1 => q σ1 B1 H1 _ R1 S1 (SlAll.mono e1 o2) Q0 fun ρ2 M2 σ2 B2 H2 q2 e2 R2 S2 => k ρ2 M2 σ2 B2 H2 q2 (e1.trans e2) R2 S2⟩
theorem wg_tup {n : Nat} {g : TGs} {x : Sl} {ds : List PyData} {Q : Rho → MH → Prop} (hx : x = .dat (.tuple ds)) (hn : ds.length = n) (h : WGs K g (ds.map .dat) ρ M Q) : WG K (gTup K n g) x ρ M Q := fun σ B H v hR hS o Q0 k => by
  subst hx
  obtain ⟨a, vs, e, hq, ha⟩ := (tpv_dat (ds := ds)).get hS o
  exact ⟨a, vs, e, hq, by rw [SlAll.len ha, List.length_map, hn], h σ B H vs hR hS ha Q0 k⟩
theorem ws_aug {i : Nat} {f : Int → Int → Int} {a : Int} (hx : ρ[i]? = some (some (.int a))) (h : W K te ρ M fun s M1 => ∃ b, s = .int b ∧ nx (ρ.set i (some (.int (f a b)))) M1) : WS K (tAug i te (ipI f)) ρ M ⟨nx, rt, bk, ct⟩ := fun σ B H D hR hS p1 p2 p3 p4 => by
  obtain ⟨v, e, o⟩ := hR.get hx
  exact ⟨v, e, h σ B H hR hS _ fun s w M1 B1 H1 ⟨b, es, q⟩ e1 S1 o1 => by
    subst es
    exact ⟨a, b, of_int o, of_int o1, p1 _ M1 _ B1 H1 q e1 (Rl.put slok_int i (hR.mono e1)) S1⟩⟩
/-- o[i] = e, a list that may change -/
theorem ws_setL {to ti : TE} (h : W K te ρ M fun s M1 => W K to ρ M1 fun o M2 => W K ti ρ M2 fun ix M3 => ∃ a xs k j, o = .raw (.ref a) ∧ ix = .int k ∧ M3 a = some (.lst xs) ∧ ixN xs.length k = some j ∧ nx ρ (um M3 a (.lst (xs.set j s)))) : WS K (tAsg te (gSub to ti rSetL)) ρ M ⟨nx, rt, bk, ct⟩ := fun σ B H D hR hS p1 p2 p3 p4 =>
  h σ B H hR hS _ fun s v M1 B1 H1 h1 e1 S1 o1 => h1 σ B1 H1 (hR.mono e1) S1 _ fun o w M2 B2 H2 h2 e2 S2 o2 => h2 σ B2 H2 (hR.mono (e1.trans e2)) S2 _ fun ix u M3 B3 H3 ⟨a, xs, k, j, eo, ei, hM, hj, q⟩ e3 S3 o3 => by
    subst eo ei
    obtain ⟨_, u1, hu, vs, rfl, ha⟩ := S3.has a _ hM
    have hl := SlAll.len ha
    refine ⟨a, vs, k, j, o2, of_int o3, hu, by rw [hl]; exact hj, ?_⟩
    exact p1 ρ _ σ B3 _ q ((e1.trans e2).trans e3) (hR.mono ((e1.trans e2).trans e3)) (S3.put hM ⟨_, rfl, SlAll.setI (o1.mono (e2.trans e3)) j ha⟩)
/-- o[i] += e, a list of ints -/
def rGetL (K : PySem.W.Frag) : V → V → Hp → VK → Prop := fun o i H Q => ∃ p xs k j v, o = .ref p ∧ i = .int k ∧ SqL K H p xs ∧ 0 ≤ k ∧ k.toNat = j ∧ xs[j]? = some v ∧ Q v H
theorem pget_list {X : Cx} : PGet X (rGetL X.K) := by
  intro pins s σ H o i ov iv Q I ro ri h
  obtain ⟨p, xs, k, j, v, rfl, rfl, hq, h0, hj, hv, q⟩ := h
  cases ro
  obtain ⟨t, rfl⟩ := ri
  obtain ⟨its, r, pl, fits⟩ := I.list hq
  obtain ⟨w, ew, rw'⟩ := r.get hv
  have hl := r.length
  have hn := line63
  have hjl := (List.getElem?_eq_some_iff.mp ew).1
  subst hj
  exact wpAny_getItem_list pl.isList h0 (by omega) (by simpa using ew) ⟨v, H, I, rw', q⟩
theorem ws_augL {to ti : TE} {f : Int → Int → Int} (h : W K to ρ M fun o M1 => W K ti ρ M1 fun ix M2 => ∃ a xs k x, o = .raw (.ref a) ∧ ix = .int (k : Nat) ∧ M2 a = some (.lst xs) ∧ xs[k]? = some (.int x) ∧ W K te ρ M2 fun s M3 => ∃ b, s = .int b ∧ M3 a = some (.lst xs) ∧ nx ρ (um M3 a (.lst (xs.set k (.int (f x b)))))) :
    WS K (tAugS to ti te (rGetL K) (ipI f) rSetL) ρ M ⟨nx, rt, bk, ct⟩ := fun σ B H D hR hS p1 p2 p3 p4 =>
  h σ B H hR hS _ fun o v M1 B1 H1 h1 e1 S1 o1 => h1 σ B1 H1 (hR.mono e1) S1 _ fun ix w M2 B2 H2 ⟨a, xs, k, x, eo, ei, hM, hx, h2⟩ e2 S2 o2 => by
    subst eo ei
    obtain ⟨_, u1, hu, vs, rfl, ha⟩ := S2.has a _ hM
    obtain ⟨y, hy, oy⟩ := SlAll.get ha hx
    refine ⟨a, vs, k, k, y, o1, of_int o2, SqL.of hu, by omega, by omega, hy, ?_⟩
    refine h2 σ B2 H2 (hR.mono (e1.trans e2)) S2 _ fun s z M3 B3 H3 ⟨b, es, hM3, q⟩ e3 S3 o3 => ?_
    subst es
    obtain ⟨_, u3, hu3, vs3, rfl, ha3⟩ := S3.has a _ hM3
    have hk : k < xs.length := (List.getElem?_eq_some_iff.mp hx).1
    have hl := SlAll.len ha3
    refine ⟨x, b, of_int oy, of_int o3, a, vs3, k, k, o1, of_int o2, hu3, ?_, ?_⟩
    · unfold ixN
      iterate 2 rw [if_pos (by omega)]
      simp
    · exact p1 ρ _ σ B3 _ q ((e1.trans e2).trans e3) (hR.mono ((e1.trans e2).trans e3)) (S3.put hM3 ⟨_, rfl, SlAll.setI slok_int k ha3⟩)
/-- less is known -/
theorem ws_weak {t : TS} (i : Nat) (h : WS K t (ρ.set i none) M ⟨nx, rt, bk, ct⟩) : WS K t ρ M ⟨nx, rt, bk, ct⟩ := fun σ B H D hR hS => h σ B H D (hR.less i) hS
theorem ws_del {t : TS} (a : Addr) (h : WS K t ρ (del M a) ⟨nx, rt, bk, ct⟩) : WS K t ρ M ⟨nx, rt, bk, ct⟩ := fun σ B H D hR hS => h σ B H D hR hS.drop
/-- a list of ours will not be changed any more -/
theorem ws_freeze {t : TS} {i : Nat} {a : Addr} {ds : List PyData} (hi : ρ[i]? = some (some (.raw (.ref a)))) (hM : M a = some (.lst (ds.map .dat))) (h : WS K t (ρ.set i (some (.dat (.list ds)))) (del M a) ⟨nx, rt, bk, ct⟩) : WS K t ρ M ⟨nx, rt, bk, ct⟩ := fun σ B H D hR hS p1 p2 p3 p4 => by
  obtain ⟨hB, u, hu, vs, rfl, ha⟩ := hS.has a _ hM
  have e : Same B (upd B a (.lst vs)) := same_new hB
  have S' := hS.freeze hM hu
  have o : SlOk K (upd B a (.lst vs)) (.ref a) (.dat (.list ds)) := Dq.lst (Rd.of upd_same) (dpa_same e _ _ (dpa_of ha))
  obtain ⟨v, hv, ov⟩ := hR.get hi
  have ev : v = .ref a := ov
  subst ev
  have hR' := Rl.put o i (hR.mono e)
  have hσ : σ.set i (some (.ref a)) = σ := by
    obtain ⟨h1, h2⟩ := List.getElem?_eq_some_iff.mp hv
    rw [← h2]
    exact List.set_getElem_self h1
  rw [hσ] at hR'
  exact h σ _ H D hR' S' (fun ρ2 M2 σ2 B2 H2 q2 e2 => p1 ρ2 M2 σ2 B2 H2 q2 (e.trans e2)) (fun s v M2 B2 H2 q2 e2 => p2 s v M2 B2 H2 q2 (e.trans e2)) (fun ρ2 M2 σ2 B2 H2 q2 e2 => p3 ρ2 M2 σ2 B2 H2 q2 (e.trans e2)) (fun ρ2 M2 σ2 B2 H2 q2 e2 => p4 ρ2 M2 σ2 B2 H2 q2 (e.trans e2))

/-! ### operations -/
theorem w2_i0 {f : Int → Int → Int} {i j : Int} (q : Q (.int (f i j)) M) : W2 K (rI0 fun i j => .int (f i j)) (.int i) (.int j) M Q := fun B H v w hS h1 h2 Q0 k => ⟨i, j, of_int h1, of_int h2, k _ _ M B H q (Same.refl B) hS slok_int⟩
theorem w2_b0 {f : Int → Int → Bool} {i j : Int} (q : Q (.bl (f i j)) M) : W2 K (rI0 fun i j => .bl (f i j)) (.int i) (.int j) M Q := fun B H v w hS h1 h2 Q0 k => ⟨i, j, of_int h1, of_int h2, k _ _ M B H q (Same.refl B) hS slok_bl⟩
theorem w2_i {C : Int → Int → Prop} {f : Int → Int → Int} {i j : Int} (hc : C i j) (q : Q (.int (f i j)) M) : W2 K (rI C fun i j => .int (f i j)) (.int i) (.int j) M Q := fun B H v w hS h1 h2 Q0 k => ⟨i, j, of_int h1, of_int h2, hc, k _ _ M B H q (Same.refl B) hS slok_int⟩
theorem w1_neg {i : Int} (q : Q (.int (-i)) M) : W1 K (rU fun i => .int (-i)) (.int i) M Q := fun B H v hS h1 Q0 k => ⟨i, of_int h1, k _ _ M B H q (Same.refl B) hS slok_int⟩
theorem w2_eq {d e : PyData} (h1 : SeqAt.shaped d = true) (h2 : SeqAt.shaped e = true) (q : Q (.bl (PyData.eqv d e)) M) : W2 K (rEqD K) (.dat d) (.dat e) M Q := fun B H v w hS o1 o2 Q0 k =>
  ⟨d, e, dq_dp _ _ (dp_same hS.sub _ _ o1), dq_dp _ _ (dp_same hS.sub _ _ o2), h1, h2, k _ _ M B H q (Same.refl B) hS slok_bl⟩
theorem w2_ne {d e : PyData} (h1 : SeqAt.shaped d = true) (h2 : SeqAt.shaped e = true) (q : Q (.bl (!PyData.eqv d e)) M) : W2 K (rNeD K) (.dat d) (.dat e) M Q := fun B H v w hS o1 o2 Q0 k =>
  ⟨d, e, dq_dp _ _ (dp_same hS.sub _ _ o1), dq_dp _ _ (dp_same hS.sub _ _ o2), h1, h2, k _ _ M B H q (Same.refl B) hS slok_bl⟩
theorem w2_in {d : PyData} {ds : List PyData} (h1 : SeqAt.shaped d = true) (h2 : SeqAt.shaped (.list ds) = true) (q : Q (.bl (ds.any fun z => PyData.eqv z d)) M) : W2 K (rInD K) (.dat d) (.dat (.list ds)) M Q := fun B H v w hS o1 o2 Q0 k =>
  ⟨d, ds, dq_dp _ _ (dp_same hS.sub _ _ o1), dq_dp _ _ (dp_same hS.sub _ _ o2), h1, h2, k _ _ M B H q (Same.refl B) hS slok_bl⟩
theorem w2_notIn {d : PyData} {ds : List PyData} (h1 : SeqAt.shaped d = true) (h2 : SeqAt.shaped (.list ds) = true) (q : Q (.bl (!ds.any fun z => PyData.eqv z d)) M) : W2 K (rNotInD K) (.dat d) (.dat (.list ds)) M Q := fun B H v w hS o1 o2 Q0 k =>
  ⟨d, ds, dq_dp _ _ (dp_same hS.sub _ _ o1), dq_dp _ _ (dp_same hS.sub _ _ o2), h1, h2, k _ _ M B H q (Same.refl B) hS slok_bl⟩
/-- is None, is not None -/
def rIsN : R2 := fun u z H Q => z = .non ∧ Q (.bl (decide (u = .non))) H
def rNotN : R2 := fun u z H Q => z = .non ∧ Q (.bl (!decide (u = .non))) H
def isNon : PyData → Bool
  | .none => true
  | _ => false
theorem dp_non {B : Hp} {v : V} {d : PyData} (h : Dq K B v d) : decide (v = .non) = isNon d := by
  cases h <;> first | rfl | exact decide_eq_false (fun e => nomatch e)
theorem w2_isN {d : PyData} (q : Q (.bl (isNon d)) M) : W2 K rIsN (.dat d) .non M Q := fun B H v w hS o1 o2 Q0 k => ⟨of_non o2, by
  rw [dp_non o1]
  exact k _ _ M B H q (Same.refl B) hS slok_bl⟩
theorem w2_notN {d : PyData} (q : Q (.bl (!isNon d)) M) : W2 K rNotN (.dat d) .non M Q := fun B H v w hS o1 o2 Q0 k => ⟨of_non o2, by
  rw [dp_non o1]
  exact k _ _ M B H q (Same.refl B) hS slok_bl⟩
/-- xs[i], t[i], s[i] -/
theorem atI_map {α β : Type} (f : α → β) (xs : List α) (i : Int) : atI (xs.map f) i = (atI xs i).map f := by
  unfold atI
  rw [List.length_map]
  cases ixN xs.length i with
  | none => rfl
  | some j => simp
theorem slall_atI {B : Hp} {vs : List V} {ss : List Sl} {s : Sl} {i : Int} (h : SlAll K B vs ss) (e : atI ss i = some s) : ∃ v, atI vs i = some v ∧ SlOk K B v s := by
  unfold atI at e ⊢
  rw [SlAll.len h]
  cases hj : ixN ss.length i with
  | none => rw [hj] at e; cases e
  | some j =>
    rw [hj] at e
    exact SlAll.get h e
theorem w2_ixL {s x : Sl} {xs : List Sl} {i : Int} (hs : LsV K s M xs) (hx : atI xs i = some x) (q : Q x M) : W2 K (rIxL K) s (.int i) M Q := fun B H v w hS o1 o2 Q0 k => by
  obtain ⟨a, vs, rfl, hq, ha⟩ := hs.get hS o1
  obtain ⟨z, hz, oz⟩ := slall_atI ha hx
  exact ⟨a, vs, i, z, rfl, of_int o2, hq, hz, k x z M B H q (Same.refl B) hS oz⟩
theorem w2_ixT {d : PyData} {ds : List PyData} {i : Int} (hx : atI ds i = some d) (q : Q (.dat d) M) : W2 K (rIxT K) (.dat (.tuple ds)) (.int i) M Q := fun B H v w hS o1 o2 Q0 k => by
  obtain ⟨a, vs, rfl, hq, ha⟩ := (tpv_dat (ds := ds)).get hS o1
  obtain ⟨z, hz, oz⟩ := slall_atI (s := .dat d) ha (by rw [atI_map, hx]; rfl)
  exact ⟨a, vs, i, z, rfl, of_int o2, hq, hz, k _ z M B H q (Same.refl B) hS oz⟩
theorem w2_ixS {z : Str} {i : Int} {c : Nat} (hz : z.length ≤ 100000) (hx : atI z.cps.toList i = some c) (q : Q (.str ⟨#[c]⟩) M) : W2 K rIxS (.str z) (.int i) M Q := fun B H v w hS o1 o2 Q0 k =>
  ⟨z, i, c, of_str o1, of_int o2, Nat.le_trans hz (by decide), hx, k _ _ M B H q (Same.refl B) hS slok_str⟩
/-- xs + ys, lists that are read -/
def rCatL (K : PySem.W.Frag) : R2 := fun x y H Q => ∃ l b xs zs, x = .ref l ∧ y = .ref b ∧ SqL K H l xs ∧ SqL K H b zs ∧ xs.length + zs.length ≤ sizeLine ∧ ∀ p, H p = none → Q (.ref p) (upd H p (.lst (xs ++ zs)))
theorem op_catL {X : Cx} : OpR X (binaryOp .Add) (rCatL X.K) := fun pins s σ H x y v u Q I rx ry ⟨l, m, us, ws, e1, e2, hU, hW, hz, q⟩ => by
  subst e1 e2
  cases rx
  cases ry
  have sizes : us.length + ws.length ≤ sizeLine := hz
  obtain ⟨is, r, ⟨⟨_, _, _, sl⟩, n, ho, hc, hdn, hd⟩, _⟩ := I.list hU
  obtain ⟨js, r2, ⟨⟨_, _, _, sl2⟩, n2, ho2, hc2, hdn2, hd2⟩, _⟩ := I.list hW
  simp only at hc hd hdn hc2 hd2 hdn2
  subst hc hd hdn hc2 hd2 hdn2
  have k1 := r.length
  have k2 := r2.length
  refine concat_meets ⟨_, ho, rfl⟩ ⟨_, ho2, rfl⟩ PySem.noFill_list_add PySem.seq_list_add PySem.F.slot_list_add PySem.F.entry_list_add (PySem.F.args_list_add_2 _ _) (PyProof.Rows.list_addW l m is.toArray js.toArray n n2 none none sl sl2 (by simp; omega)) ⟨ho, ho2, ?_⟩
  rw [show is.toArray ++ js.toArray = (is ++ js).toArray by simp]
  exact ⟨.ref _, _, I.lnew (t' := s.toks) (r.append r2) (by simp; omega), rfl, q _ I.fresh⟩
theorem lst_ok {B : Hp} {p : Addr} {vs : List V} {ds : List PyData} (h : DqAll K B vs ds) (hp : B p = none) : SlOk K (upd B p (.lst vs)) (.ref p) (.dat (.list ds)) := Dq.lst (Rd.of upd_same) (dpa_same (same_new hp) _ _ h)
theorem tup_ok {B : Hp} {p : Addr} {vs : List V} {ds : List PyData} (h : DqAll K B vs ds) (hp : B p = none) : SlOk K (upd B p (.tup vs)) (.ref p) (.dat (.tuple ds)) := Dq.tup (SqT.of upd_same) (dpa_same (same_new hp) _ _ h)
theorem w2_cat {s t : Sl} {ds es : List PyData} (h1 : LsV K s M (ds.map .dat)) (h2 : LsV K t M (es.map .dat)) (hl : ds.length + es.length ≤ 100000) (q : Q (.dat (.list (ds ++ es))) M) : W2 K (rCatL K) s t M Q := fun B H v w hS o1 o2 Q0 k => by
  obtain ⟨a, vs, rfl, hq, ha⟩ := h1.get hS o1
  obtain ⟨b, ws, rfl, hq2, ha2⟩ := h2.get hS o2
  have l1 := SlAll.len ha
  have l2 := SlAll.len ha2
  rw [List.length_map] at l1 l2
  refine ⟨a, b, vs, ws, rfl, rfl, hq, hq2, Nat.le_trans (by omega) (show 100000 ≤ sizeLine by decide), fun p hp => ?_⟩
  exact k _ _ M (upd B p (.lst (vs ++ ws))) _ q (same_new (hS.freeB hp)) (hS.alloc hp) (lst_ok (DqAll.app (dpa_of ha) (dpa_of ha2)) (hS.freeB hp))
/-- [x] * n -/
def repD (ds : List PyData) (n : Nat) : List PyData := (List.replicate n ds).flatten
theorem dpa_rep {B : Hp} {vs : List V} {ds : List PyData} (h : DqAll K B vs ds) : ∀ n : Nat, DqAll K B (List.replicate n vs).flatten (repD ds n)
  | 0 => .nil
  | n + 1 => by
    unfold repD
    simp only [List.replicate_succ, List.flatten_cons]
    exact DqAll.app h (dpa_rep h n)
/-- a list that is read, times an int -/
def rRepL : R2 := fun x y H Q => ∃ l k xs, x = .ref l ∧ y = .int k ∧ Rd H l (.lst xs) ∧ -(2 ^ 63) ≤ k ∧ k < 2 ^ 63 ∧ xs.length * k.toNat ≤ sizeLine ∧ ∀ p, H p = none → Q (.ref p) (upd H p (.lst (List.replicate k.toNat xs).flatten))
theorem rep_arr (r : List Value) (m : Nat) : (List.replicate (if r.toArray.isEmpty = true then 0 else m) r.toArray).foldl (· ++ ·) #[] = (List.replicate m r).flatten.toArray := by
  have all : (List.replicate m r.toArray).foldl (· ++ ·) #[] = (List.replicate m r).flatten.toArray := by simpa using foldl_rep r m []
  match r, all with
  | [], _ => simp
  | _ :: _, e => rw [if_neg (by simp)]; exact e
theorem op_repL {X : Cx} : OpR X (binaryOp .Mult) rRepL := fun pins s σ H x y v u Q I rx ry ⟨l, n, vs, e1, e2, hR, n1, n2, hn, q⟩ => by
  subst e1 e2
  cases rx
  obtain ⟨t, rfl⟩ := ry
  obtain ⟨_, rs, m, r, o⟩ := hR.ok I.hok
  have sz : rs.toArray.size * n.toNat ≤ sizeLine := by simpa [← r.length] using hn
  have big : (sizeLine : Nat) ≤ (2 ^ 63 - 1) / 8 := by decide
  have call := AutoListH.list___mul___list_int_3 l rs.toArray m n t (by rw [fitsIndex_both n1 n2]; simp) (by omega) (by rw [notLongL sz]; simp)
  refine wpAny_binaryOp_repeat_ref (T := "list") (U := "int") (by decide) ⟨_, o, rfl⟩ (fun z => typeIs_int z n t) PySem.noFill_list_mul F.fills_int_mul F.slot_int_rmul PySem.repeat_list F.slot_int_index.lookup ?_
  refine call_meets F.slot_int_rmul (typeIs_int s n t) F.entry_int_rmul (F.args_int_rmul_2 _ _) (int___rmul___int_list n t l rs.toArray m) ⟨o, rfl, ⟨_, o, rfl⟩, ?_⟩
  refine call_meets F.slot_list_mul ⟨_, o, rfl⟩ F.entry_list_mul (F.args_list_mul_2 _ _) call ⟨o, ?_⟩
  rw [show List.foldl (fun x1 x2 => x1 ++ x2) #[] (List.replicate (if rs.toArray.isEmpty = true then 0 else n.toNat) rs.toArray) = _ from rep_arr rs n.toNat]
  have fit : (List.replicate n.toNat vs).flatten.length ≤ sizeLine := by simpa [Nat.mul_comm] using hn
  exact ⟨.ref _, _, I.lnew (t' := s.toks) (r.rep n.toNat) fit, rfl, q _ I.fresh⟩
theorem w2_rep {s : Sl} {ds : List PyData} {i : Int} (h : LsR s M (ds.map .dat)) (i1 : -(2 ^ 63) ≤ i) (i2 : i < 2 ^ 63) (hl : ds.length * i.toNat ≤ 100000) (q : Q (.dat (.list (repD ds i.toNat))) M) : W2 K rRepL s (.int i) M Q := fun B H v w hS o1 o2 Q0 k => by
  obtain ⟨a, vs, rfl, hq, ha⟩ := h.get hS o1
  have l1 := SlAll.len ha
  rw [List.length_map] at l1
  refine ⟨a, i, vs, rfl, of_int o2, hq, i1, i2, Nat.le_trans (by rw [l1]; exact hl) (show 100000 ≤ sizeLine by decide), fun p hp => ?_⟩
  exact k _ _ _ (upd B p (.lst (List.replicate i.toNat vs).flatten)) _ q (same_new (hS.freeB hp)) (hS.alloc hp) (lst_ok (dpa_rep (dpa_of ha) _) (hS.freeB hp))
/-- xs[lo:hi] -/
def cutG {α : Type} (xs : List α) (lo hi : Option Int) : List α := (xs.drop (HT.sIx xs.length 0 lo)).take (HT.sIx xs.length xs.length hi - HT.sIx xs.length 0 lo)
theorem cutG_map {α β : Type} (f : α → β) (xs : List α) (lo hi : Option Int) : cutG (xs.map f) lo hi = (cutG xs lo hi).map f := by
  unfold cutG
  rw [List.length_map, List.map_take, List.map_drop]
theorem dpa_cut {B : Hp} {vs : List V} {ds : List PyData} (h : DqAll K B vs ds) (lo hi : Option Int) : DqAll K B (cutV vs lo hi) (cutG ds lo hi) := by
  unfold cutV cutG
  rw [DqAll.length h]
  exact DqAll.take _ (DqAll.drop _ h)
theorem wsl_lst {s : Sl} {ds : List PyData} {lo hi : Option Int} (h : LsV K s M (ds.map .dat)) (q : Q (.dat (.list (cutG ds lo hi))) M) : WSl K (rSlL K) s lo hi M Q := fun B H v hS o Q0 k => by
  obtain ⟨a, vs, rfl, hq, ha⟩ := h.get hS o
  exact ⟨a, vs, rfl, hq, fun p hp => k _ _ M (upd B p (.lst (cutV vs lo hi))) _ q (same_new (hS.freeB hp)) (hS.alloc hp) (lst_ok (dpa_cut (dpa_of ha) lo hi) (hS.freeB hp))⟩
theorem dpa_rev {B : Hp} : ∀ {vs : List V} {ds : List PyData}, DqAll K B vs ds → DqAll K B vs.reverse ds.reverse
  | _, _, .nil => .nil
  | _, _, .cons h t => by
    simp only [List.reverse_cons]
    exact DqAll.app (dpa_rev t) (.cons h .nil)
/-- xs[::-1] -/
theorem w_rev (h : W K ta ρ M fun s M1 => ∃ ds : List PyData, LsV K s M1 (ds.map .dat) ∧ Q (.dat (.list ds.reverse)) M1) : W K (tRevL K ta) ρ M Q := fun σ B H hR hS Q0 k =>
  h σ B H hR hS _ fun s v M1 B1 H1 ⟨ds, hl, q⟩ e1 S1 o1 => by
    obtain ⟨a, vs, rfl, hq, ha⟩ := hl.get S1 o1
    exact ⟨a, vs, rfl, hq, fun p hp => k _ _ M1 (upd B1 p (.lst vs.reverse)) _ q (e1.trans (same_new (S1.freeB hp))) (S1.alloc hp) (lst_ok (dpa_rev (dpa_of ha)) (S1.freeB hp))⟩
/-- built-ins -/
def rLenS (K : PySem.W.Frag) : List V → Hp → VK → Prop := fun us H Q => ∃ p zs, us = [.ref p] ∧ (SqL K H p zs ∨ SqT K H p zs) ∧ Q (.int zs.length) H
def rListS (K : PySem.W.Frag) : List V → Hp → VK → Prop := fun us H Q => ∃ p zs, us = [.ref p] ∧ (SqL K H p zs ∨ SqT K H p zs) ∧ ∀ l, H l = none → Q (.ref l) (upd H l (.lst zs))
def rTupS (K : PySem.W.Frag) : List V → Hp → VK → Prop := fun xs H Q => ∃ p ys, xs = [.ref p] ∧ ((SqL K H p ys ∧ ∀ l, H l = none → Q (.ref l) (upd H l (.tup ys))) ∨ (SqT K H p ys ∧ Q (.ref p) H))
def rInt1 : List V → Hp → VK → Prop := fun xs H Q => (∃ i, xs = [.int i] ∧ Q (.int i) H) ∨ ∃ k, xs = [.bl k] ∧ Q (.int (if k then 1 else 0)) H
theorem wl_len {s : Sl} {xs : List Sl} (h : LsV K s M xs) (q : Q (.int (xs.length : Int)) M) : WL K (rLenS K) [s] M Q := fun B H vs hS o Q0 k => by
  cases o with
  | cons o1 o2 =>
    cases o2
    obtain ⟨a, ws, rfl, hq, ha⟩ := h.get hS o1
    refine ⟨a, ws, rfl, .inl hq, ?_⟩
    rw [SlAll.len ha]
    exact k _ _ M B H q (Same.refl B) hS slok_int
theorem wl_lenT {s : Sl} {xs : List Sl} (h : TpV s xs) (q : Q (.int (xs.length : Int)) M) : WL K (rLenS K) [s] M Q := fun B H vs hS o Q0 k => by
  cases o with
  | cons o1 o2 =>
    cases o2
    obtain ⟨a, ws, rfl, hq, ha⟩ := h.get hS o1
    refine ⟨a, ws, rfl, .inr hq, ?_⟩
    rw [SlAll.len ha]
    exact k _ _ M B H q (Same.refl B) hS slok_int
theorem wl_list {s : Sl} {ds : List PyData} (h : LsV K s M (ds.map .dat) ∨ TpV s (ds.map .dat)) (q : Q (.dat (.list ds)) M) : WL K (rListS K) [s] M Q := fun B H vs hS o Q0 k => by
  cases o with
  | cons o1 o2 =>
    cases o2
    rcases h with h | h
    · obtain ⟨a, ws, rfl, hq, ha⟩ := h.get hS o1
      exact ⟨a, ws, rfl, .inl hq, fun p hp => k _ _ M (upd B p (.lst ws)) _ q (same_new (hS.freeB hp)) (hS.alloc hp) (lst_ok (dpa_of ha) (hS.freeB hp))⟩
    · obtain ⟨a, ws, rfl, hq, ha⟩ := h.get hS o1
      exact ⟨a, ws, rfl, .inr hq, fun p hp => k _ _ M (upd B p (.lst ws)) _ q (same_new (hS.freeB hp)) (hS.alloc hp) (lst_ok (dpa_of ha) (hS.freeB hp))⟩
theorem wl_listM {s : Sl} {xs : List Sl} (h : LsV K s M xs ∨ TpV s xs) (q : ∀ p, M p = none → Q (.raw (.ref p)) (um M p (.lst xs))) : WL K (rListS K) [s] M Q := fun B H vs hS o Q0 k => by
  cases o with
  | cons o1 o2 =>
    cases o2
    rcases h with h | h
    · obtain ⟨a, ws, rfl, hq, ha⟩ := h.get hS o1
      exact ⟨a, ws, rfl, .inl hq, fun p hp => k _ _ _ B _ (q p (hS.freeM hp)) (Same.refl B) (hS.new hp ⟨ws, rfl, ha⟩) rfl⟩
    · obtain ⟨a, ws, rfl, hq, ha⟩ := h.get hS o1
      exact ⟨a, ws, rfl, .inr hq, fun p hp => k _ _ _ B _ (q p (hS.freeM hp)) (Same.refl B) (hS.new hp ⟨ws, rfl, ha⟩) rfl⟩
theorem wl_tuple {s : Sl} {ds : List PyData} (h : LsV K s M (ds.map .dat)) (q : Q (.dat (.tuple ds)) M) : WL K (rTupS K) [s] M Q := fun B H vs hS o Q0 k => by
  cases o with
  | cons o1 o2 =>
    cases o2
    obtain ⟨a, ws, rfl, hq, ha⟩ := h.get hS o1
    exact ⟨a, ws, rfl, .inl ⟨hq, fun p hp => k _ _ M (upd B p (.tup ws)) _ q (same_new (hS.freeB hp)) (hS.alloc hp) (tup_ok (dpa_of ha) (hS.freeB hp))⟩⟩
theorem wl_int {i : Int} (q : Q (.int i) M) : WL K rInt1 [.int i] M Q := fun B H vs hS o Q0 k => by
  cases o with
  | cons o1 o2 =>
    cases o2
    exact .inl ⟨i, by rw [of_int o1], k _ _ M B H q (Same.refl B) hS slok_int⟩
theorem wl_intb {b : Bool} (q : Q (.int (if b then 1 else 0)) M) : WL K rInt1 [.bl b] M Q := fun B H vs hS o Q0 k => by
  cases o with
  | cons o1 o2 =>
    cases o2
    exact .inr ⟨b, by rw [of_bl o1], k _ _ M B H q (Same.refl B) hS slok_int⟩
/-- isinstance of data, a built-in class -/
def tyD : PyData → String
  | .none => "NoneType"
  | .bool _ => "bool"
  | .int _ => "int"
  | .str _ => "str"
  | .list _ => "list"
  | .tuple _ => "tuple"
  | .dict _ => "dict"
theorem dp_ty {B H : Hp} (S : Same B H) {v : V} {d : PyData} (h : Dq K B v d) : TyX K H v (.type (tyD d)) := by
  cases h with
  | non => exact .base .non
  | bl b => exact .base (.bl b)
  | int i => exact .base (.int i)
  | str x => exact .base (.str x)
  | lst hs _ =>
    rcases hs with h | ⟨o, h⟩
    · exact .base (.lst (S _ _ h))
    · exact .base (.frz (S _ _ h))
  | tup hs _ =>
    rcases hs with (h | ⟨o, h⟩) | ⟨o, _, _, hk, hc, _⟩
    · exact .base (.tup (S _ _ h))
    · exact .fTuple (S _ _ h)
    · exact .kTuple hk hc
theorem wl_isi {d : PyData} {n : String} {b : Bool} (hb : kitB (tyD d) n = some b) (q : Q (.bl b) M) : WL K (rIsi K) [.dat d, .raw (.ty n)] M Q := fun B H vs hS o Q0 k => by
  cases o with
  | cons o1 o2 =>
    cases o2 with
    | cons o2 o3 =>
      cases o3
      obtain rfl : _ = V.ty n := o2
      exact ⟨_, .ty n, _, _, b, rfl, .ty n, dp_ty hS.sub o1, kit_ty hb, k _ _ M B H q (Same.refl B) hS slok_bl⟩
/-- xs.append(e) -/
theorem wm_append {a : Addr} {xs : List Sl} {s : Sl} (h : M a = some (.lst xs)) (hl : xs.length < 100000) (q : Q .non (um M a (.lst (xs ++ [s])))) : WM K rAppend (.raw (.ref a)) [s] M Q := fun B H v vs hS o1 o2 Q0 k => by
  cases o2 with
  | cons o2 o3 =>
    cases o3
    obtain ⟨_, u, hu, ws, rfl, ha⟩ := hS.has a _ h
    have hlen := SlAll.len ha
    obtain rfl : v = .ref a := o1
    exact ⟨a, ws, _, rfl, rfl, hu, Nat.lt_of_lt_of_le (by omega) (show 100000 ≤ sizeLine by decide), k _ _ _ B _ q (Same.refl B) (hS.put h ⟨_, rfl, SlAll.app ha (.cons o2 .nil)⟩) slok_non⟩
end
end Ab

set_option Elab.async false
set_option linter.all false
set_option maxRecDepth 100000
set_option  maxHeartbeats 4000000
namespace Ab
open PySem L2
section
variable {K : PySem.W.Frag} {ρ : Rho} {M : MH} {Q Q' : Sl → MH → Prop} {ta tb te tc : TE} {r r' : R2} {nx bk ct : Rho → MH → Prop} {rt : Sl → MH → Prop}

/-! ### what is walked -/
structure ItOk (K : PySem.W.Frag) (B : Hp) (J : It) (n : Nat) (item : Nat → Sl) (stay : MH → Prop) : Prop where
  go : ∀ i B2 M2 H2, i < n → Same B B2 → Sep K B2 M2 H2 → stay M2 → J.go i H2
  yld : ∀ i B2 M2 H2 x H3, i < n → Same B B2 → Sep K B2 M2 H2 → stay M2 → J.yld i H2 x H3 → ∃ B3, Same B2 B3 ∧ Sep K B3 M2 H3 ∧ SlOk K B3 x (item i)
  stop : ∀ i B2 M2 H2, n ≤ i → Same B B2 → Sep K B2 M2 H2 → stay M2 → J.stop i H2
def WI (K : PySem.W.Frag) (wi : TI) (ρ : Rho) (M : MH) (R : Nat → (Nat → Sl) → (MH → Prop) → MH → Prop) : Prop :=
  ∀ σ B H, Rl K B σ ρ → Sep K B M H → ∀ R0 : It → Hp → Prop, (∀ n item stay M' B' H' J, R n item stay M' → Same B B' → Sep K B' M' H' → ItOk K B' J n item stay → R0 J H') → wi σ H R0
theorem ws_for {wi : TI} {g : TG} {tb : TS} (h : WI K wi ρ M fun n item stay M1 => ∃ J : Nat → Rho → MH → Prop, J 0 ρ M1 ∧ (∀ i ρ' M', i ≤ n → J i ρ' M' → stay M') ∧
    (∀ i ρ' M', i < n → J i ρ' M' → WG K g (item i) ρ' M' fun ρ2 M2 => WS K tb ρ2 M2 ⟨J (i + 1), rt, nx, J (i + 1)⟩) ∧ ∀ ρ' M', J n ρ' M' → nx ρ' M') : WS K (tFor wi g tb) ρ M ⟨nx, rt, bk, ct⟩ := fun σ B H D hR hS a b c d =>
  h σ B H hR hS _ fun n item stay M1 B1 H1 It ⟨J, j0, js, jt, je⟩ e1 S1 ok => by
    refine ⟨fun i m σ' H' => m = n - i ∧ i ≤ n ∧ ∃ ρ' M' B', J i ρ' M' ∧ Same B1 B' ∧ Rl K B' σ' ρ' ∧ Sep K B' M' H', ⟨n, by simp, Nat.zero_le _, ρ, M1, B1, j0, Same.refl _, hR.mono e1, S1⟩, ?_⟩
    rintro i m σ' H' ⟨rfl, hi, ρ', M', B', hj, e2, R2, S2⟩
    by_cases hlt : i < n
    · refine .inr ⟨ok.go i B' M' H' hlt e2 S2 (js i ρ' M' hi hj), fun σ2 H2 => ∃ ρ2 M2 B2, J (i + 1) ρ2 M2 ∧ Same B1 B2 ∧ Rl K B2 σ2 ρ2 ∧ Sep K B2 M2 H2, fun σ2 H2 ⟨ρ2, M2, B2, q⟩ => ⟨n - (i + 1), by omega, rfl, hlt, ρ2, M2, B2, q⟩, fun x H3 y => ?_⟩
      obtain ⟨B3, e3, S3, o3⟩ := ok.yld i B' M' H' x H3 hlt e2 S2 (js i ρ' M' hi hj) y
      refine jt i ρ' M' hlt hj σ' B3 H3 x (R2.mono e3) S3 o3 _ fun ρ4 M4 σ4 B4 H4 q4 e4 R4 S4 => ?_
      have e14 : Same B1 B4 := (e2.trans e3).trans e4
      exact q4 σ4 B4 H4 _ R4 S4 (fun ρ5 M5 σ5 B5 H5 q5 e5 R5 S5 => ⟨ρ5, M5, B5, q5, e14.trans e5, R5, S5⟩) (fun s v M5 B5 H5 q5 e5 => b s v M5 B5 H5 q5 ((e1.trans e14).trans e5))
        (fun ρ5 M5 σ5 B5 H5 q5 e5 R5 S5 => a ρ5 M5 σ5 B5 H5 q5 ((e1.trans e14).trans e5) R5 S5) (fun ρ5 M5 σ5 B5 H5 q5 e5 R5 S5 => ⟨ρ5, M5, B5, q5, e14.trans e5, R5, S5⟩)
    · have ei : i = n := by omega
      subst ei
      exact .inl ⟨ok.stop i B' M' H' (Nat.le_refl _) e2 S2 (js i ρ' M' hi hj), a ρ' M' σ' B' H' (je ρ' M' hj) (e1.trans e2) R2 S2⟩
/-- a list -/
theorem wi_list {tl : TE} {R : Nat → (Nat → Sl) → (MH → Prop) → MH → Prop} (h : W K tl ρ M fun s M1 => ∃ xs, LsV K s M1 xs ∧ R xs.length (fun i => xs.getD i .non) (fun M2 => LsV K s M2 xs) M1) : WI K (iList K tl) ρ M R := fun σ B H hR hS R0 k =>
  h σ B H hR hS _ fun s v M1 B1 H1 ⟨xs, hl, q⟩ e1 S1 o1 => by
    obtain ⟨a, vs, rfl, hq, ha⟩ := hl.get S1 o1
    refine ⟨a, rfl, ⟨vs, hq⟩, k xs.length _ _ M1 B1 H1 _ q e1 S1 ⟨fun i B2 M2 H2 hi e2 S2 st => ?_, fun i B2 M2 H2 x H3 hi e2 S2 st y => ?_, fun i B2 M2 H2 hi e2 S2 st => ?_⟩⟩
    · obtain ⟨b, ws, eb, hq2, ha2⟩ := st.get S2 (o1.mono e2)
      cases eb
      obtain ⟨z, hz, _⟩ := SlAll.get ha2 (List.getElem?_eq_getElem hi)
      exact ⟨ws, z, hq2, hz⟩
    · obtain ⟨b, ws, eb, hq2, ha2⟩ := st.get S2 (o1.mono e2)
      cases eb
      obtain ⟨z, hz, oz⟩ := SlAll.get ha2 (List.getElem?_eq_getElem hi)
      obtain ⟨rfl, hy⟩ := y
      have ez : z = x := Option.some.inj (hz.symm.trans (hy ws hq2))
      subst ez
      refine ⟨B2, Same.refl _, S2, ?_⟩
      rw [List.getD_eq_getElem?_getD, List.getElem?_eq_getElem hi]
      exact oz
    · obtain ⟨b, ws, eb, hq2, ha2⟩ := st.get S2 (o1.mono e2)
      cases eb
      exact ⟨ws, hq2, by rw [SlAll.len ha2]; exact hi⟩
/-- a tuple -/
theorem wi_tup {tl : TE} {R : Nat → (Nat → Sl) → (MH → Prop) → MH → Prop} (h : W K tl ρ M fun s M1 => ∃ xs, TpV s xs ∧ R xs.length (fun i => xs.getD i .non) (fun _ => True) M1) : WI K (iTup K tl) ρ M R := fun σ B H hR hS R0 k =>
  h σ B H hR hS _ fun s v M1 B1 H1 ⟨xs, hl, q⟩ e1 S1 o1 => by
    obtain ⟨a, vs, rfl, hq, ha⟩ := hl.get S1 o1
    refine ⟨a, rfl, ⟨vs, hq⟩, k xs.length _ _ M1 B1 H1 _ q e1 S1 ⟨fun i B2 M2 H2 hi e2 S2 st => ?_, fun i B2 M2 H2 x H3 hi e2 S2 st y => ?_, fun i B2 M2 H2 hi e2 S2 st => ?_⟩⟩
    · obtain ⟨b, ws, eb, hq2, ha2⟩ := hl.get S2 (o1.mono e2)
      cases eb
      obtain ⟨z, hz, _⟩ := SlAll.get ha2 (List.getElem?_eq_getElem hi)
      exact ⟨ws, z, hq2, hz⟩
    · obtain ⟨b, ws, eb, hq2, ha2⟩ := hl.get S2 (o1.mono e2)
      cases eb
      obtain ⟨z, hz, oz⟩ := SlAll.get ha2 (List.getElem?_eq_getElem hi)
      obtain ⟨rfl, hy⟩ := y
      have ez : z = x := Option.some.inj (hz.symm.trans (hy ws hq2))
      subst ez
      refine ⟨B2, Same.refl _, S2, ?_⟩
      rw [List.getD_eq_getElem?_getD, List.getElem?_eq_getElem hi]
      exact oz
    · obtain ⟨b, ws, eb, hq2, ha2⟩ := hl.get S2 (o1.mono e2)
      cases eb
      exact ⟨ws, hq2, by rw [SlAll.len ha2]; exact hi⟩
/-- ranges -/
theorem wi_r1 {t : TA} {R : Nat → (Nat → Sl) → (MH → Prop) → MH → Prop} (h : WA K t ρ M fun xs M1 => ∃ n : Int, xs = [.int n] ∧ -(2 ^ 62) ≤ n ∧ n < 2 ^ 62 ∧ R n.toNat (fun i => .int (i : Int)) (fun _ => True) M1) : WI K (iRng1 t) ρ M R := fun σ B H hR hS R0 k =>
  h σ B H hR hS _ fun xs vs M1 B1 H1 ⟨n, e, h1, h2, q⟩ e1 S1 o1 => by
    subst e
    cases o1 with
    | cons o1 o2 =>
      cases o2
      refine ⟨n, by rw [of_int o1], h1, h2, k _ _ _ M1 B1 H1 _ q e1 S1 ⟨fun i B2 M2 H2 hi e2 S2 st => hi, fun i B2 M2 H2 x H3 hi e2 S2 st y => ?_, fun i B2 M2 H2 hi e2 S2 st => hi⟩⟩
      obtain ⟨rfl, rfl⟩ := y
      exact ⟨B2, Same.refl _, S2, by rw [Int.zero_add]; exact slok_int⟩
theorem wi_r2 {t : TA} {R : Nat → (Nat → Sl) → (MH → Prop) → MH → Prop} (h : WA K t ρ M fun xs M1 => ∃ lo n : Int, xs = [.int lo, .int n] ∧ (-(2 ^ 62) ≤ lo ∧ lo < 2 ^ 62 ∧ -(2 ^ 62) ≤ n ∧ n < 2 ^ 62) ∧ R (n - lo).toNat (fun i => .int (lo + (i : Int))) (fun _ => True) M1) : WI K (iRng2 t) ρ M R := fun σ B H hR hS R0 k =>
  h σ B H hR hS _ fun xs vs M1 B1 H1 ⟨lo, n, e, h1, q⟩ e1 S1 o1 => by
    subst e
    cases o1 with
    | cons o1 o2 =>
      cases o2 with
      | cons o2 o3 =>
        cases o3
        refine ⟨lo, n, by rw [of_int o1, of_int o2], h1, k _ _ _ M1 B1 H1 _ q e1 S1 ⟨fun i B2 M2 H2 hi e2 S2 st => hi, fun i B2 M2 H2 x H3 hi e2 S2 st y => ?_, fun i B2 M2 H2 hi e2 S2 st => hi⟩⟩
        obtain ⟨rfl, rfl⟩ := y
        exact ⟨B2, Same.refl _, S2, slok_int⟩
theorem wi_r3 {t : TA} {R : Nat → (Nat → Sl) → (MH → Prop) → MH → Prop} (h : WA K t ρ M fun xs M1 => ∃ (i j c : Int) (n : Nat), xs = [.int i, .int j, .int c] ∧ RgC i j c n ∧ R n (fun k => .int (i + (k : Int) * c)) (fun _ => True) M1) : WI K (iRng3 t) ρ M R := fun σ B H hR hS R0 k =>
  h σ B H hR hS _ fun xs vs M1 B1 H1 ⟨i, j, c, n, e, h1, q⟩ e1 S1 o1 => by
    subst e
    cases o1 with
    | cons o1 o2 =>
      cases o2 with
      | cons o2 o3 =>
        cases o3 with
        | cons o3 o4 =>
          cases o4
          refine ⟨i, j, c, n, by rw [of_int o1, of_int o2, of_int o3], h1, k _ _ _ M1 B1 H1 _ q e1 S1 ⟨fun i B2 M2 H2 hi e2 S2 st => hi, fun i B2 M2 H2 x H3 hi e2 S2 st y => ?_, fun i B2 M2 H2 hi e2 S2 st => hi⟩⟩
          obtain ⟨rfl, rfl⟩ := y
          exact ⟨B2, Same.refl _, S2, slok_int⟩
/-- for x in a list of data, by the part that was taken -/
theorem getD_map {α : Type} {enc : α → PyData} {xs : List α} {i : Nat} (h : i < xs.length) : ((xs.map enc).map Sl.dat).getD i .non = .dat (enc xs[i]) := by
  rw [List.getD_eq_getElem?_getD, List.getElem?_map, List.getElem?_map, List.getElem?_eq_getElem h]
  rfl
theorem split_at {α : Type} {xs : List α} {i : Nat} (h : i < xs.length) : xs = xs.take i ++ xs[i] :: xs.drop (i + 1) := by
  rw [List.getElem_cons_drop, List.take_append_drop]
theorem ws_forD {α : Type} {enc : α → PyData} {xs : List α} {tl : TE} {g : TG} {tb : TS} {M1 : MH} (hl : W K tl ρ M fun s M2 => s = .dat (.list (xs.map enc)) ∧ M2 = M1) (J : List α → Rho → MH → Prop) (h0 : J [] ρ M1)
    (hs : ∀ pre x post ρ' M', xs = pre ++ x :: post → J pre ρ' M' → WG K g (.dat (enc x)) ρ' M' fun ρ2 M2 => WS K tb ρ2 M2 ⟨J (pre ++ [x]), rt, nx, J (pre ++ [x])⟩) (hd : ∀ ρ' M', J xs ρ' M' → nx ρ' M') : WS K (tFor (iList K tl) g tb) ρ M ⟨nx, rt, bk, ct⟩ :=
  ws_for (wi_list (hl.imp fun s M2 ⟨e1, e2⟩ => by
    subst e1 e2
    refine ⟨_, lsv_dat, fun i => J (xs.take i), h0, fun _ _ _ _ _ => lsv_dat, fun i ρ' M' hi hj => ?_, fun ρ' M' hj => hd ρ' M' (by rwa [List.length_map, List.length_map, List.take_length] at hj)⟩
    have hi' : i < xs.length := by simpa using hi
    have q := hs (xs.take i) xs[i] (xs.drop (i + 1)) ρ' M' (split_at hi') hj
    rw [← List.take_succ_eq_append_getElem hi'] at q
    show WG K g (((xs.map enc).map Sl.dat).getD i .non) ρ' M' _
    rw [getD_map hi']
    exact q))
theorem ws_forR1 {n : Int} {t : TA} {g : TG} {tb : TS} {M1 : MH} (hl : WA K t ρ M fun xs M2 => xs = [.int n] ∧ M2 = M1) (hn : -(2 ^ 62) ≤ n ∧ n < 2 ^ 62) (J : Nat → Rho → MH → Prop) (h0 : J 0 ρ M1)
    (hs : ∀ (i : Nat) ρ' M', (i : Int) < n → J i ρ' M' → WG K g (.int (i : Int)) ρ' M' fun ρ2 M2 => WS K tb ρ2 M2 ⟨J (i + 1), rt, nx, J (i + 1)⟩) (hd : ∀ ρ' M', J n.toNat ρ' M' → nx ρ' M') : WS K (tFor (iRng1 t) g tb) ρ M ⟨nx, rt, bk, ct⟩ :=
  ws_for (wi_r1 fun σ B H hR hS Q0 k => hl σ B H hR hS Q0 fun ss vs M' B' H' ⟨e1, e2⟩ => by
    subst e1 e2
    exact k _ vs _ B' H' ⟨n, rfl, hn.1, hn.2, J, h0, fun _ _ _ _ _ => trivial, fun i ρ' M' hi hj => hs i ρ' M' (by omega) hj, hd⟩)

/-! ### comprehensions -/
/-- [te for x in ..], x the slot j; J: how many, what was made, what else stands -/
theorem w_lc {wi : TI} {tt : TT} {j : Nat} {vs : List Nat} (hj : j ∈ vs) (h : WI K wi ρ M fun n item stay M1 => ∃ J : Nat → List PyData → MH → Prop, J 0 [] M1 ∧ (∀ i acc M', i ≤ n → J i acc M' → ∀ D o, M' D = none → stay (um M' D o)) ∧
    (∀ i acc M' D, i < n → J i acc M' → M' D = none → WT K tt ((wipeR ρ vs).set j (some (item i))) (um M' D (.lst (acc.map .dat))) fun b M3 =>
      if b = true then W K te ((wipeR ρ vs).set j (some (item i))) M3 fun s M4 => ∃ d M5, s = .dat d ∧ M4 = um M5 D (.lst (acc.map .dat)) ∧ M5 D = none ∧ acc.length < 100000 ∧ J (i + 1) (acc ++ [d]) M5
      else ∃ M5, M3 = um M5 D (.lst (acc.map .dat)) ∧ M5 D = none ∧ J (i + 1) acc M5) ∧
    ∀ acc M', J n acc M' → Q (.dat (.list acc)) M') : W K (tLc wi (gName j) tt te vs) ρ M Q := fun σ B H hR hS Q0 k =>
  h σ B H hR hS _ fun n item stay M1 B1 H1 It ⟨J, j0, js, jt, je⟩ e1 S1 ok => fun D hD => by
    have hwp : ∀ x, wipe ((wipe σ vs).set j (some x)) vs = wipe σ vs := fun x => by rw [wipe_set _ _ _ _ hj, wipe_wipe]
    refine ⟨fun i m H' => m = n - i ∧ i ≤ n ∧ ∃ acc M' B', J i acc M' ∧ M' D = none ∧ Same B1 B' ∧ Sep K B' (um M' D (.lst (acc.map .dat))) H', ⟨n, by simp, Nat.zero_le _, [], M1, B1, j0, S1.freeM hD, Same.refl _, S1.new hD ⟨[], rfl, .nil⟩⟩, ?_⟩
    rintro i m H' ⟨rfl, hi, acc, M', B', hj', hMD, e2, S2⟩
    by_cases hlt : i < n
    · refine .inr ⟨ok.go i B' _ H' hlt e2 S2 (js i acc M' hi hj' D _ hMD), fun H2 => ∃ acc M2 B2, J (i + 1) acc M2 ∧ M2 D = none ∧ Same B1 B2 ∧ Sep K B2 (um M2 D (.lst (acc.map .dat))) H2, fun H2 ⟨acc, M2, B2, q⟩ => ⟨n - (i + 1), by omega, rfl, hlt, acc, M2, B2, q⟩, fun x H3 y => ?_⟩
      obtain ⟨B3, e3, S3, o3⟩ := ok.yld i B' _ H' x H3 hlt e2 S2 (js i acc M' hi hj' D _ hMD) y
      refine ⟨hwp x, ?_⟩
      have R3 : Rl K B3 ((wipe σ vs).set j (some x)) ((wipeR ρ vs).set j (some (item i))) := Rl.put o3 j ((hR.mono ((e1.trans e2).trans e3)).wiped vs)
      refine jt i acc M' D hlt hj' hMD _ B3 H3 R3 S3 _ fun b M4 B4 H4 q4 e4 S4 => ?_
      have e14 := (e2.trans e3).trans e4
      cases b with
      | true =>
        refine q4 _ B4 H4 (R3.mono e4) S4 _ fun s v M5 B5 H5 ⟨d, M6, es, em, hn6, hl6, hj6⟩ e5 S5 o5 => ?_
        subst es em
        obtain ⟨_, u, hu, ws, rfl, ha⟩ := S5.has D _ um_same
        have hlen := SlAll.len ha
        rw [List.length_map] at hlen
        refine ⟨ws, hu, Nat.lt_of_lt_of_le (by omega) (show 100000 ≤ sizeLine by decide), acc ++ [d], M6, B5, hj6, hn6, e14.trans e5, ?_⟩
        have S6 := S5.put (u := .lst (ws ++ [v])) (o' := .lst ((acc ++ [d]).map .dat)) um_same ⟨_, rfl, by rw [List.map_append]; exact SlAll.app ha (.cons o5 .nil)⟩
        rw [um_um] at S6
        exact S6
      | false =>
        obtain ⟨M5, em, hn5, hj5⟩ := q4
        subst em
        exact ⟨acc, M5, B4, hj5, hn5, e14, S4⟩
    · have ei : i = n := by omega
      subst ei
      refine .inl ⟨ok.stop i B' _ H' (Nat.le_refl _) e2 S2 (js i acc M' hi hj' D _ hMD), ?_⟩
      obtain ⟨hB, u, hu, ws, rfl, ha⟩ := S2.has D _ um_same
      have S3 := S2.freeze um_same hu
      rw [del_um hMD] at S3
      exact k _ _ M' _ H' (je acc M' hj') ((e1.trans e2).trans (same_new hB)) S3 (lst_ok (dpa_of ha) hB)
theorem wt_yes {Q : Bool → MH → Prop} (q : Q true M) : WT K tYes ρ M Q := fun σ B H hR hS Q0 k => k true M B H q (Same.refl B) hS
/-- [f(x) for x in a list of data], nothing else is touched -/
theorem w_lcD {α : Type} {enc : α → PyData} {xs : List α} {tl : TE} {j : Nat} {vs : List Nat} {M1 : MH} (hj : j ∈ vs) (hl : W K tl ρ M fun s M2 => s = .dat (.list (xs.map enc)) ∧ M2 = M1) (hz : xs.length ≤ 100000) (f : α → PyData)
    (he : ∀ x D o, x ∈ xs → M1 D = none → W K te ((wipeR ρ vs).set j (some (.dat (enc x)))) (um M1 D o) fun s M' => s = .dat (f x) ∧ M' = um M1 D o) (q : Q (.dat (.list (xs.map f))) M1) : W K (tLc (iList K tl) (gName j) tYes te vs) ρ M Q :=
  w_lc hj (wi_list (hl.imp fun s M2 ⟨e1, e2⟩ => by
    subst e1 e2
    refine ⟨_, lsv_dat, fun i acc M' => M' = M2 ∧ acc = (xs.take i).map f, ⟨rfl, by simp⟩, fun _ _ _ _ _ _ _ _ => lsv_dat, fun i acc M' D hi ⟨eM, ea⟩ hD => ?_, fun acc M' ⟨eM, ea⟩ => ?_⟩
    · subst eM ea
      have hi' : i < xs.length := by simpa using hi
      refine wt_yes ?_
      show W K te ((wipeR ρ vs).set j (some (((xs.map enc).map Sl.dat).getD i .non))) _ _
      rw [getD_map hi']
      refine (he xs[i] D _ (List.getElem_mem hi') hD).imp fun s M' ⟨e1, e2⟩ => ⟨f xs[i], _, e1, e2, hD, ?_, rfl, ?_⟩
      · rw [List.length_map, List.length_take]
        omega
      · rw [List.take_succ_eq_append_getElem hi', List.map_append]
        rfl
    · subst eM ea
      rw [List.length_map, List.length_map, List.take_length]
      exact q))
end
end Ab

set_option Elab.async false
set_option linter.all false
set_option maxRecDepth 100000
set_option  maxHeartbeats 4000000
namespace Ab
open PySem PySem.Spec PyProof.Rows L2
/-! ### defs -/
/-- what a def makes of what it is given, and of what may change -/
abbrev ASp := List Sl → MH → (Sl → MH → Prop) → Prop
def conc (K : PySem.W.Frag) (A : ASp) : Sp := fun vs H Q _ => ∃ (B : Hp) (M : MH) (ss : List Sl) (QA : Sl → MH → Prop), Sep K B M H ∧ SlAll K B vs ss ∧ A ss M QA ∧ ∀ s v M' B' H', QA s M' → Same B B' → Sep K B' M' H' → SlOk K B' v s → Q v H'
section
variable {K : PySem.W.Frag} {ρ : Rho} {M : MH} {Q Q' : Sl → MH → Prop} {ta tb te tc : TE} {P : AE}
theorem w_call {A : ASp} {E : XK} {t : TA} (h : WA K t ρ M fun ss M1 => A ss M1 Q) : W K (tCall (conc K A) [] E t) ρ M Q := fun σ B H hR hS Q0 k =>
  h σ B H hR hS _ fun ss vs M1 B1 H1 q e1 S1 o1 => ⟨B1, M1, ss, Q, S1, by rw [List.append_nil]; exact o1, q, fun s v M2 B2 H2 q2 e2 S2 o2 => k s v M2 B2 H2 q2 (e1.trans e2) S2 o2⟩
def rho0 (n : Nat) (ss : List Sl) : Rho := ss.map some ++ List.replicate (n - ss.length) none
theorem ab_ok {P : Program} {w : World} {mg : Str → Option Value} {base : Heap} {x qual : Str} {st : Stmt} {f : Addr} {fd : FuncData} {N ps : List Str} {k : Nat} {A : ASp} (F : Fun K x qual st f fd) (S : FnScope N ps (defScope st))
    (hlen : ∀ ss M Q, A ss M Q → ss.length = ps.length)
    (hb : ∀ (cdv : Value) (Ar : Around) (outer : List Env) (s : Shared) (H : Hp) (E : XK), Room k (Ar.deeper (envOfC qual (defScope st) s.heap.objs.size f cdv)) →
      ∃ t, PSs (cxOf CX0 P w K mg base N qual (defScope st) f cdv Ar outer s H E).nox (defBody st) t ∧ ∀ ss M Q, A ss M Q → WS K t (rho0 N.length ss) M ⟨fun _ M' => Q .non M', Q, NoR, NoR⟩) :
    FnOk P w K mg base CX0 (k + 1) f fd ps (conc K A) := by
  refine F.ok S (fun vs H Q E h => ?_) (fun cdv Ar outer s H vs Q E hr h => ?_)
  · obtain ⟨B, M, ss, QA, hS, hv, ha, _⟩ := h
    rw [SlAll.len hv]
    exact hlen ss M QA ha
  · obtain ⟨B, M, ss, QA, hS, hv, ha, hq⟩ := h
    obtain ⟨t, ht, hw⟩ := hb cdv Ar outer s H E hr
    refine ⟨t, ht, ?_⟩
    have hR : Rl K B (L2.start N vs) (rho0 N.length ss) := by
      unfold L2.start rho0
      rw [SlAll.len hv]
      exact rl_start _ hv
    exact hw ss M QA ha (L2.start N vs) B H ⟨fun _ H' => Q .non H', Q, _, _⟩ hR hS (fun ρ' M' σ' B' H' q e _ S' => hq .non .non M' B' H' q e S' slok_non) (fun s v M' B' H' q e S' o => hq s v M' B' H' q e S' o) (fun _ _ _ _ _ z => z.elim) (fun _ _ _ _ _ z => z.elim)
/-- a def that works on data alone and changes nothing -/
def pureA (R : List PyData → PyData → Prop) : ASp := fun ss M Q => ∃ ds d, ss = ds.map .dat ∧ R ds d ∧ Q (.dat d) M
end
end Ab

set_option Elab.async false
set_option linter.all false
set_option maxRecDepth 100000
set_option  maxHeartbeats 4000000
namespace Ab
open PySem PyProof.Rows L2
/-! ### for the steps that need no thought -/
def datsOf : List Sl → Option (List PyData)
  | [] => some []
  | .dat d :: r => match datsOf r with
    | some ds => some (d :: ds)
    | none => none
  | _ :: _ => none
theorem datsOf_eq : ∀ {xs : List Sl} {ds : List PyData}, datsOf xs = some ds → xs = ds.map .dat
  | [], _, h => by cases h; rfl
  | .dat d :: r, ds, h => by
    unfold datsOf at h
    cases e : datsOf r with
    | none => rw [e] at h; cases h
    | some es =>
      rw [e] at h
      cases h
      rw [datsOf_eq e]
      rfl
  | .raw _ :: _, _, h => by cases h
  | .abs _ _ :: _, _, h => by cases h
section
variable {K : PySem.W.Frag} {ρ : Rho} {M : MH} {Q Q' : Sl → MH → Prop} {ta tb te tc : TE} {P : AE}
theorem w_tupD {t : TA} (h : WA K t ρ M fun xs M1 => ∃ ds, datsOf xs = some ds ∧ ds.length ≤ 100000 ∧ Q (.dat (.tuple ds)) M1) : W K (tTup t) ρ M Q :=
  w_tup fun σ B H hR hS Q0 k => h σ B H hR hS Q0 fun ss vs M' B' H' ⟨ds, e, l, q⟩ => k ss vs M' B' H' ⟨ds, datsOf_eq e, l, q⟩
theorem w_lstD {t : TA} (h : WA K t ρ M fun xs M1 => ∃ ds, datsOf xs = some ds ∧ ds.length ≤ 100000 ∧ Q (.dat (.list ds)) M1) : W K (tLst t) ρ M Q :=
  w_lst fun σ B H hR hS Q0 k => h σ B H hR hS Q0 fun ss vs M' B' H' ⟨ds, e, l, q⟩ => k ss vs M' B' H' ⟨ds, datsOf_eq e, l, q⟩
theorem ite_b {b : Bool} {A B : Prop} (h1 : b = true → A) (h2 : b = false → B) : if b = true then A else B := by
  cases b with
  | true => exact h1 rfl
  | false => exact h2 rfl
theorem ite_t {b : Bool} {A B : Prop} (e : b = true) (h : A) : if b = true then A else B := by
  rw [if_pos e]; exact h
theorem ite_f {b : Bool} {A B : Prop} (e : b = false) (h : B) : if b = true then A else B := by
  rw [if_neg (by rw [e]; decide)]; exact h
theorem wa_imp {Q Q' : List Sl → MH → Prop} {t : TA} (h : WA K t ρ M Q) (k : ∀ s M', Q s M' → Q' s M') : WA K t ρ M Q' := fun σ B H hR hS Q0 q => h σ B H hR hS Q0 fun s v M' B' H' z => q s v M' B' H' (k _ _ z)
theorem wt_imp {Q Q' : Bool → MH → Prop} {t : TT} (h : WT K t ρ M Q) (k : ∀ s M', Q s M' → Q' s M') : WT K t ρ M Q' := fun σ B H hR hS Q0 q => h σ B H hR hS Q0 fun s M' B' H' z => q s M' B' H' (k _ _ z)
end
/-- a word between a statement and the rest -/
theorem ws_mid {K : PySem.W.Frag} {ρ : Rho} {M : MH} {nx bk ct : Rho → MH → Prop} {rt : Sl → MH → Prop} {t u : TS} (Mid : Rho → MH → Prop) (h : WS K t ρ M ⟨Mid, rt, bk, ct⟩) (k : ∀ ρ' M', Mid ρ' M' → WS K u ρ' M' ⟨nx, rt, bk, ct⟩) : WS K (tSeq t u) ρ M ⟨nx, rt, bk, ct⟩ :=
  ws_seq (h.imp k (fun _ _ z => z) (fun _ _ z => z) (fun _ _ z => z))
theorem atI_ok {α : Type} {xs : List α} {i : Int} {x : α} (h0 : 0 ≤ i) (h : xs[i.toNat]? = some x) : atI xs i = some x := by
  obtain ⟨n, rfl⟩ := Int.eq_ofNat_of_zero_le h0
  exact atI_nat (by simpa using h)
theorem get_two {α : Type} {f : α → PyData} {xs : List α} {i : Nat} {x : α} (h : xs[i]? = some x) : ((xs.map f).map Sl.dat)[i]? = some (.dat (f x)) := by
  rw [List.getElem?_map, List.getElem?_map, h]
  rfl
theorem atI_two {α : Type} {f : α → PyData} {xs : List α} {i : Int} (d : α) (h0 : 0 ≤ i) (h : i.toNat < xs.length) : atI ((xs.map f).map Sl.dat) i = some (.dat (f (xs.getD i.toNat d))) :=
  atI_ok h0 (by rw [get_two (List.getElem?_eq_getElem h), List.getD_eq_getElem?_getD, List.getElem?_eq_getElem h]; rfl)
theorem atI_one {α : Type} {f : α → PyData} {xs : List α} {i : Int} (d : α) (h0 : 0 ≤ i) (h : i.toNat < xs.length) : atI (xs.map f) i = some (f (xs.getD i.toNat d)) :=
  atI_ok h0 (by rw [List.getElem?_map, List.getD_eq_getElem?_getD, List.getElem?_eq_getElem h]; rfl)
/-- data of small depth whose texts are texts -/
theorem shaped_int (i : Int) : SeqAt.shaped (.int i) = true := by simp [SeqAt.shaped, PyData.canLay0, PyData.depth]
theorem shaped_bool (b : Bool) : SeqAt.shaped (.bool b) = true := by simp [SeqAt.shaped, PyData.canLay0, PyData.depth]
theorem shaped_none : SeqAt.shaped .none = true := by simp [SeqAt.shaped, PyData.canLay0, PyData.depth]
theorem eqv_int (i j : Int) : PyData.eqv (.int i) (.int j) = decide (i = j) := by
  simp only [PyData.eqv]
  by_cases e : i = j
  · subst e; simp
  · rw [decide_eq_false e]; exact beq_eq_false_iff_ne.mpr e
mutual
/-- depth below n, texts that are texts -/
def okD : Nat → PyData → Bool
  | _, .none => true
  | _, .bool _ => true
  | _, .int _ => true
  | _, .str x => PyData.strOk x
  | 0, _ => false
  | n + 1, .list xs => decide (xs.length ≤ 100000) && okAll n xs
  | n + 1, .tuple xs => decide (xs.length ≤ 100000) && okAll n xs
  | _, .dict _ => false
def okAll : Nat → List PyData → Bool
  | _, [] => true
  | n, x :: xs => okD n x && okAll n xs
end
mutual
theorem okD_lay : ∀ (n : Nat) (d : PyData), okD n d = true → d.canLay0 = true ∧ d.depth ≤ n + 1
  | n, .none, _ => by simp [PyData.canLay0, PyData.depth]
  | n, .bool _, _ => by simp [PyData.canLay0, PyData.depth]
  | n, .int _, _ => by simp [PyData.canLay0, PyData.depth]
  | n, .str x, h => by
    have h' : PyData.strOk x = true := by cases n <;> simpa [okD] using h
    simp [PyData.canLay0, PyData.depth, h']
  | 0, .list xs, h => by simp [okD] at h
  | 0, .tuple xs, h => by simp [okD] at h
  | n + 1, .list xs, h => by
    have h' : xs.length ≤ 100000 ∧ okAll n xs = true := by simpa [okD] using h
    have q := okAll_lay n xs h'.2
    simp only [PyData.canLay0, PyData.depth]
    exact ⟨q.1, by omega⟩
  | n + 1, .tuple xs, h => by
    have h' : xs.length ≤ 100000 ∧ okAll n xs = true := by simpa [okD] using h
    have q := okAll_lay n xs h'.2
    simp only [PyData.canLay0, PyData.depth]
    exact ⟨q.1, by omega⟩
  | n, .dict _, h => by cases n <;> simp [okD] at h
theorem okAll_lay : ∀ (n : Nat) (ds : List PyData), okAll n ds = true → PyData.canLayAll0 ds = true ∧ PyData.depthAll ds ≤ n + 1
  | n, [], _ => by simp [PyData.canLayAll0, PyData.depthAll]
  | n, d :: ds, h => by
    have h' : okD n d = true ∧ okAll n ds = true := by
      simp only [okAll, Bool.and_eq_true] at h
      exact h
    have q1 := okD_lay n d h'.1
    have q2 := okAll_lay n ds h'.2
    simp only [PyData.canLayAll0, PyData.depthAll, Bool.and_eq_true]
    exact ⟨⟨q1.1, q2.1⟩, by omega⟩
end
theorem okD_shaped {n : Nat} {d : PyData} (h : okD n d = true) (hn : n ≤ 60) : SeqAt.shaped d = true := by
  obtain ⟨h1, h2⟩ := okD_lay n d h
  unfold SeqAt.shaped
  rw [h1, decide_eq_true (by omega)]
  rfl
theorem okAll_of {n : Nat} : ∀ {ds : List PyData}, (∀ d ∈ ds, okD n d = true) → okAll n ds = true
  | [], _ => rfl
  | d :: ds, h => by
    show (okD n d && okAll n ds) = true
    rw [h d List.mem_cons_self, okAll_of fun e he => h e (List.mem_cons_of_mem _ he)]
    rfl
theorem okD_mem {n : Nat} : ∀ {ds : List PyData} {d : PyData}, okAll n ds = true → d ∈ ds → okD n d = true
  | [], _, _, h => by cases h
  | x :: xs, d, h, hm => by
    have h' : okD n x = true ∧ okAll n xs = true := by
      simp only [okAll, Bool.and_eq_true] at h
      exact h
    rcases List.mem_cons.mp hm with rfl | hm
    · exact h'.1
    · exact okD_mem h'.2 hm
theorem okD_up : ∀ {n : Nat} {d : PyData}, okD n d = true → okD (n + 1) d = true
  | n, .none, _ => by cases n <;> rfl
  | n, .bool _, _ => by cases n <;> rfl
  | n, .int _, _ => by cases n <;> rfl
  | n, .str x, h => by cases n <;> simpa [okD] using h
  | 0, .list _, h => by simp [okD] at h
  | 0, .tuple _, h => by simp [okD] at h
  | n + 1, .list xs, h => by
    have h' : xs.length ≤ 100000 ∧ okAll n xs = true := by simpa [okD] using h
    show (decide (xs.length ≤ 100000) && okAll (n + 1) xs) = true
    rw [decide_eq_true h'.1, okAll_of fun d hd => okD_up (okD_mem h'.2 hd)]
    rfl
  | n + 1, .tuple xs, h => by
    have h' : xs.length ≤ 100000 ∧ okAll n xs = true := by simpa [okD] using h
    show (decide (xs.length ≤ 100000) && okAll (n + 1) xs) = true
    rw [decide_eq_true h'.1, okAll_of fun d hd => okD_up (okD_mem h'.2 hd)]
    rfl
  | n, .dict _, h => by cases n <;> simp [okD] at h
termination_by n => n
theorem okD_list {n : Nat} {xs : List PyData} (h : okD (n + 1) (.list xs) = true) : xs.length ≤ 100000 ∧ okAll n xs = true := by simpa [okD] using h
theorem okD_tuple {n : Nat} {xs : List PyData} (h : okD (n + 1) (.tuple xs) = true) : xs.length ≤ 100000 ∧ okAll n xs = true := by simpa [okD] using h
theorem okD_mkL {n : Nat} {xs : List PyData} (h : xs.length ≤ 100000) (h2 : okAll n xs = true) : okD (n + 1) (.list xs) = true := by simp [okD, h, h2]
theorem okD_mkT {n : Nat} {xs : List PyData} (h : xs.length ≤ 100000) (h2 : okAll n xs = true) : okD (n + 1) (.tuple xs) = true := by simp [okD, h, h2]
theorem okD_lsi (n : Nat) {xs : List Int} (h : xs.length ≤ 100000) : okD (n + 1) (.list (xs.map .int)) = true := okD_mkL (by simpa using h) (okAll_of fun d hd => by
  obtain ⟨i, _, rfl⟩ := List.mem_map.mp hd
  cases n <;> rfl)
theorem eqv_self {n : Nat} {d : PyData} (h : okD n d = true) : PyData.eqv d d = true := SeqAt.eqv_refl d (okD_lay n d h).1
/-! isinstance -/
@[reducible] def isB : PyData → Bool
  | .bool _ => true
  | _ => false
@[reducible] def isI : PyData → Bool
  | .bool _ => true
  | .int _ => true
  | _ => false
@[reducible] def isS : PyData → Bool
  | .str _ => true
  | _ => false
@[reducible] def isT : PyData → Bool
  | .tuple _ => true
  | _ => false
@[reducible] def isL : PyData → Bool
  | .list _ => true
  | _ => false
theorem isi_bool (d : PyData) : kitB (tyD d) "bool" = some (isB d) := by cases d <;> (simp only [tyD, isB]; decide +kernel)
theorem isi_int (d : PyData) : kitB (tyD d) "int" = some (isI d) := by cases d <;> (simp only [tyD, isI]; decide +kernel)
theorem isi_str (d : PyData) : kitB (tyD d) "str" = some (isS d) := by cases d <;> (simp only [tyD, isS]; decide +kernel)
theorem isi_tuple (d : PyData) : kitB (tyD d) "tuple" = some (isT d) := by cases d <;> (simp only [tyD, isT]; decide +kernel)
theorem isi_list (d : PyData) : kitB (tyD d) "list" = some (isL d) := by cases d <;> (simp only [tyD, isL]; decide +kernel)
section
variable {K : PySem.W.Frag} {ρ : Rho} {M : MH} {Q : Sl → MH → Prop}
/-- x[i] of a list, a tuple of data -/
theorem w2_ixDL {d : PyData} {ds : List PyData} {i : Int} (hx : atI ds i = some d) (q : Q (.dat d) M) : W2 K (rIx K) (.dat (.list ds)) (.int i) M Q := fun B H v w hS o1 o2 Q0 k =>
  .inl (w2_ixL lsv_dat (by rw [atI_map, hx]; rfl) q B H v w hS o1 o2 Q0 k)
theorem w2_ixDT {d : PyData} {ds : List PyData} {i : Int} (hx : atI ds i = some d) (q : Q (.dat d) M) : W2 K (rIx K) (.dat (.tuple ds)) (.int i) M Q := fun B H v w hS o1 o2 Q0 k =>
  .inr (.inl (w2_ixT hx q B H v w hS o1 o2 Q0 k))
end
end Ab

set_option Elab.async false
set_option linter.all false
set_option maxRecDepth 100000
set_option  maxHeartbeats 4000000
namespace Ab
open PySem PyProof.Rows L2
/-! the operations on lists that are pictures of lists -/
abbrev lsm {α : Type} (f : α → PyData) (xs : List α) : Sl := .dat (.list (xs.map f))
def itemsI : List Sl → Option (List Int)
  | [] => some []
  | .dat (.int i) :: r => match itemsI r with
    | some ds => some (i :: ds)
    | none => none
  | _ :: _ => none
theorem itemsI_eq : ∀ {xs : List Sl} {ns : List Int}, itemsI xs = some ns → xs = (ns.map PyData.int).map .dat
  | [], _, h => by cases h; rfl
  | .dat (.int i) :: r, ns, h => by
    unfold itemsI at h
    cases e : itemsI r with
    | none => rw [e] at h; cases h
    | some es =>
      rw [e] at h
      cases h
      rw [itemsI_eq e]
      rfl
  | .dat .none :: _, _, h => by cases h
  | .dat (.bool _) :: _, _, h => by cases h
  | .dat (.str _) :: _, _, h => by cases h
  | .dat (.list _) :: _, _, h => by cases h
  | .dat (.tuple _) :: _, _, h => by cases h
  | .dat (.dict _) :: _, _, h => by cases h
  | .raw _ :: _, _, h => by cases h
  | .abs _ _ :: _, _, h => by cases h
section
variable {K : PySem.W.Frag} {ρ : Rho} {M : MH} {Q Q' : Sl → MH → Prop} {ta tb te tc : TE} {α : Type} {f : α → PyData}
theorem w_lstI {t : TA} (h : WA K t ρ M fun xs M1 => ∃ ns, itemsI xs = some ns ∧ ns.length ≤ 100000 ∧ Q (lsm .int ns) M1) : W K (tLst t) ρ M Q :=
  w_lst fun σ B H hR hS Q0 k => h σ B H hR hS Q0 fun ss vs M' B' H' ⟨ns, e, l, q⟩ => k ss vs M' B' H' ⟨_, itemsI_eq e, by rw [List.length_map]; exact l, q⟩
theorem wl_lenE {xs : List α} (q : Q (.int (xs.length : Int)) M) : WL K (rLenS K) [lsm f xs] M Q := wl_len lsv_dat (by rw [List.length_map, List.length_map]; exact q)
theorem wl_lenD {ds : List PyData} (q : Q (.int (ds.length : Int)) M) : WL K (rLenS K) [.dat (.list ds)] M Q := wl_len lsv_dat (by rw [List.length_map]; exact q)
theorem wl_lenTD {ds : List PyData} (q : Q (.int (ds.length : Int)) M) : WL K (rLenS K) [.dat (.tuple ds)] M Q := wl_lenT tpv_dat (by rw [List.length_map]; exact q)
theorem wsl_E {xs : List α} {lo hi : Option Int} (q : Q (lsm f (cutG xs lo hi)) M) : WSl K (rSlL K) (lsm f xs) lo hi M Q := wsl_lst lsv_dat (by rw [cutG_map]; exact q)
theorem w2_catE {xs ys : List α} (hl : xs.length + ys.length ≤ 100000) (q : Q (lsm f (xs ++ ys)) M) : W2 K (rCatL K) (lsm f xs) (lsm f ys) M Q := w2_cat lsv_dat lsv_dat (by rw [List.length_map, List.length_map]; exact hl) (by rw [← List.map_append]; exact q)
theorem w2_ixE {xs : List α} {i : Int} (d : α) (h0 : 0 ≤ i) (h : i < xs.length) (q : Q (.dat (f (xs.getD i.toNat d))) M) : W2 K (rIxL K) (lsm f xs) (.int i) M Q := w2_ixL lsv_dat (atI_two d h0 (by omega)) q
theorem repD_map (xs : List α) (n : Nat) : repD (xs.map f) n = ((List.replicate n xs).flatten).map f := by
  unfold repD
  rw [List.map_flatten, List.map_replicate]
theorem w2_repE {xs : List α} {i : Int} (i1 : -(2 ^ 63) ≤ i) (i2 : i < 2 ^ 63) (hl : xs.length * i.toNat ≤ 100000) (q : Q (lsm f (List.replicate i.toNat xs).flatten) M) : W2 K rRepL (lsm f xs) (.int i) M Q := w2_rep lsr_dat i1 i2 (by rw [List.length_map]; exact hl) (by rw [repD_map]; exact q)
theorem rep_one {α : Type} (x : α) : ∀ n : Nat, (List.replicate n [x]).flatten = List.replicate n x
  | 0 => rfl
  | n + 1 => by rw [List.replicate_succ, List.flatten_cons, rep_one x n]; rfl
theorem w2_rep1 {x : α} {i : Int} (i1 : -(2 ^ 63) ≤ i) (i2 : i ≤ 100000) (q : Q (lsm f (List.replicate i.toNat x)) M) : W2 K rRepL (lsm f [x]) (.int i) M Q := w2_repE i1 (by omega) (by show 1 * i.toNat ≤ 100000; omega) (by rw [rep_one]; exact q)
theorem w_revE {xs : List α} (h : W K ta ρ M fun s M1 => s = lsm f xs ∧ Q (lsm f xs.reverse) M1) : W K (tRevL K ta) ρ M Q := w_rev (h.imp fun s M1 ⟨e, q⟩ => ⟨xs.map f, by subst e; exact lsv_dat, by rw [← List.map_reverse]; exact q⟩)
theorem wl_listE {xs : List α} (q : Q (lsm f xs) M) : WL K (rListS K) [lsm f xs] M Q := wl_list (.inl lsv_dat) q
end
section
variable {K : PySem.W.Frag} {ρ : Rho} {M : MH} {Q Q' : Sl → MH → Prop} {ta tb te tc : TE}
/-- [te for x in a list of data], what else changes told by J -/
theorem w_lcJ {α : Type} {enc : α → PyData} {xs : List α} {tl : TE} {j : Nat} {vs : List Nat} {M1 : MH} (hj : j ∈ vs) (hl : W K tl ρ M fun s M2 => s = lsm enc xs ∧ M2 = M1) (J : List α → List PyData → MH → Prop) (h0 : J [] [] M1)
    (hs : ∀ pre x post acc M' D, xs = pre ++ x :: post → J pre acc M' → M' D = none → W K te ((wipeR ρ vs).set j (some (.dat (enc x)))) (um M' D (.lst (acc.map .dat))) fun s M4 => ∃ d M5, s = .dat d ∧ M4 = um M5 D (.lst (acc.map .dat)) ∧ M5 D = none ∧ acc.length < 100000 ∧ J (pre ++ [x]) (acc ++ [d]) M5)
    (hd : ∀ acc M', J xs acc M' → Q (.dat (.list acc)) M') : W K (tLc (iList K tl) (gName j) tYes te vs) ρ M Q :=
  w_lc hj (wi_list (hl.imp fun s M2 ⟨e1, e2⟩ => by
    subst e1 e2
    refine ⟨_, lsv_dat, fun i acc M' => J (xs.take i) acc M', h0, fun _ _ _ _ _ _ _ _ => lsv_dat, fun i acc M' D hi hJ hD => ?_, fun acc M' hJ => ?_⟩
    · have hi' : i < xs.length := by simpa using hi
      refine wt_yes ?_
      show W K te ((wipeR ρ vs).set j (some (((xs.map enc).map Sl.dat).getD i .non))) _ _
      rw [getD_map hi']
      have q := hs (xs.take i) xs[i] (xs.drop (i + 1)) acc M' D (split_at hi') hJ hD
      rw [← List.take_succ_eq_append_getElem hi'] at q
      exact q
    · refine hd acc M' ?_
      rw [List.length_map, List.length_map, List.take_length] at hJ
      exact hJ))
/-- xs + ys, a list that will be changed -/
theorem w2_catM {s t : Sl} {xs ys : List Sl} (h1 : LsV K s M xs) (h2 : LsV K t M ys) (hl : xs.length + ys.length ≤ 100000) (q : ∀ p, M p = none → Q (.ref p) (um M p (.lst (xs ++ ys)))) : W2 K (rCatL K) s t M Q := fun B H v w hS o1 o2 Q0 k => by
  obtain ⟨a, vs, rfl, hq, ha⟩ := h1.get hS o1
  obtain ⟨b, ws, rfl, hq2, ha2⟩ := h2.get hS o2
  have l1 := SlAll.len ha
  have l2 := SlAll.len ha2
  refine ⟨a, b, vs, ws, rfl, rfl, hq, hq2, Nat.le_trans (by omega) (show 100000 ≤ sizeLine by decide), fun p hp => ?_⟩
  exact k _ _ _ B _ (q p (hS.freeM hp)) (Same.refl B) (hS.new hp ⟨_, rfl, SlAll.app ha ha2⟩) rfl
theorem um_swap {p D : Addr} {x y o : MO} (h : D ≠ p) : um (um (um M p x) D o) p y = um (um M p y) D o := by rw [um_comm h, um_um]
end
theorem eqv_lsi (xs ys : List Int) : PyData.eqv (.list (xs.map .int)) (.list (ys.map .int)) = decide (xs = ys) := by
  simp only [PyData.eqv]
  induction xs generalizing ys with
  | nil =>
    cases ys with
    | nil => simp [PyData.eqvAll]
    | cons y ys => simp [PyData.eqvAll]
  | cons x xs ih =>
    cases ys with
    | nil => simp [PyData.eqvAll]
    | cons y ys =>
      simp only [List.map_cons, PyData.eqvAll, ih ys, eqv_int]
      by_cases e : x = y
      · subst e
        simp
      · simp [e]
theorem cutG_len {α : Type} (xs : List α) (lo hi : Option Int) : (cutG xs lo hi).length ≤ xs.length := by
  unfold cutG
  rw [List.length_take, List.length_drop]
  omega
theorem cutG_int {α : Type} (xs : List α) {lo hi : Int} (h1 : 0 ≤ lo) (h2 : 0 ≤ hi) : cutG xs (some lo) (some hi) = (xs.drop lo.toNat).take (hi.toNat - lo.toNat) := by
  obtain ⟨l, rfl⟩ := Int.eq_ofNat_of_zero_le h1
  obtain ⟨h, rfl⟩ := Int.eq_ofNat_of_zero_le h2
  unfold cutG
  rw [HT.sIx_nat, HT.sIx_nat, Int.toNat_natCast, Int.toNat_natCast]
  apply List.ext_getElem?
  intro i
  simp only [List.getElem?_take, List.getElem?_drop]
  by_cases c1 : l + i < xs.length
  · rw [show min l xs.length = l by omega]
    by_cases c2 : i < h - l
    · rw [if_pos (by omega), if_pos c2]
    · rw [if_neg (by omega), if_neg c2]
  · rw [if_neg (by omega), List.getElem?_eq_none (by omega)]
    split <;> rfl
theorem cutG_hi {α : Type} (xs : List α) {hi : Int} (h2 : 0 ≤ hi) : cutG xs none (some hi) = xs.take hi.toNat := by
  obtain ⟨h, rfl⟩ := Int.eq_ofNat_of_zero_le h2
  unfold cutG
  rw [HT.sIx_none, HT.sIx_nat, Int.toNat_natCast, List.drop_zero, Nat.sub_zero]
  apply List.ext_getElem?
  intro i
  simp only [List.getElem?_take]
  by_cases c1 : i < xs.length
  · by_cases c2 : i < h
    · rw [if_pos (by omega), if_pos c2]
    · rw [if_neg (by omega), if_neg c2]
  · rw [if_neg (by omega), List.getElem?_eq_none (by omega)]
    split <;> rfl
theorem cutG_lo {α : Type} (xs : List α) {lo : Int} (h1 : 0 ≤ lo) : cutG xs (some lo) none = xs.drop lo.toNat := by
  obtain ⟨l, rfl⟩ := Int.eq_ofNat_of_zero_le h1
  unfold cutG
  rw [HT.sIx_none, HT.sIx_nat, Int.toNat_natCast]
  apply List.ext_getElem?
  intro i
  simp only [List.getElem?_take, List.getElem?_drop]
  by_cases c1 : l + i < xs.length
  · rw [show min l xs.length = l by omega, if_pos (by omega)]
  · rw [if_neg (by omega), List.getElem?_eq_none (by omega)]
/-! the script of a law -/
def scriptA (K : PySem.W.Frag) : Sp := conc K fun ss M Q => ∃ (s : Sl) (ns : List Int), ss = [s] ∧ ns.length ≤ 63 ∧ (∀ z ∈ ns, Builtin.Int.intBits z ≤ 1048576) ∧ (∀ M, LsV K s M ((ns.map PyData.int).map .dat)) ∧ ∀ M', Q (.bl true) M'
theorem slall_ints {K : PySem.W.Frag} {B : Hp} : ∀ ns : List Int, SlAll K B (ns.map V.int) ((ns.map PyData.int).map .dat)
  | [] => .nil
  | _ :: ns => .cons slok_int (slall_ints ns)
theorem script_in {K : PySem.W.Frag} {H : Hp} {a : Addr} {ns : List Int} (hl : ns.length ≤ 63) (hb : ∀ z ∈ ns, Builtin.Int.intBits z ≤ 1048576) (hS : SqL K H a (ns.map V.int)) : scriptA K [.ref a] H (fun v _ => v = .bl true) fun _ _ _ => False := by
  have S : Sep K H (fun _ => none) H := ⟨Same.refl H, fun a o e => by cases e⟩
  rcases hS with h | h
  · exact ⟨H, _, [.dat (.list (ns.map .int))], fun s _ => s = .bl true, S, .cons (Dq.lst h (dpa_of (slall_ints ns))) .nil, ⟨_, ns, rfl, hl, hb, fun M => lsv_dat, fun _ => rfl⟩, fun s v M' B' H' e _ _ o => by subst e; exact of_bl o⟩
  · exact ⟨H, _, [.raw (.ref a)], fun s _ => s = .bl true, S, .cons rfl .nil, ⟨_, ns, rfl, hl, hb, fun M => .inr (.inr ⟨a, _, rfl, fun H => .inr h, fun B => slall_ints ns⟩), fun _ => rfl⟩, fun s v M' B' H' e _ _ o => by subst e; exact of_bl o⟩
end Ab

set_option Elab.async false
set_option linter.all false
set_option maxRecDepth 100000
set_option  maxHeartbeats 4000000
/-! Ab7: <, >, <=, >= of data that Python can compare (ints, texts, tuples of them, as far as the first place that differs). -/
namespace Ab
open PySem PySem.SeqAt
open PySem.AutoSeq1 (wpAny_loadPart')
open PySem.MeetsSeq PySem.MeetsSeq2 PySem.MeetsSeq3

def cmpN (op : CmpOp) (a b : Nat) : Bool := match op with
  | .Lt => decide (a < b) | .Gt => decide (a > b) | .LtE => decide (a ≤ b) | .GtE => decide (a ≥ b) | _ => false
def cmpI (op : CmpOp) (a b : Int) : Bool := match op with
  | .Lt => decide (a < b) | .Gt => decide (b < a) | .LtE => decide (a ≤ b) | .GtE => decide (b ≤ a) | _ => false
def cmpS (op : CmpOp) (x y : Str) : Bool := match op with
  | .Lt => decide (x.cps.toList < y.cps.toList) | .Gt => decide (y.cps.toList < x.cps.toList) | .LtE => !decide (y.cps.toList < x.cps.toList) | .GtE => !decide (x.cps.toList < y.cps.toList) | _ => false
mutual
/-- what Python's op answers -/
def cmpV (op : CmpOp) : PyData → PyData → Bool
  | .int a, .int b => cmpI op a b
  | .str a, .str b => cmpS op a b
  | .tuple xs, .tuple ys => cmpVs op (cmpN op xs.length ys.length) xs ys
  | _, _ => false
def cmpVs (op : CmpOp) (z : Bool) : List PyData → List PyData → Bool
  | x :: xs, y :: ys => if PyData.eqv x y then cmpVs op z xs ys else cmpV op x y
  | [], _ => z
  | _ :: _, [] => z
end
mutual
/-- whether Python compares the two -/
def cmpOk : PyData → PyData → Bool
  | .int _, .int _ => true
  | .str _, .str _ => true
  | .tuple xs, .tuple ys => cmpOks xs ys
  | _, _ => false
def cmpOks : List PyData → List PyData → Bool
  | x :: xs, y :: ys => if PyData.eqv x y then cmpOks xs ys else cmpOk x y
  | [], _ => true
  | _ :: _, [] => true
end
/-- y op x answers k, and nothing changes -/
def Rc (op : CmpOp) (A : Around) (s : Shared) (y x : Value) (k : Bool) : Prop :=
  ∀ (prog : Program) (w : World) (E : Value → Shared → Prop) (Q : Value → Shared → Prop), Q (.bool k) s → wpAny (model prog w) A (richCompare op y x) Q E s
/-- pair by pair up to the first that differs -/
inductive Cmp (A : Around) (s : Shared) (op : CmpOp) (z : Bool) : List (Value × Value) → Bool → Prop
  | nil : Cmp A s op z [] z
  | same {y x : Value} {r : List (Value × Value)} {k : Bool} : EqAt A s y x true → Cmp A s op z r k → Cmp A s op z ((y, x) :: r) k
  | stop {y x : Value} {r : List (Value × Value)} {k : Bool} : EqAt A s y x false → Rc op A s y x k → Cmp A s op z ((y, x) :: r) k

section
theorem tup_lt (l b : Addr) (us ws : Array Value) (n m : Nat) (dd dd2 : Option Addr) (sl sl2 : Array (Option Value)) (k : Bool) :
    Meets (Builtin.«tuple.__lt__» ⟨[.ref l, .ref b], []⟩)
      (fun A R s => s.heap.get? l = some { cls := .type "tuple", dict := dd, data := .seq us n, slots := sl } ∧ s.heap.get? b = some { cls := .type "tuple", dict := dd2, data := .seq ws m, slots := sl2 } ∧
        Cmp A.in1 s .Lt (cmpN .Lt us.size ws.size) (us.toList.zip ws.toList) k ∧ R (.ok (.ret (.bool k))) s) := .of_wp fun prog w A R s h => by
  obtain ⟨hp, g, d, tk, os⟩ := s; obtain ⟨hl, hb, hc, h⟩ := h
  have sub := AutoSeq1.sub_tuple_tuple
  wp_walk using wpAny_loadPart' hl, wpAny_loadPart' hb, wpAny_forIn_list _ (fun rest b s' => b.1 = none ∧ s' = ⟨hp, g, d, tk, os⟩ ∧ Cmp A.in1 ⟨hp, g, d, tk, os⟩ .Lt (cmpN .Lt us.size ws.size) rest k) _
  case turn =>
    rintro ⟨y, x⟩ rest b s' ⟨hb', rfl, hc⟩
    cases hc with
    | same he hr =>
      refine wpAny_bind (he prog w _ _ ?_)
      wp_walk
      exact ⟨rfl, rfl, hr⟩
    | stop he hr =>
      refine wpAny_bind (he prog w _ _ ?_)
      refine wpAny_bind (wpAny_rule ?_)
      refine wpAny_bind (hr prog w _ _ ?_)
      wp_walk
      exact ⟨_, rfl, h⟩
  case fin =>
    rintro ⟨b1, b2⟩ s' ⟨hb', rfl, hc⟩
    simp only at hb'
    subst hb'
    cases hc
    wp_walk
    exact ⟨_, rfl, by simpa [Builtin.Tuple.tupleCompareSizes, cmpN] using h⟩
  case h => exact ⟨rfl, rfl, hc⟩
theorem rc_tup_lt {A : Around} {s : Shared} {l b : Addr} {us ws : Array Value} {k : Bool} (hl : s.heap.IsTuple l us) (hb : s.heap.IsTuple b ws) (hu : A.units < cLine) (hc : Cmp A.in1 s .Lt (cmpN .Lt us.size ws.size) (us.toList.zip ws.toList) k) : Rc .Lt A s (.ref l) (.ref b) k := fun prog w E Q h => by
  obtain ⟨⟨_, dd, _, sl⟩, ho, c1, n, d1⟩ := id hl
  obtain ⟨⟨_, dd2, _, sl2⟩, ho2, c2, m, d2⟩ := id hb
  simp only at c1 d1 c2 d2
  subst c1 d1 c2 d2
  exact richCompare_meets_room (op := .Lt) ⟨_, ho, rfl⟩ ⟨_, ho2, rfl⟩ F.slot_tuple_lt F.entry_tuple_lt (F.args_tuple_lt_2 _ _) (tup_lt l b us ws n m dd dd2 sl sl2 k)
    ⟨ho, ho2, hc, show Value.bool k ≠ Value.notImplemented ∧ Q (.bool k) s from ⟨(fun x => nomatch x), h⟩⟩ hu
theorem tup_gt (l b : Addr) (us ws : Array Value) (n m : Nat) (dd dd2 : Option Addr) (sl sl2 : Array (Option Value)) (k : Bool) :
    Meets (Builtin.«tuple.__gt__» ⟨[.ref l, .ref b], []⟩)
      (fun A R s => s.heap.get? l = some { cls := .type "tuple", dict := dd, data := .seq us n, slots := sl } ∧ s.heap.get? b = some { cls := .type "tuple", dict := dd2, data := .seq ws m, slots := sl2 } ∧
        Cmp A.in1 s .Gt (cmpN .Gt us.size ws.size) (us.toList.zip ws.toList) k ∧ R (.ok (.ret (.bool k))) s) := .of_wp fun prog w A R s h => by
  obtain ⟨hp, g, d, tk, os⟩ := s; obtain ⟨hl, hb, hc, h⟩ := h
  have sub := AutoSeq1.sub_tuple_tuple
  wp_walk using wpAny_loadPart' hl, wpAny_loadPart' hb, wpAny_forIn_list _ (fun rest b s' => b.1 = none ∧ s' = ⟨hp, g, d, tk, os⟩ ∧ Cmp A.in1 ⟨hp, g, d, tk, os⟩ .Gt (cmpN .Gt us.size ws.size) rest k) _
  case turn =>
    rintro ⟨y, x⟩ rest b s' ⟨hb', rfl, hc⟩
    cases hc with
    | same he hr =>
      refine wpAny_bind (he prog w _ _ ?_)
      wp_walk
      exact ⟨rfl, rfl, hr⟩
    | stop he hr =>
      refine wpAny_bind (he prog w _ _ ?_)
      refine wpAny_bind (wpAny_rule ?_)
      refine wpAny_bind (hr prog w _ _ ?_)
      wp_walk
      exact ⟨_, rfl, h⟩
  case fin =>
    rintro ⟨b1, b2⟩ s' ⟨hb', rfl, hc⟩
    simp only at hb'
    subst hb'
    cases hc
    wp_walk
    exact ⟨_, rfl, by simpa [Builtin.Tuple.tupleCompareSizes, cmpN] using h⟩
  case h => exact ⟨rfl, rfl, hc⟩
theorem rc_tup_gt {A : Around} {s : Shared} {l b : Addr} {us ws : Array Value} {k : Bool} (hl : s.heap.IsTuple l us) (hb : s.heap.IsTuple b ws) (hu : A.units < cLine) (hc : Cmp A.in1 s .Gt (cmpN .Gt us.size ws.size) (us.toList.zip ws.toList) k) : Rc .Gt A s (.ref l) (.ref b) k := fun prog w E Q h => by
  obtain ⟨⟨_, dd, _, sl⟩, ho, c1, n, d1⟩ := id hl
  obtain ⟨⟨_, dd2, _, sl2⟩, ho2, c2, m, d2⟩ := id hb
  simp only at c1 d1 c2 d2
  subst c1 d1 c2 d2
  exact richCompare_meets_room (op := .Gt) ⟨_, ho, rfl⟩ ⟨_, ho2, rfl⟩ F.slot_tuple_gt F.entry_tuple_gt (F.args_tuple_gt_2 _ _) (tup_gt l b us ws n m dd dd2 sl sl2 k)
    ⟨ho, ho2, hc, show Value.bool k ≠ Value.notImplemented ∧ Q (.bool k) s from ⟨(fun x => nomatch x), h⟩⟩ hu
theorem tup_le (l b : Addr) (us ws : Array Value) (n m : Nat) (dd dd2 : Option Addr) (sl sl2 : Array (Option Value)) (k : Bool) :
    Meets (Builtin.«tuple.__le__» ⟨[.ref l, .ref b], []⟩)
      (fun A R s => s.heap.get? l = some { cls := .type "tuple", dict := dd, data := .seq us n, slots := sl } ∧ s.heap.get? b = some { cls := .type "tuple", dict := dd2, data := .seq ws m, slots := sl2 } ∧
        Cmp A.in1 s .LtE (cmpN .LtE us.size ws.size) (us.toList.zip ws.toList) k ∧ R (.ok (.ret (.bool k))) s) := .of_wp fun prog w A R s h => by
  obtain ⟨hp, g, d, tk, os⟩ := s; obtain ⟨hl, hb, hc, h⟩ := h
  have sub := AutoSeq1.sub_tuple_tuple
  wp_walk using wpAny_loadPart' hl, wpAny_loadPart' hb, wpAny_forIn_list _ (fun rest b s' => b.1 = none ∧ s' = ⟨hp, g, d, tk, os⟩ ∧ Cmp A.in1 ⟨hp, g, d, tk, os⟩ .LtE (cmpN .LtE us.size ws.size) rest k) _
  case turn =>
    rintro ⟨y, x⟩ rest b s' ⟨hb', rfl, hc⟩
    cases hc with
    | same he hr =>
      refine wpAny_bind (he prog w _ _ ?_)
      wp_walk
      exact ⟨rfl, rfl, hr⟩
    | stop he hr =>
      refine wpAny_bind (he prog w _ _ ?_)
      refine wpAny_bind (wpAny_rule ?_)
      refine wpAny_bind (hr prog w _ _ ?_)
      wp_walk
      exact ⟨_, rfl, h⟩
  case fin =>
    rintro ⟨b1, b2⟩ s' ⟨hb', rfl, hc⟩
    simp only at hb'
    subst hb'
    cases hc
    wp_walk
    exact ⟨_, rfl, by simpa [Builtin.Tuple.tupleCompareSizes, cmpN] using h⟩
  case h => exact ⟨rfl, rfl, hc⟩
theorem rc_tup_le {A : Around} {s : Shared} {l b : Addr} {us ws : Array Value} {k : Bool} (hl : s.heap.IsTuple l us) (hb : s.heap.IsTuple b ws) (hu : A.units < cLine) (hc : Cmp A.in1 s .LtE (cmpN .LtE us.size ws.size) (us.toList.zip ws.toList) k) : Rc .LtE A s (.ref l) (.ref b) k := fun prog w E Q h => by
  obtain ⟨⟨_, dd, _, sl⟩, ho, c1, n, d1⟩ := id hl
  obtain ⟨⟨_, dd2, _, sl2⟩, ho2, c2, m, d2⟩ := id hb
  simp only at c1 d1 c2 d2
  subst c1 d1 c2 d2
  exact richCompare_meets_room (op := .LtE) ⟨_, ho, rfl⟩ ⟨_, ho2, rfl⟩ F.slot_tuple_le F.entry_tuple_le (F.args_tuple_le_2 _ _) (tup_le l b us ws n m dd dd2 sl sl2 k)
    ⟨ho, ho2, hc, show Value.bool k ≠ Value.notImplemented ∧ Q (.bool k) s from ⟨(fun x => nomatch x), h⟩⟩ hu
theorem tup_ge (l b : Addr) (us ws : Array Value) (n m : Nat) (dd dd2 : Option Addr) (sl sl2 : Array (Option Value)) (k : Bool) :
    Meets (Builtin.«tuple.__ge__» ⟨[.ref l, .ref b], []⟩)
      (fun A R s => s.heap.get? l = some { cls := .type "tuple", dict := dd, data := .seq us n, slots := sl } ∧ s.heap.get? b = some { cls := .type "tuple", dict := dd2, data := .seq ws m, slots := sl2 } ∧
        Cmp A.in1 s .GtE (cmpN .GtE us.size ws.size) (us.toList.zip ws.toList) k ∧ R (.ok (.ret (.bool k))) s) := .of_wp fun prog w A R s h => by
  obtain ⟨hp, g, d, tk, os⟩ := s; obtain ⟨hl, hb, hc, h⟩ := h
  have sub := AutoSeq1.sub_tuple_tuple
  wp_walk using wpAny_loadPart' hl, wpAny_loadPart' hb, wpAny_forIn_list _ (fun rest b s' => b.1 = none ∧ s' = ⟨hp, g, d, tk, os⟩ ∧ Cmp A.in1 ⟨hp, g, d, tk, os⟩ .GtE (cmpN .GtE us.size ws.size) rest k) _
  case turn =>
    rintro ⟨y, x⟩ rest b s' ⟨hb', rfl, hc⟩
    cases hc with
    | same he hr =>
      refine wpAny_bind (he prog w _ _ ?_)
      wp_walk
      exact ⟨rfl, rfl, hr⟩
    | stop he hr =>
      refine wpAny_bind (he prog w _ _ ?_)
      refine wpAny_bind (wpAny_rule ?_)
      refine wpAny_bind (hr prog w _ _ ?_)
      wp_walk
      exact ⟨_, rfl, h⟩
  case fin =>
    rintro ⟨b1, b2⟩ s' ⟨hb', rfl, hc⟩
    simp only at hb'
    subst hb'
    cases hc
    wp_walk
    exact ⟨_, rfl, by simpa [Builtin.Tuple.tupleCompareSizes, cmpN] using h⟩
  case h => exact ⟨rfl, rfl, hc⟩
theorem rc_tup_ge {A : Around} {s : Shared} {l b : Addr} {us ws : Array Value} {k : Bool} (hl : s.heap.IsTuple l us) (hb : s.heap.IsTuple b ws) (hu : A.units < cLine) (hc : Cmp A.in1 s .GtE (cmpN .GtE us.size ws.size) (us.toList.zip ws.toList) k) : Rc .GtE A s (.ref l) (.ref b) k := fun prog w E Q h => by
  obtain ⟨⟨_, dd, _, sl⟩, ho, c1, n, d1⟩ := id hl
  obtain ⟨⟨_, dd2, _, sl2⟩, ho2, c2, m, d2⟩ := id hb
  simp only at c1 d1 c2 d2
  subst c1 d1 c2 d2
  exact richCompare_meets_room (op := .GtE) ⟨_, ho, rfl⟩ ⟨_, ho2, rfl⟩ F.slot_tuple_ge F.entry_tuple_ge (F.args_tuple_ge_2 _ _) (tup_ge l b us ws n m dd dd2 sl sl2 k)
    ⟨ho, ho2, hc, show Value.bool k ≠ Value.notImplemented ∧ Q (.bool k) s from ⟨(fun x => nomatch x), h⟩⟩ hu
end
/-- the four orders -/
inductive IsCmp : CmpOp → Prop
  | lt : IsCmp .Lt
  | gt : IsCmp .Gt
  | le : IsCmp .LtE
  | ge : IsCmp .GtE
theorem rc_tup {op : CmpOp} (ho : IsCmp op) {A : Around} {s : Shared} {l b : Addr} {us ws : Array Value} {k : Bool} (hl : s.heap.IsTuple l us) (hb : s.heap.IsTuple b ws) (hu : A.units < cLine) (hc : Cmp A.in1 s op (cmpN op us.size ws.size) (us.toList.zip ws.toList) k) : Rc op A s (.ref l) (.ref b) k := by
  cases ho
  · exact rc_tup_lt hl hb hu hc
  · exact rc_tup_gt hl hb hu hc
  · exact rc_tup_le hl hb hu hc
  · exact rc_tup_ge hl hb hu hc
theorem rc_int {op : CmpOp} (ho : IsCmp op) {A : Around} {s : Shared} (i j : Int) (t u : Tok) : Rc op A s (.int i t) (.int j u) (cmpI op i j) := fun prog w E Q h => by
  cases ho
  · exact PySem.P.lt_int h
  · exact PyProof.Rows.gt_int h
  · exact PyProof.Rows.le_int h
  · exact PyProof.Rows.ge_int h
theorem rc_str {op : CmpOp} (ho : IsCmp op) {A : Around} {s : Shared} (x y : Str) (t u : Tok) : Rc op A s (.str x t) (.str y u) (cmpS op x y) := fun prog w E Q h => by
  cases ho
  · exact PySem.P.lt_str h
  · exact PySem.P.gt_str h
  · exact PySem.P.le_str h
  · exact PySem.P.ge_str h
mutual
theorem rc_data {op : CmpOp} (ho : IsCmp op) : ∀ (d e : PyData) (A : Around) (s : Shared) (a b : Value) (as bs : List Addr), Reads s.heap a d as → Reads s.heap b e bs → cmpOk d e = true → d.canLay0 = true → e.canLay0 = true → A.units + min d.depth e.depth < cLine → Rc op A s a b (cmpV op d e)
  | .int i, .int j, A, s, _, _, _, _, ra, rb, _, _, _, _ => by
    cases ra with
    | int _ t => cases rb with
      | int _ u => exact rc_int ho i j t u
  | .str x, .str y, A, s, _, _, _, _, ra, rb, _, _, _, _ => by
    cases ra with
    | str _ t => cases rb with
      | str _ u => exact rc_str ho x y t u
  | .tuple xs, .tuple ys, A, s, _, _, _, _, ra, rb, hc, ha, hb, hu => by
    cases ra with
    | @tuple l o vs n _ as₁ h1 h2 h3 h4 =>
      cases rb with
      | @tuple l' o' vs' n' _ bs₁ k1 k2 k3 k4 =>
        have n1 : vs.size = xs.length := by simpa using ReadsAll.length _ _ _ h4
        have n2 : vs'.size = ys.length := by simpa using ReadsAll.length _ _ _ k4
        refine rc_tup ho ⟨_, h1, h2, _, h3⟩ ⟨_, k1, k2, _, k3⟩ (room_here hu) ?_
        rw [n1, n2]
        exact rc_datas ho xs ys A.in1 s _ _ _ _ _ h4 k4 hc ha hb (room_in hu)
  | .none, _, _, _, _, _, _, _, _, _, h, _, _, _ => by simp [cmpOk] at h
  | .bool _, _, _, _, _, _, _, _, _, _, h, _, _, _ => by simp [cmpOk] at h
  | .list _, _, _, _, _, _, _, _, _, _, h, _, _, _ => by simp [cmpOk] at h
  | .dict _, _, _, _, _, _, _, _, _, _, h, _, _, _ => by simp [cmpOk] at h
  | .int _, .none, _, _, _, _, _, _, _, _, h, _, _, _ => by simp [cmpOk] at h
  | .int _, .bool _, _, _, _, _, _, _, _, _, h, _, _, _ => by simp [cmpOk] at h
  | .int _, .str _, _, _, _, _, _, _, _, _, h, _, _, _ => by simp [cmpOk] at h
  | .int _, .list _, _, _, _, _, _, _, _, _, h, _, _, _ => by simp [cmpOk] at h
  | .int _, .tuple _, _, _, _, _, _, _, _, _, h, _, _, _ => by simp [cmpOk] at h
  | .int _, .dict _, _, _, _, _, _, _, _, _, h, _, _, _ => by simp [cmpOk] at h
  | .str _, .none, _, _, _, _, _, _, _, _, h, _, _, _ => by simp [cmpOk] at h
  | .str _, .bool _, _, _, _, _, _, _, _, _, h, _, _, _ => by simp [cmpOk] at h
  | .str _, .int _, _, _, _, _, _, _, _, _, h, _, _, _ => by simp [cmpOk] at h
  | .str _, .list _, _, _, _, _, _, _, _, _, h, _, _, _ => by simp [cmpOk] at h
  | .str _, .tuple _, _, _, _, _, _, _, _, _, h, _, _, _ => by simp [cmpOk] at h
  | .str _, .dict _, _, _, _, _, _, _, _, _, h, _, _, _ => by simp [cmpOk] at h
  | .tuple _, .none, _, _, _, _, _, _, _, _, h, _, _, _ => by simp [cmpOk] at h
  | .tuple _, .bool _, _, _, _, _, _, _, _, _, h, _, _, _ => by simp [cmpOk] at h
  | .tuple _, .int _, _, _, _, _, _, _, _, _, h, _, _, _ => by simp [cmpOk] at h
  | .tuple _, .str _, _, _, _, _, _, _, _, _, h, _, _, _ => by simp [cmpOk] at h
  | .tuple _, .list _, _, _, _, _, _, _, _, _, h, _, _, _ => by simp [cmpOk] at h
  | .tuple _, .dict _, _, _, _, _, _, _, _, _, h, _, _, _ => by simp [cmpOk] at h
theorem rc_datas {op : CmpOp} (ho : IsCmp op) : ∀ (xs ys : List PyData) (A : Around) (s : Shared) (z : Bool) (vs ws : List Value) (as bs : List Addr), ReadsAll s.heap vs xs as → ReadsAll s.heap ws ys bs → cmpOks xs ys = true → PyData.canLayAll0 xs = true → PyData.canLayAll0 ys = true →
    A.units + min (PyData.depthAll xs) (PyData.depthAll ys) < cLine → Cmp A s op z (vs.zip ws) (cmpVs op z xs ys)
  | [], _, A, s, z, _, _, _, _, ra, _, _, _, _, _ => by cases ra; simp only [List.zip_nil_left, cmpVs]; exact .nil
  | _ :: _, [], A, s, z, _, _, _, _, ra, rb, _, _, _, _ => by cases rb; simp only [List.zip_nil_right, cmpVs]; exact .nil
  | x :: xs, y :: ys, A, s, z, _, _, _, _, ra, rb, hc, ha, hb, hu => by
    cases ra with
    | cons r rs =>
      cases rb with
      | cons r' rs' =>
        rw [PyData.canLayAll0, Bool.and_eq_true] at ha hb
        rw [List.zip_cons_cons]
        have he := eqAt_reads x y A s _ _ _ _ r r' ha.1 hb.1 (room_head hu)
        rw [cmpOks] at hc
        cases hx : PyData.eqv x y with
        | true =>
          rw [hx] at he hc
          rw [cmpVs, hx, if_pos rfl]
          exact .same he (rc_datas ho xs ys A s z _ _ _ _ rs rs' hc ha.2 hb.2 (room_tail hu))
        | false =>
          rw [hx] at he hc
          rw [cmpVs, hx, if_neg Bool.false_ne_true]
          exact .stop he (rc_data ho x y A s _ _ _ _ r r' hc ha.1 hb.1 (room_head hu))
end
end Ab
namespace Ab
open PySem L2
/-- x op y, data that Python can compare -/
def rCmp (op : CmpOp) (K : PySem.W.Frag) : R2 := fun x y H Q => ∃ d e, Dp K H x d ∧ Dp K H y e ∧ cmpOk d e = true ∧ SeqAt.shaped d = true ∧ SeqAt.shaped e = true ∧ Q (.bl (cmpV op d e)) H
theorem op_cmp {X : Cx} {op : CmpOp} (hu : X.A.units + 64 < cLine) (ho : IsCmp op) : OpR X (compareOp op) (rCmp op X.K) := fun pins s σ H x y v u Q I rx ry ⟨d, e, hd, he, hc, sd, se, q⟩ => by
  obtain ⟨_, r1⟩ := Dp.reads I d x v hd rx
  obtain ⟨_, r2⟩ := Dp.reads I e y u he ry
  have z := rc_data ho d e X.A s v u _ _ r1 r2 hc (SeqAt.canLay_of_shaped sd) (SeqAt.canLay_of_shaped se) (SeqAt.room_of_shaped sd hu)
  cases ho <;> exact z _ _ _ _ ⟨.bl _, H, I, rfl, q⟩
theorem op_ltD {X : Cx} (hu : X.A.units + 64 < cLine) : OpR X (compareOp .Lt) (rCmp .Lt X.K) := op_cmp hu .lt
theorem op_gtD {X : Cx} (hu : X.A.units + 64 < cLine) : OpR X (compareOp .Gt) (rCmp .Gt X.K) := op_cmp hu .gt
theorem op_leD {X : Cx} (hu : X.A.units + 64 < cLine) : OpR X (compareOp .LtE) (rCmp .LtE X.K) := op_cmp hu .le
theorem op_geD {X : Cx} (hu : X.A.units + 64 < cLine) : OpR X (compareOp .GtE) (rCmp .GtE X.K) := op_cmp hu .ge
section
variable {K : PySem.W.Frag} {M : MH} {Q : Sl → MH → Prop}
theorem w2_cmp {op : CmpOp} {d e : PyData} (hc : cmpOk d e = true) (h1 : SeqAt.shaped d = true) (h2 : SeqAt.shaped e = true) (q : Q (.bl (cmpV op d e)) M) : W2 K (rCmp op K) (.dat d) (.dat e) M Q := fun B H v w hS o1 o2 Q0 k =>
  ⟨d, e, dq_dp _ _ (dp_same hS.sub _ _ o1), dq_dp _ _ (dp_same hS.sub _ _ o2), hc, h1, h2, k _ _ M B H q (Same.refl B) hS slok_bl⟩
end
end Ab

set_option Elab.async false
set_option linter.all false
set_option maxRecDepth 100000
set_option  maxHeartbeats 4000000
/-! Ab8: the draws of a law (defs that take the state of the draws), comprehensions of draws, join, index, + and slices of tuples. -/
namespace Ab
open PySem L2
theorem room65 {k : Nat} {A : Around} (r : Room k A) : A.units + 65 < cLine := by
  have := r.un
  omega
/-! ### the draws -/
/-- the state of the draws: the script, how far it is read, a number in hand, the seed -/
def DrawL (xs : List Sl) : Prop := ∃ (sc : List Int) (pos cur seed : Int), xs = [.dat (.list (sc.map .int)), .int pos, .int cur, .int seed] ∧ 0 ≤ pos
def A_next : ASp := fun ss M Q => ∃ (p : Addr) (n : Int) (xs : List Sl), ss = [.ref p, .int n] ∧ M p = some (.lst xs) ∧ DrawL xs ∧ 0 < n ∧ n ≤ 10 ^ 40 ∧ ∀ (v : Int) (ys : List Sl), 0 ≤ v → v < n → DrawL ys → Q (.int v) (um M p (.lst ys))
/-- a def that draws something of a sort -/
def A_gen (R : List PyData → Prop) (P : List PyData → PyData → Prop) : ASp := fun ss M Q => ∃ (p : Addr) (xs : List Sl) (ds : List PyData), ss = .ref p :: ds.map .dat ∧ R ds ∧ M p = some (.lst xs) ∧ DrawL xs ∧ ∀ d ys, P ds d → DrawL ys → Q (.dat d) (um M p (.lst ys))
theorem a_next {M : MH} {p : Addr} {n : Int} {ys : List Sl} {Q : Sl → MH → Prop} (hD : DrawL ys) (h0 : 0 < n) (h1 : n ≤ 10 ^ 40) (q : ∀ (v : Int) (zs : List Sl), 0 ≤ v → v < n → DrawL zs → Q (.int v) (um M p (.lst zs))) : A_next [.ref p, .int n] (um M p (.lst ys)) Q :=
  ⟨p, n, ys, rfl, um_same, hD, h0, h1, fun v zs a b c => by rw [um_um]; exact q v zs a b c⟩
theorem a_gen {R : List PyData → Prop} {P : List PyData → PyData → Prop} {M : MH} {p : Addr} {ys : List Sl} {Q : Sl → MH → Prop} (hD : DrawL ys) (ds : List PyData) (hR : R ds) (q : ∀ d zs, P ds d → DrawL zs → Q (.dat d) (um M p (.lst zs))) : A_gen R P (.ref p :: ds.map .dat) (um M p (.lst ys)) Q :=
  ⟨p, ys, ds, rfl, hR, um_same, hD, fun d zs a b => by rw [um_um]; exact q d zs a b⟩
/-- a draw with no more to be told -/
theorem a_gen0 {R : List PyData → Prop} {P : List PyData → PyData → Prop} {M : MH} {p : Addr} {ys : List Sl} {Q : Sl → MH → Prop} (hD : DrawL ys) (hR : R []) (q : ∀ d zs, P [] d → DrawL zs → Q (.dat d) (um M p (.lst zs))) : A_gen R P [.ref p] (um M p (.lst ys)) Q := a_gen hD [] hR q
theorem a_gen1 {R : List PyData → Prop} {P : List PyData → PyData → Prop} {M : MH} {p : Addr} {ys : List Sl} {Q : Sl → MH → Prop} {x : PyData} (hD : DrawL ys) (hR : R [x]) (q : ∀ d zs, P [x] d → DrawL zs → Q (.dat d) (um M p (.lst zs))) : A_gen R P [.ref p, .dat x] (um M p (.lst ys)) Q := a_gen hD [x] hR q
section
variable {K : PySem.W.Frag} {ρ : Rho} {M : MH} {Q Q' : Sl → MH → Prop} {ta tb te tc to : TE}
/-- [te for _ in range(n)], te a draw -/
theorem w_lcGen {t : TA} {j : Nat} {vs : List Nat} {p : Addr} (hj : j ∈ vs) (P : PyData → Prop)
    (hl : WA K t ρ M fun ss M1 => ∃ (n : Int) (M0 : MH) (ys : List Sl), ss = [.int n] ∧ M1 = um M0 p (.lst ys) ∧ DrawL ys ∧ n ≤ 100000 ∧ -100000 ≤ n ∧
      (∀ (i : Nat) M2 zs, (i : Int) < n → DrawL zs → W K te ((wipeR ρ vs).set j (some (.int (i : Int)))) (um M2 p (.lst zs)) fun s M4 => ∃ d us, s = .dat d ∧ M4 = um M2 p (.lst us) ∧ DrawL us ∧ P d) ∧
      ∀ ds zs, DrawL zs → ds.length = n.toNat → (∀ d ∈ ds, P d) → Q (.dat (.list ds)) (um M0 p (.lst zs))) : W K (tLc (iRng1 t) (gName j) tYes te vs) ρ M Q :=
  w_lc hj (wi_r1 fun σ B H hR hS Q0 k => hl σ B H hR hS Q0 fun ss ws M' B' H' ⟨n, M0, ys, e1, e2, hD, hn, hn', hs, q⟩ => by
    subst e1 e2
    refine k _ ws _ B' H' ⟨n, rfl, by omega, by omega, fun i acc M2 => ∃ zs, M2 = um M0 p (.lst zs) ∧ DrawL zs ∧ acc.length = i ∧ ∀ d ∈ acc, P d, ⟨ys, rfl, hD, rfl, fun d hd => (nomatch hd)⟩, fun _ _ _ _ _ _ _ _ => trivial, ?_, ?_⟩
    · rintro i acc M2 D hi ⟨zs, rfl, hz, hl, hP⟩ hDn
      refine wt_yes ?_
      have hne : p ≠ D := fun e => by rw [← e, um_same] at hDn; cases hDn
      rw [um_comm hne]
      refine (hs i _ zs (by omega) hz).imp fun s M4 ⟨d, us, e1, e2, hu, hp⟩ => ⟨d, um M0 p (.lst us), e1, ?_, ?_, by omega, us, rfl, hu, by rw [List.length_append, hl]; rfl, fun d' hd' => ?_⟩
      · rw [e2, um_comm hne.symm]
      · rw [um_ne hne.symm] at hDn ⊢
        exact hDn
      · rcases List.mem_append.mp hd' with h | h
        · exact hP d' h
        · rw [List.mem_singleton.mp h]; exact hp
    · rintro acc M2 ⟨zs, rfl, hz, hl, hP⟩
      exact q acc zs hz hl hP)
/-- a comprehension whose list will be changed -/
theorem w_lcM {wi : TI} {tt : TT} {j : Nat} {vs : List Nat} (hj : j ∈ vs) (h : WI K wi ρ M fun n item stay M1 => ∃ J : Nat → List PyData → MH → Prop, J 0 [] M1 ∧ (∀ i acc M', i ≤ n → J i acc M' → ∀ D o, M' D = none → stay (um M' D o)) ∧
    (∀ i acc M' D, i < n → J i acc M' → M' D = none → WT K tt ((wipeR ρ vs).set j (some (item i))) (um M' D (.lst (acc.map .dat))) fun b M3 =>
      if b = true then W K te ((wipeR ρ vs).set j (some (item i))) M3 fun s M4 => ∃ d M5, s = .dat d ∧ M4 = um M5 D (.lst (acc.map .dat)) ∧ M5 D = none ∧ acc.length < 100000 ∧ J (i + 1) (acc ++ [d]) M5
      else ∃ M5, M3 = um M5 D (.lst (acc.map .dat)) ∧ M5 D = none ∧ J (i + 1) acc M5) ∧
    ∀ acc M' D, J n acc M' → M' D = none → Q (.raw (.ref D)) (um M' D (.lst (acc.map .dat)))) : W K (tLc wi (gName j) tt te vs) ρ M Q := fun σ B H hR hS Q0 k =>
  h σ B H hR hS _ fun n item stay M1 B1 H1 It ⟨J, j0, js, jt, je⟩ e1 S1 ok => fun D hD => by
    have hwp : ∀ x, wipe ((wipe σ vs).set j (some x)) vs = wipe σ vs := fun x => by rw [wipe_set _ _ _ _ hj, wipe_wipe]
    refine ⟨fun i m H' => m = n - i ∧ i ≤ n ∧ ∃ acc M' B', J i acc M' ∧ M' D = none ∧ Same B1 B' ∧ Sep K B' (um M' D (.lst (acc.map .dat))) H', ⟨n, by simp, Nat.zero_le _, [], M1, B1, j0, S1.freeM hD, Same.refl _, S1.new hD ⟨[], rfl, .nil⟩⟩, ?_⟩
    rintro i m H' ⟨rfl, hi, acc, M', B', hj', hMD, e2, S2⟩
    by_cases hlt : i < n
    · refine .inr ⟨ok.go i B' _ H' hlt e2 S2 (js i acc M' hi hj' D _ hMD), fun H2 => ∃ acc M2 B2, J (i + 1) acc M2 ∧ M2 D = none ∧ Same B1 B2 ∧ Sep K B2 (um M2 D (.lst (acc.map .dat))) H2, fun H2 ⟨acc, M2, B2, q⟩ => ⟨n - (i + 1), by omega, rfl, hlt, acc, M2, B2, q⟩, fun x H3 y => ?_⟩
      obtain ⟨B3, e3, S3, o3⟩ := ok.yld i B' _ H' x H3 hlt e2 S2 (js i acc M' hi hj' D _ hMD) y
      refine ⟨hwp x, ?_⟩
      have R3 : Rl K B3 ((wipe σ vs).set j (some x)) ((wipeR ρ vs).set j (some (item i))) := Rl.put o3 j ((hR.mono ((e1.trans e2).trans e3)).wiped vs)
      refine jt i acc M' D hlt hj' hMD _ B3 H3 R3 S3 _ fun b M4 B4 H4 q4 e4 S4 => ?_
      have e14 := (e2.trans e3).trans e4
      cases b with
      | true =>
        refine q4 _ B4 H4 (R3.mono e4) S4 _ fun s v M5 B5 H5 ⟨d, M6, es, em, hn6, hl6, hj6⟩ e5 S5 o5 => ?_
        subst es em
        obtain ⟨_, u, hu, ws, rfl, ha⟩ := S5.has D _ um_same
        have hlen := SlAll.len ha
        rw [List.length_map] at hlen
        refine ⟨ws, hu, Nat.lt_of_lt_of_le (by omega) (show 100000 ≤ sizeLine by decide), acc ++ [d], M6, B5, hj6, hn6, e14.trans e5, ?_⟩
        have S6 := S5.put (u := .lst (ws ++ [v])) (o' := .lst ((acc ++ [d]).map .dat)) um_same ⟨_, rfl, by rw [List.map_append]; exact SlAll.app ha (.cons o5 .nil)⟩
        rw [um_um] at S6
        exact S6
      | false =>
        obtain ⟨M5, em, hn5, hj5⟩ := q4
        subst em
        exact ⟨acc, M5, B4, hj5, hn5, e14, S4⟩
    · have ei : i = n := by omega
      subst ei
      refine .inl ⟨ok.stop i B' _ H' (Nat.le_refl _) e2 S2 (js i acc M' hi hj' D _ hMD), ?_⟩
      exact k _ _ _ B' H' (je acc M' D hj' hMD) (e1.trans e2) S2 slok_ref
/-- the same, a list that will be changed -/
theorem w_lcGenM {t : TA} {j : Nat} {vs : List Nat} {p : Addr} (hj : j ∈ vs) (P : PyData → Prop)
    (hl : WA K t ρ M fun ss M1 => ∃ (n : Int) (M0 : MH) (ys : List Sl), ss = [.int n] ∧ M1 = um M0 p (.lst ys) ∧ DrawL ys ∧ n ≤ 100000 ∧ -100000 ≤ n ∧
      (∀ (i : Nat) M2 zs, (i : Int) < n → DrawL zs → W K te ((wipeR ρ vs).set j (some (.int (i : Int)))) (um M2 p (.lst zs)) fun s M4 => ∃ d us, s = .dat d ∧ M4 = um M2 p (.lst us) ∧ DrawL us ∧ P d) ∧
      ∀ (ds : List PyData) (zs : List Sl) (D : Addr), DrawL zs → ds.length = n.toNat → (∀ d ∈ ds, P d) → um M0 p (.lst zs) D = none → Q (.ref D) (um (um M0 p (.lst zs)) D (.lst (ds.map .dat)))) : W K (tLc (iRng1 t) (gName j) tYes te vs) ρ M Q :=
  w_lcM hj (wi_r1 fun σ B H hR hS Q0 k => hl σ B H hR hS Q0 fun ss ws M' B' H' ⟨n, M0, ys, e1, e2, hD, hn, hn', hs, q⟩ => by
    subst e1 e2
    refine k _ ws _ B' H' ⟨n, rfl, by omega, by omega, fun i acc M2 => ∃ zs, M2 = um M0 p (.lst zs) ∧ DrawL zs ∧ acc.length = i ∧ ∀ d ∈ acc, P d, ⟨ys, rfl, hD, rfl, fun d hd => (nomatch hd)⟩, fun _ _ _ _ _ _ _ _ => trivial, ?_, ?_⟩
    · rintro i acc M2 D hi ⟨zs, rfl, hz, hl, hP⟩ hDn
      refine wt_yes ?_
      have hne : p ≠ D := fun e => by rw [← e, um_same] at hDn; cases hDn
      rw [um_comm hne]
      refine (hs i _ zs (by omega) hz).imp fun s M4 ⟨d, us, e1, e2, hu, hp⟩ => ⟨d, um M0 p (.lst us), e1, ?_, ?_, by omega, us, rfl, hu, by rw [List.length_append, hl]; rfl, fun d' hd' => ?_⟩
      · rw [e2, um_comm hne.symm]
      · rw [um_ne hne.symm] at hDn ⊢
        exact hDn
      · rcases List.mem_append.mp hd' with h | h
        · exact hP d' h
        · rw [List.mem_singleton.mp h]; exact hp
    · rintro acc M2 D ⟨zs, rfl, hz, hl, hP⟩ hD2
      exact q acc zs D hz hl hP hD2)
/-- [f(x) for x in a tuple of data], nothing else is touched -/
theorem getD_mapT {α : Type} {enc : α → PyData} {xs : List α} {i : Nat} (h : i < xs.length) : ((xs.map enc).map Sl.dat).getD i .non = .dat (enc xs[i]) := getD_map h
theorem w_lcT {α : Type} {enc : α → PyData} {xs : List α} {tl : TE} {j : Nat} {vs : List Nat} {M1 : MH} (hj : j ∈ vs) (hl : W K tl ρ M fun s M2 => s = .dat (.tuple (xs.map enc)) ∧ M2 = M1) (hz : xs.length ≤ 100000) (f : α → PyData)
    (he : ∀ x D o, x ∈ xs → M1 D = none → W K te ((wipeR ρ vs).set j (some (.dat (enc x)))) (um M1 D o) fun s M' => s = .dat (f x) ∧ M' = um M1 D o) (q : Q (.dat (.list (xs.map f))) M1) : W K (tLc (iTup K tl) (gName j) tYes te vs) ρ M Q :=
  w_lc hj (wi_tup (hl.imp fun s M2 ⟨e1, e2⟩ => by
    subst e1 e2
    refine ⟨_, tpv_dat, fun i acc M' => M' = M2 ∧ acc = (xs.take i).map f, ⟨rfl, by simp⟩, fun _ _ _ _ _ _ _ _ => trivial, fun i acc M' D hi ⟨eM, ea⟩ hD => ?_, fun acc M' ⟨eM, ea⟩ => ?_⟩
    · subst eM ea
      have hi' : i < xs.length := by simpa using hi
      refine wt_yes ?_
      show W K te ((wipeR ρ vs).set j (some (((xs.map enc).map Sl.dat).getD i .non))) _ _
      rw [getD_map hi']
      refine (he xs[i] D _ (List.getElem_mem hi') hD).imp fun s M' ⟨e1, e2⟩ => ⟨f xs[i], _, e1, e2, hD, ?_, rfl, ?_⟩
      · rw [List.length_map, List.length_take]
        omega
      · rw [List.take_succ_eq_append_getElem hi', List.map_append]
        rfl
    · subst eM ea
      rw [List.length_map, List.length_map, List.take_length]
      exact q))
/-- for _ in range(n), n found on the way -/
theorem ws_forRn {nx bk ct : Rho → MH → Prop} {rt : Sl → MH → Prop} {t : TA} {g : TG} {tb : TS} (h : WA K t ρ M fun xs M1 => ∃ n : Int, xs = [.int n] ∧ -(2 ^ 62) ≤ n ∧ n < 2 ^ 62 ∧ ∃ J : Nat → Rho → MH → Prop, J 0 ρ M1 ∧
    (∀ (i : Nat) ρ' M', (i : Int) < n → J i ρ' M' → WG K g (.int (i : Int)) ρ' M' fun ρ2 M2 => WS K tb ρ2 M2 ⟨J (i + 1), rt, nx, J (i + 1)⟩) ∧ ∀ ρ' M', J n.toNat ρ' M' → nx ρ' M') : WS K (tFor (iRng1 t) g tb) ρ M ⟨nx, rt, bk, ct⟩ :=
  ws_for (wi_r1 fun σ B H hR hS Q0 k => h σ B H hR hS Q0 fun ss vs M' B' H' ⟨n, e1, h1, h2, J, j0, js, je⟩ => by
    subst e1
    exact k _ vs _ B' H' ⟨n, rfl, h1, h2, J, j0, fun _ _ _ _ _ => trivial, fun i ρ' M' hi hj => js i ρ' M' (by omega) hj, je⟩)
/-! ### one of a list -/
theorem w2_ixAny {ds : List PyData} {i : Int} (h0 : 0 ≤ i) (h : i < ds.length) (q : ∀ d ∈ ds, Q (.dat d) M) : W2 K (rIxL K) (.dat (.list ds)) (.int i) M Q := by
  have hi : i.toNat < ds.length := by omega
  refine w2_ixL (x := .dat ds[i.toNat]) lsv_dat ?_ (q _ (List.getElem_mem hi))
  rw [atI_map, atI_ok h0 (List.getElem?_eq_getElem hi)]
  rfl
/-! ### tuples: slices, + -/
theorem cutG_all {α : Type} {xs : List α} {lo hi : Option Int} (h : HT.sIx xs.length 0 lo = 0 ∧ HT.sIx xs.length xs.length hi = xs.length) : cutG xs lo hi = xs := by
  unfold cutG
  rw [h.1, h.2]
  simp
theorem wsl_tup {ds : List PyData} {lo hi : Option Int} (q : Q (.dat (.tuple (cutG ds lo hi))) M) : WSl K (rSlA K) (.dat (.tuple ds)) lo hi M Q := fun B H v hS o Q0 k => by
  obtain ⟨a, vs, rfl, hq, ha⟩ := (tpv_dat (ds := ds)).get hS o
  have hl := DqAll.length (dpa_of ha)
  refine ⟨a, vs, rfl, hq, fun hw => ?_, fun hw p hp => ?_⟩
  · rw [hl] at hw
    rw [cutG_all hw] at q
    exact k _ _ M B H q (Same.refl B) hS o
  · exact k _ _ M (upd B p (.tup (cutV vs lo hi))) _ q (same_new (hS.freeB hp)) (hS.alloc hp) (tup_ok (dpa_cut (dpa_of ha) lo hi) (hS.freeB hp))
theorem w2_catT {ds es : List PyData} (hl : ds.length + es.length ≤ 100000) (q : Q (.dat (.tuple (ds ++ es))) M) : W2 K (rCatA K) (.dat (.tuple ds)) (.dat (.tuple es)) M Q := fun B H v w hS o1 o2 Q0 k => by
  obtain ⟨a, vs, rfl, hq, ha⟩ := (tpv_dat (ds := ds)).get hS o1
  obtain ⟨b, ws, rfl, hq2, ha2⟩ := (tpv_dat (ds := es)).get hS o2
  have l1 := DqAll.length (dpa_of ha)
  have l2 := DqAll.length (dpa_of ha2)
  refine ⟨a, b, vs, ws, rfl, rfl, hq, hq2, Nat.le_trans (by omega) (show 100000 ≤ sizeLine by decide), fun e => ?_, fun _ e => ?_, fun _ _ p hp => ?_⟩
  · subst e
    cases ds with
    | nil => exact k _ _ M B H q (Same.refl B) hS o2
    | cons _ _ => cases l1
  · subst e
    cases es with
    | nil => rw [List.append_nil] at q; exact k _ _ M B H q (Same.refl B) hS o1
    | cons _ _ => cases l2
  · exact k _ _ M (upd B p (.tup (vs ++ ws))) _ q (same_new (hS.freeB hp)) (hS.alloc hp) (tup_ok (DqAll.app (dpa_of ha) (dpa_of ha2)) (hS.freeB hp))
theorem wl_min {i j : Int} (q : Q (.int (if j < i then j else i)) M) : WL K (fun xs H Q => ∃ i j, xs = [.int i, .int j] ∧ Q (.int (if j < i then j else i)) H) [.dat (.int i), .dat (.int j)] M Q := fun B H vs hS o Q0 k => by
  cases o with
  | cons o1 o2 => cases o2 with
    | cons o2 o3 =>
      cases o3
      exact ⟨i, j, by rw [of_int o1, of_int o2], k _ _ M B H q (Same.refl B) hS slok_int⟩
/-! ### texts -/
theorem dpa_strs {B : Hp} : ∀ {vs : List V} {ys : List Str}, DqAll K B vs (ys.map .str) → vs = ys.map V.str
  | _, [], .nil => rfl
  | _, _ :: _, .cons h t => by
    cases h
    rw [dpa_strs t]
    rfl
abbrev rJoin (K : PySem.W.Frag) : V → List V → Hp → VK → Prop := fun x xs H Q => ∃ a p, ∃ ys : List Str, x = .str a ∧ xs = [.ref p] ∧ (SqL K H p (ys.map V.str) ∨ SqT K H p (ys.map V.str)) ∧ (ys.map (·.length)).sum + ys.length * a.length ≤ 16777216 ∧ Q (.str (Txt.join a ys)) H
theorem w_join (h : W K to ρ M fun s M1 => ∃ a, s = .str a ∧ W K te ρ M1 fun x M2 => ∃ ys : List Str, x = .dat (.list (ys.map .str)) ∧ (ys.map (·.length)).sum + ys.length * a.length ≤ 16777216 ∧ Q (.str (Txt.join a ys)) M2) : W K (tM1 (rJoin K) to te) ρ M Q := fun σ B H hR hS Q0 k =>
  h σ B H hR hS _ fun s v M1 B1 H1 ⟨a, es, h1⟩ e1 S1 o1 => by
    subst es
    refine ⟨⟨a, of_str o1⟩, h1 σ B1 H1 (hR.mono e1) S1 _ fun x w M2 B2 H2 ⟨ys, ex, hl, q⟩ e2 S2 o2 => ?_⟩
    subst ex
    obtain ⟨p, vs, rfl, hq, ha⟩ := (lsv_dat (K := K) (ds := ys.map .str) (M := M2)).get S2 o2
    have ev := dpa_strs (dpa_of ha)
    subst ev
    exact ⟨a, p, ys, of_str o1, rfl, .inl hq, hl, k _ _ M2 B2 H2 q (e1.trans e2) S2 slok_str⟩
/-! ### index -/
abbrev rTIndex (K : PySem.W.Frag) : V → List V → Hp → VK → Prop := fun x xs H Q => ∃ p, ∃ ys : List Str, ∃ z j, x = .ref p ∧ xs = [.str z] ∧ SqT K H p (ys.map V.str) ∧ ys[j]? = some z ∧ (∀ m, m < j → ys[m]? ≠ some z) ∧ Q (.int (j : Nat)) H
/-- a tuple of texts of the module -/
def TupC (K : PySem.W.Frag) (c : Addr) (ys : List Str) : Prop := (∃ o, K.lookup c = some o ∧ o.cls = .type "tuple" ∧ o.dict = none) ∧ ∀ H, SqT K H c (ys.map V.str)
theorem wm_tindex {ys : List Str} {z : Str} {j : Nat} {c : Addr} (hc : TupC K c ys) (h1 : ys[j]? = some z) (h2 : ∀ m, m < j → ys[m]? ≠ some z) (q : Q (.int (j : Nat)) M) : WM K (rTIndex K) (.raw (.ref c)) [.str z] M Q := fun B H v vs hS o1 o2 Q0 k => by
  cases o2 with
  | cons a b =>
    cases b
    exact ⟨c, ys, z, j, o1, by rw [of_str a], hc.2 H, h1, h2, k _ _ M B H q (Same.refl B) hS slok_int⟩
theorem ty_tupC {ys : List Str} {c : Addr} (hc : TupC K c ys) : ∀ B H v, Sep K B M H → SlOk K B v (.raw (.ref c)) → tyV K "tuple" v H := fun B H v S o => by
  obtain ⟨ob, h⟩ := hc.1
  have e : v = .ref c := o
  subst e
  exact .inr (.inl ⟨rfl, ob, h⟩)
theorem wm_index {ds : List PyData} {d z : PyData} {j : Nat} (s1 : SeqAt.shaped (.list ds) = true) (s2 : SeqAt.shaped d = true) (h1 : ds[j]? = some z) (h2 : PyData.eqv z d = true) (h3 : ∀ (m : Nat) (z' : PyData), m < j → ds[m]? = some z' → PyData.eqv z' d = false) (q : Q (.int (j : Nat)) M) : WM K (rIndexD K) (.dat (.list ds)) [.dat d] M Q := fun B H v vs hS o1 o2 Q0 k => by
  obtain ⟨a, us, rfl, hq, ha⟩ := (lsv_dat (K := K) (ds := ds) (M := M)).get hS o1
  cases o2 with
  | cons x y =>
    cases y
    exact ⟨a, _, d, ds, j, z, rfl, rfl, dq_dp _ _ (dp_same hS.sub _ _ o1), dq_dp _ _ (dp_same hS.sub _ _ x), s1, s2, h1, h2, h3, k _ _ M B H q (Same.refl B) hS slok_int⟩
end
end Ab

set_option Elab.async false
set_option linter.all false
set_option maxRecDepth 100000
set_option  maxHeartbeats 4000000
/-! Rb: what a rule base is made of (values, rows, terms, literals, items), as data. -/
namespace Ab
open PySem L2
def goodS (z : Str) : Bool := decide (z.length ≤ 40) && z.cps.toList.all fun c => decide (32 ≤ c) && decide (c < 127) && decide (c ≠ 37)
theorem goodS_ok {z : Str} (h : goodS z = true) : PyData.strOk z = true := by
  unfold goodS at h
  rw [Bool.and_eq_true, List.all_eq_true] at h
  unfold PyData.strOk
  rw [← Array.all_toList, List.all_eq_true]
  intro c hc
  have := h.2 c hc
  simp only [Bool.and_eq_true, decide_eq_true_eq] at this
  exact decide_eq_true (by omega)
inductive Val where
  | int (n : Int)
  | str (z : Str)
  deriving DecidableEq
def Val.enc : Val → PyData
  | .int n => .int n
  | .str z => .str z
def Val.ok : Val → Prop
  | .int n => n.natAbs < 10 ^ 30
  | .str z => goodS z = true
theorem Val.enc_inj {v w : Val} (h : v.enc = w.enc) : v = w := by
  cases v <;> cases w <;> simp_all [Val.enc]
inductive Term where
  | any
  | value (v : Val)
  | variable (z : Str)
  deriving DecidableEq
def Term.enc : Term → PyData
  | .any => .tuple [.str "any"]
  | .value v => .tuple [.str "value", v.enc]
  | .variable z => .tuple [.str "variable", .str z]
def Term.ok : Term → Prop
  | .any => True
  | .value v => v.ok
  | .variable z => goodS z = true
inductive Lit where
  | fact (rel : Str) (ts : List Term)
  | neg (rel : Str) (ts : List Term)
  | compare (op : Str) (s t : Term)
  | is (x op : Str) (s t : Term)
  | count (x rel : Str) (ts : List Term)
  deriving DecidableEq
abbrev encT (ts : List Term) : PyData := .tuple (ts.map Term.enc)
abbrev encR (row : List Val) : PyData := .tuple (row.map Val.enc)
def Lit.enc : Lit → PyData
  | .fact r ts => .tuple [.str "fact", .str r, encT ts]
  | .neg r ts => .tuple [.str "not", .str r, encT ts]
  | .compare op s t => .tuple [.str "compare", .str op, s.enc, t.enc]
  | .is x op s t => .tuple [.str "is", .str x, .str op, s.enc, t.enc]
  | .count x r ts => .tuple [.str "count", .str x, .str r, encT ts]
def okTs (ts : List Term) : Prop := ts.length ≤ 1000 ∧ ∀ t ∈ ts, t.ok
def okR (row : List Val) : Prop := row.length ≤ 1000 ∧ ∀ v ∈ row, v.ok
def opsC : List Str := ["=", "<>", "<", "<=", ">", ">="]
def opsI : List Str := ["+", "-", "*"]
def Lit.ok : Lit → Prop
  | .fact r ts => goodS r = true ∧ okTs ts
  | .neg r ts => goodS r = true ∧ okTs ts
  | .compare op s t => op ∈ opsC ∧ s.ok ∧ t.ok
  | .is x op s t => goodS x = true ∧ op ∈ opsI ∧ s.ok ∧ t.ok
  | .count x r ts => goodS x = true ∧ goodS r = true ∧ okTs ts
abbrev encB (b : List Lit) : PyData := .tuple (b.map Lit.enc)
def okB (b : List Lit) : Prop := b.length ≤ 1000 ∧ ∀ l ∈ b, l.ok
inductive Item where
  | relation (n : Str) (w : Int)
  | fact (n : Str) (row : List Val)
  | rule (n rel : Str) (hd : List Term) (b : List Lit)
  | denial (n : Str) (b : List Lit)
  deriving DecidableEq
def Item.enc : Item → PyData
  | .relation n w => .tuple [.str "relation", .str n, .int w]
  | .fact n row => .tuple [.str "fact", .str n, encR row]
  | .rule n rel hd b => .tuple [.str "rule", .str n, .str rel, encT hd, encB b]
  | .denial n b => .tuple [.str "denial", .str n, encB b]
def Item.ok : Item → Prop
  | .relation n w => goodS n = true ∧ 0 ≤ w ∧ w ≤ 1000
  | .fact n row => goodS n = true ∧ okR row
  | .rule n rel hd b => goodS n = true ∧ goodS rel = true ∧ okTs hd ∧ okB b
  | .denial n b => goodS n = true ∧ okB b
/-! ### depth -/
theorem okD_str {n : Nat} {z : Str} (h : PyData.strOk z = true) : okD n (.str z) = true := by cases n <;> simpa [okD] using h
theorem okD_good {n : Nat} {z : Str} (h : goodS z = true) : okD n (.str z) = true := okD_str (goodS_ok h)
theorem okD_int {n : Nat} {i : Int} : okD n (.int i) = true := by cases n <;> rfl
theorem okD_bool {n : Nat} {i : Bool} : okD n (.bool i) = true := by cases n <;> rfl
theorem Val.okD {n : Nat} : ∀ {v : Val}, v.ok → okD n v.enc = true
  | .int _, _ => okD_int
  | .str _, h => okD_good h
theorem okAll_cons {n : Nat} {x : PyData} {xs : List PyData} (h : Ab.okD n x = true) (t : okAll n xs = true) : okAll n (x :: xs) = true := by
  show (Ab.okD n x && okAll n xs) = true
  rw [h, t]
  rfl
theorem okD_upTo {n m : Nat} {d : PyData} (h : okD n d = true) (hm : n ≤ m) : okD m d = true := by
  induction hm with
  | refl => exact h
  | step _ ih => exact okD_up ih
theorem Term.okD {n : Nat} : ∀ {t : Term}, t.ok → okD (n + 1) t.enc = true
  | .any, _ => okD_mkT (by simp) (okAll_cons (okD_str (by decide +kernel)) rfl)
  | .value v, h => okD_mkT (by simp) (okAll_cons (okD_str (by decide +kernel)) (okAll_cons (Val.okD h) rfl))
  | .variable z, h => okD_mkT (by simp) (okAll_cons (okD_str (by decide +kernel)) (okAll_cons (okD_good h) rfl))
theorem okTs_okD {n : Nat} {ts : List Term} (h : okTs ts) : okD (n + 2) (encT ts) = true := okD_mkT (by rw [List.length_map]; have := h.1; omega) (okAll_of fun d hd => by
  obtain ⟨t, ht, rfl⟩ := List.mem_map.mp hd
  exact Term.okD (h.2 t ht))
theorem okR_okD {n : Nat} {row : List Val} (h : okR row) : okD (n + 1) (encR row) = true := okD_mkT (by rw [List.length_map]; have := h.1; omega) (okAll_of fun d hd => by
  obtain ⟨t, ht, rfl⟩ := List.mem_map.mp hd
  exact Val.okD (h.2 t ht))
theorem ops_ok {op : Str} (h : op ∈ opsC) : PyData.strOk op = true := by
  have : ∀ op ∈ opsC, PyData.strOk op = true := by decide +kernel
  exact this op h
theorem opsI_ok {op : Str} (h : op ∈ opsI) : PyData.strOk op = true := by
  have : ∀ op ∈ opsI, PyData.strOk op = true := by decide +kernel
  exact this op h
theorem Lit.okD {n : Nat} : ∀ {t : Lit}, t.ok → okD (n + 3) t.enc = true
  | .fact _ _, h => okD_mkT (by simp) (okAll_cons (okD_str (by decide +kernel)) (okAll_cons (okD_good h.1) (okAll_cons (okTs_okD h.2) rfl)))
  | .neg _ _, h => okD_mkT (by simp) (okAll_cons (okD_str (by decide +kernel)) (okAll_cons (okD_good h.1) (okAll_cons (okTs_okD h.2) rfl)))
  | .compare _ _ _, h => okD_mkT (by simp) (okAll_cons (okD_str (by decide +kernel)) (okAll_cons (okD_str (ops_ok h.1)) (okAll_cons (Term.okD h.2.1) (okAll_cons (Term.okD h.2.2) rfl))))
  | .is _ _ _ _, h => okD_mkT (by simp) (okAll_cons (okD_str (by decide +kernel)) (okAll_cons (okD_good h.1) (okAll_cons (okD_str (opsI_ok h.2.1)) (okAll_cons (Term.okD h.2.2.1) (okAll_cons (Term.okD h.2.2.2) rfl)))))
  | .count _ _ _, h => okD_mkT (by simp) (okAll_cons (okD_str (by decide +kernel)) (okAll_cons (okD_good h.1) (okAll_cons (okD_good h.2.1) (okAll_cons (okTs_okD h.2.2) rfl))))
theorem okB_okD {n : Nat} {b : List Lit} (h : okB b) : okD (n + 4) (encB b) = true := okD_mkT (by rw [List.length_map]; have := h.1; omega) (okAll_of fun d hd => by
  obtain ⟨t, ht, rfl⟩ := List.mem_map.mp hd
  exact Lit.okD (h.2 t ht))
theorem Item.okD {n : Nat} : ∀ {t : Item}, t.ok → okD (n + 5) t.enc = true
  | .relation _ _, h => okD_mkT (by simp) (okAll_cons (okD_str (by decide +kernel)) (okAll_cons (okD_good h.1) (okAll_cons okD_int rfl)))
  | .fact _ _, h => okD_mkT (by simp) (okAll_cons (okD_str (by decide +kernel)) (okAll_cons (okD_good h.1) (okAll_cons (okR_okD h.2) rfl)))
  | .rule _ _ _ _, h => okD_mkT (by simp) (okAll_cons (okD_str (by decide +kernel)) (okAll_cons (okD_good h.1) (okAll_cons (okD_good h.2.1) (okAll_cons (okTs_okD h.2.2.1) (okAll_cons (okB_okD h.2.2.2) rfl)))))
  | .denial _ _, h => okD_mkT (by simp) (okAll_cons (okD_str (by decide +kernel)) (okAll_cons (okD_good h.1) (okAll_cons (okB_okD h.2) rfl)))
/-! ### == of texts -/
theorem eqv_str (x y : Str) : PyData.eqv (.str x) (.str y) = decide (x = y) := by
  simp only [PyData.eqv]
  by_cases e : x = y
  · subst e; simp
  · rw [decide_eq_false e]; exact beq_eq_false_iff_ne.mpr e
theorem eqv_val : ∀ v w : Val, PyData.eqv v.enc w.enc = decide (v = w)
  | .int a, .int b => by
    show PyData.eqv (.int a) (.int b) = _
    rw [eqv_int]
    exact decide_eq_decide.mpr ⟨fun h => by rw [h], fun h => Val.int.inj h⟩
  | .str a, .str b => by
    show PyData.eqv (.str a) (.str b) = _
    rw [eqv_str]
    exact decide_eq_decide.mpr ⟨fun h => by rw [h], fun h => Val.str.inj h⟩
  | .int a, .str b => by
    rw [decide_eq_false (by simp)]
    simp [Val.enc, PyData.eqv]
  | .str a, .int b => by
    rw [decide_eq_false (by simp)]
    simp [Val.enc, PyData.eqv]
theorem eqvAll_map {α : Type} [DecidableEq α] {f : α → PyData} (hf : ∀ x y, PyData.eqv (f x) (f y) = decide (x = y)) : ∀ xs ys : List α, PyData.eqvAll (xs.map f) (ys.map f) = decide (xs = ys)
  | [], [] => by simp [PyData.eqvAll]
  | [], _ :: _ => by simp [PyData.eqvAll]
  | _ :: _, [] => by simp [PyData.eqvAll]
  | x :: xs, y :: ys => by
    rw [List.map_cons, List.map_cons, PyData.eqvAll, hf, eqvAll_map hf xs ys]
    by_cases h1 : x = y <;> by_cases h2 : xs = ys <;> simp [h1, h2]
theorem eqv_row (a b : List Val) : PyData.eqv (encR a) (encR b) = decide (a = b) := by
  show PyData.eqv (.tuple _) (.tuple _) = _
  rw [PyData.eqv, eqvAll_map eqv_val]
section
variable {K : PySem.W.Frag} {M : MH} {Q : Sl → MH → Prop}
theorem shaped_str {z : Str} (h : PyData.strOk z = true) : SeqAt.shaped (.str z) = true := okD_shaped (n := 0) (okD_str h) (by decide)
theorem w2_eqS {x y : Str} (h1 : PyData.strOk x = true) (h2 : PyData.strOk y = true) (q : Q (.bl (decide (x = y))) M) : W2 K (rEqD K) (.dat (.str x)) (.dat (.str y)) M Q := w2_eq (shaped_str h1) (shaped_str h2) (by rw [eqv_str]; exact q)
theorem w2_neS {x y : Str} (h1 : PyData.strOk x = true) (h2 : PyData.strOk y = true) (q : Q (.bl (!decide (x = y))) M) : W2 K (rNeD K) (.dat (.str x)) (.dat (.str y)) M Q := w2_ne (shaped_str h1) (shaped_str h2) (by rw [eqv_str]; exact q)
theorem w2_eqI {i j : Int} (q : Q (.bl (decide (i = j))) M) : W2 K (rEqD K) (.dat (.int i)) (.dat (.int j)) M Q := w2_eq (shaped_int i) (shaped_int j) (by rw [eqv_int]; exact q)
theorem w2_neI {i j : Int} (q : Q (.bl (!decide (i = j))) M) : W2 K (rNeD K) (.dat (.int i)) (.dat (.int j)) M Q := w2_ne (shaped_int i) (shaped_int j) (by rw [eqv_int]; exact q)
theorem ite_d {p : Prop} [Decidable p] {A B : Prop} (h1 : p → A) (h2 : ¬p → B) : if decide p = true then A else B := ite_b (fun h => h1 (of_decide_eq_true h)) (fun h => h2 (of_decide_eq_false h))
theorem ite_n {p : Prop} [Decidable p] {A B : Prop} (h1 : ¬p → A) (h2 : p → B) : if (!decide p) = true then A else B := by
  by_cases h : p
  · rw [decide_eq_true h]; exact h2 h
  · rw [decide_eq_false h]; exact h1 h
theorem w2_ixSAny {z : Str} {i : Int} (hz : z.length ≤ 100000) (h0 : 0 ≤ i) (h1 : i < z.length) (q : ∀ c ∈ z.cps.toList, Q (.str ⟨#[c]⟩) M) : W2 K rIxS (.str z) (.int i) M Q := by
  have hi : i.toNat < z.cps.toList.length := by
    have : z.cps.toList.length = z.length := by simp [Str.length]
    omega
  exact w2_ixS (c := z.cps.toList[i.toNat]) hz (atI_ok h0 (List.getElem?_eq_getElem hi)) (q _ (List.getElem_mem hi))
end
/-! ### what the draws give -/
def isVal : PyData → Bool
  | .int n => decide (n.natAbs < 10 ^ 30)
  | .str z => goodS z
  | _ => false
theorem isVal_of : ∀ {d : PyData}, isVal d = true → ∃ v : Val, d = v.enc ∧ v.ok
  | .int n, h => ⟨.int n, rfl, show n.natAbs < 10 ^ 30 from of_decide_eq_true h⟩
  | .str z, h => ⟨.str z, rfl, h⟩
def isName : PyData → Bool
  | .str z => goodS z
  | _ => false
theorem isName_of : ∀ {d : PyData}, isName d = true → ∃ z : Str, d = .str z ∧ goodS z = true
  | .str z, h => ⟨z, rfl, h⟩
theorem list_enc {α : Type} {f : α → PyData} {R : α → Prop} : ∀ {ds : List PyData}, (∀ d ∈ ds, ∃ x, d = f x ∧ R x) → ∃ xs : List α, ds = xs.map f ∧ ∀ x ∈ xs, R x
  | [], _ => ⟨[], rfl, fun _ h => nomatch h⟩
  | d :: ds, h => by
    obtain ⟨x, rfl, hx⟩ := h d List.mem_cons_self
    obtain ⟨xs, rfl, hxs⟩ := list_enc (f := f) (R := R) fun e he => h e (List.mem_cons_of_mem _ he)
    refine ⟨x :: xs, rfl, fun y hy => ?_⟩
    rcases List.mem_cons.mp hy with e | hy
    · rw [e]; exact hx
    · exact hxs y hy
theorem join_cps {sep : Str} (hs : sep.cps = #[]) : ∀ ys : List Str, (Str.join sep ys).cps.toList = (ys.map fun z => z.cps.toList).flatten
  | [] => rfl
  | [x] => by simp [Str.join]
  | x :: y :: r => by
    have ih := join_cps hs (y :: r)
    show ((x.cps ++ sep.cps) ++ (Str.join sep (y :: r)).cps).toList = _
    rw [Array.toList_append, Array.toList_append, ih, hs]
    simp
theorem sum_ones {sep : Str} (hs : sep.cps = #[]) : ∀ {ys : List Str}, (∀ z ∈ ys, z.cps.size = 1 ∧ goodS z = true) → (ys.map (·.length)).sum + ys.length * sep.length = ys.length
  | [], _ => by simp
  | z :: r, h => by
    have ih := sum_ones hs (ys := r) fun w hw => h w (List.mem_cons_of_mem _ hw)
    have h0 : sep.length = 0 := by unfold Str.length; rw [hs]; rfl
    have h1 : z.length = 1 := (h z List.mem_cons_self).1
    rw [h0] at ih ⊢
    rw [List.map_cons, List.sum_cons, h1, List.length_cons]
    omega
theorem good_join {sep : Str} {ys : List Str} (hs : sep.cps = #[]) (hl : ys.length ≤ 40) (h : ∀ z ∈ ys, z.cps.size = 1 ∧ goodS z = true) : goodS (Txt.join sep ys) = true := by
  have e : Txt.join sep ys = Str.join sep ys := TL.join_eq sep ys
  rw [e]
  have hc := join_cps hs ys
  have hlen : ∀ ys : List Str, (∀ z ∈ ys, z.cps.size = 1 ∧ goodS z = true) → ((ys.map fun z => z.cps.toList).flatten).length = ys.length := by
    intro ys
    induction ys with
    | nil => intro _; rfl
    | cons z r ih =>
      intro h
      have hz := (h z List.mem_cons_self).1
      rw [List.map_cons, List.flatten_cons, List.length_append, ih fun w hw => h w (List.mem_cons_of_mem _ hw), Array.length_toList, hz, List.length_cons]
      omega
  unfold goodS
  rw [Bool.and_eq_true, List.all_eq_true]
  refine ⟨decide_eq_true ?_, fun c hc' => ?_⟩
  · show (Str.join sep ys).cps.size ≤ 40
    rw [← Array.length_toList, hc, hlen ys h]
    exact hl
  · rw [hc] at hc'
    obtain ⟨l, hl', hcl⟩ := List.mem_flatten.mp hc'
    obtain ⟨z, hz, rfl⟩ := List.mem_map.mp hl'
    have hg := (h z hz).2
    unfold goodS at hg
    rw [Bool.and_eq_true, List.all_eq_true] at hg
    exact hg.2 c hcl
end Ab

set_option Elab.async false
set_option linter.all false
set_option maxRecDepth 100000
set_option  maxHeartbeats 4000000
/-! RbOrd: the order of values, rows and keys. -/
namespace Ab
open PySem L2
def vLt : Val → Val → Bool
  | .int a, .int b => decide (a < b)
  | .int _, .str _ => true
  | .str _, .int _ => false
  | .str x, .str y => decide (x.cps.toList < y.cps.toList)
def rLt : List Val → List Val → Bool
  | x :: xs, y :: ys => if x = y then rLt xs ys else vLt x y
  | [], _ :: _ => true
  | _, [] => false
theorem str_eq {x y : Str} (h : x.cps.toList = y.cps.toList) : x = y := by
  have hc : x.cps = y.cps := Array.toList_inj.mp h
  cases x
  cases y
  simp only [Str.mk.injEq]
  exact hc
theorem vLt_irr (v : Val) : vLt v v = false := by
  cases v with
  | int a => exact decide_eq_false (by omega)
  | str x => exact decide_eq_false (List.lt_irrefl _)
/-- of two that differ just one is the less -/
theorem vLt_tri : ∀ {v w : Val}, v ≠ w → vLt w v = !vLt v w
  | .int a, .int b, h => by
    have : a ≠ b := fun e => h (by rw [e])
    show decide (b < a) = !decide (a < b)
    rw [← decide_not]
    exact decide_eq_decide.mpr (by omega)
  | .int _, .str _, _ => rfl
  | .str _, .int _, _ => rfl
  | .str x, .str y, h => by
    have hne : x.cps.toList ≠ y.cps.toList := fun e => h (by rw [str_eq e])
    show decide (y.cps.toList < x.cps.toList) = !decide (x.cps.toList < y.cps.toList)
    rw [← decide_not]
    refine decide_eq_decide.mpr ⟨fun h1 h2 => List.lt_asymm h1 h2, fun h1 => ?_⟩
    rcases Std.lt_trichotomy x.cps.toList y.cps.toList with h' | h' | h'
    · exact absurd h' h1
    · exact absurd h' hne
    · exact h'
theorem rLt_irr : ∀ r : List Val, rLt r r = false
  | [] => rfl
  | x :: xs => by
    show (if x = x then rLt xs xs else vLt x x) = false
    rw [if_pos rfl, rLt_irr xs]
theorem rLt_tri : ∀ {a b : List Val}, a ≠ b → rLt b a = !rLt a b
  | [], [], h => absurd rfl h
  | [], _ :: _, _ => rfl
  | _ :: _, [], _ => rfl
  | x :: xs, y :: ys, h => by
    show (if y = x then rLt ys xs else vLt y x) = !(if x = y then rLt xs ys else vLt x y)
    by_cases e : x = y
    · subst e
      rw [if_pos rfl, if_pos rfl]
      exact rLt_tri fun e => h (by rw [e])
    · rw [if_neg e, if_neg (Ne.symm e)]
      exact vLt_tri e
theorem rLt_pre : ∀ (p a b : List Val), rLt (p ++ a) (p ++ b) = rLt a b
  | [], _, _ => rfl
  | x :: p, a, b => by
    show (if x = x then rLt (p ++ a) (p ++ b) else vLt x x) = _
    rw [if_pos rfl, rLt_pre p a b]
/-- -1, 0, 1 -/
def ordR (a b : List Val) : Int := if a = b then 0 else if rLt a b then -1 else 1
theorem ordR_lt (a b : List Val) : rLt a b = decide (ordR a b < 0) := by
  unfold ordR
  by_cases e : a = b
  · subst e; rw [rLt_irr]; simp
  · rw [if_neg e]
    cases rLt a b <;> rfl
theorem ordR_eq (a b : List Val) : decide (a = b) = decide (ordR a b = 0) := by
  unfold ordR
  by_cases e : a = b
  · simp [e]
  · rw [if_neg e]
    cases rLt a b <;> simp [e]
theorem ordR_gt (a b : List Val) : rLt b a = decide (0 < ordR a b) := by
  unfold ordR
  by_cases e : a = b
  · subst e; rw [rLt_irr]; simp
  · rw [if_neg e, rLt_tri e]
    cases rLt a b <;> rfl
/-- the first place that differs -/
theorem ordR_at {p xs ys : List Val} {v w : Val} (h : vLt v w = true) : ordR (p ++ v :: xs) (p ++ w :: ys) = -1 ∧ ordR (p ++ w :: ys) (p ++ v :: xs) = 1 := by
  have hne : v ≠ w := fun e => by rw [e, vLt_irr] at h; cases h
  have h1 : rLt (p ++ v :: xs) (p ++ w :: ys) = true := by
    rw [rLt_pre]
    show (if v = w then rLt xs ys else vLt v w) = true
    rw [if_neg hne]
    exact h
  have h2 : p ++ v :: xs ≠ p ++ w :: ys := fun e => hne (List.cons.inj (List.append_cancel_left e)).1
  unfold ordR
  rw [if_neg h2, if_neg (Ne.symm h2), rLt_tri h2, h1]
  exact ⟨rfl, rfl⟩
theorem ordR_pre {a b : List Val} (h : ∀ j, j < a.length → j < b.length → a[j]? = b[j]?) : ordR a b = (if decide (b.length < a.length) then 1 else 0) - (if decide (a.length < b.length) then 1 else 0) := by
  rcases Nat.lt_trichotomy a.length b.length with hl | hl | hl
  · have e : b = a ++ b.drop a.length := by
      apply List.ext_getElem?
      intro j
      by_cases hj : j < a.length
      · rw [List.getElem?_append_left hj]
        exact (h j hj (by omega)).symm
      · rw [List.getElem?_append_right (by omega), List.getElem?_drop]
        congr 1
        omega
    obtain ⟨y, ys, ey⟩ : ∃ y ys, b.drop a.length = y :: ys := by
      cases hd : b.drop a.length with
      | nil => rw [List.drop_eq_nil_iff] at hd; omega
      | cons y ys => exact ⟨y, ys, rfl⟩
    have h1 : rLt a b = true := by
      rw [e, ey]
      have := rLt_pre a [] (y :: ys)
      rw [List.append_nil] at this
      rw [this]
      rfl
    have h2 : a ≠ b := fun e => by rw [e] at hl; omega
    unfold ordR
    rw [if_neg h2, h1, decide_eq_true hl, decide_eq_false (by omega)]
    rfl
  · have e : a = b := List.ext_getElem? fun j => by
      by_cases hj : j < a.length
      · exact h j hj (by omega)
      · rw [List.getElem?_eq_none (by omega), List.getElem?_eq_none (by omega)]
    subst e
    simp [ordR]
  · have e : a = b ++ a.drop b.length := by
      apply List.ext_getElem?
      intro j
      by_cases hj : j < b.length
      · rw [List.getElem?_append_left hj]
        exact h j (by omega) hj
      · rw [List.getElem?_append_right (by omega), List.getElem?_drop]
        congr 1
        omega
    obtain ⟨y, ys, ey⟩ : ∃ y ys, a.drop b.length = y :: ys := by
      cases hd : a.drop b.length with
      | nil => rw [List.drop_eq_nil_iff] at hd; omega
      | cons y ys => exact ⟨y, ys, rfl⟩
    have h1 : rLt b a = true := by
      rw [e, ey]
      have := rLt_pre b [] (y :: ys)
      rw [List.append_nil] at this
      rw [this]
      rfl
    have h2 : b ≠ a := fun e => by rw [e] at hl; omega
    have h3 := rLt_tri h2
    rw [h1] at h3
    unfold ordR
    have d2 : decide (a.length < b.length) = false := decide_eq_false (by omega)
    rw [if_neg (Ne.symm h2), h3, d2, decide_eq_true hl]
    rfl
theorem cmpOks_map {α β : Type} {f : α → PyData} {g : β → PyData} (hf : ∀ x y, cmpOk (f x) (g y) = true) : ∀ (xs : List α) (ys : List β), cmpOks (xs.map f) (ys.map g) = true
  | [], _ => by simp [cmpOks]
  | _ :: _, [] => by simp [cmpOks]
  | x :: xs, y :: ys => by
    rw [List.map_cons, List.map_cons, cmpOks, hf, cmpOks_map hf xs ys]
    split <;> rfl
theorem cmpVs_lt {f : Val → PyData} (he : ∀ x y, PyData.eqv (f x) (f y) = decide (x = y)) (hl : ∀ x y, cmpV .Lt (f x) (f y) = vLt x y) : ∀ xs ys : List Val, cmpVs .Lt (decide (xs.length < ys.length)) (xs.map f) (ys.map f) = rLt xs ys
  | [], [] => by simp [cmpVs, rLt]
  | [], _ :: _ => by simp [cmpVs, rLt]
  | _ :: _, [] => by simp [cmpVs, rLt]
  | x :: xs, y :: ys => by
    have ih := cmpVs_lt he hl xs ys
    have e : decide ((x :: xs).length < (y :: ys).length) = decide (xs.length < ys.length) := decide_eq_decide.mpr (by simp)
    rw [e, List.map_cons, List.map_cons, cmpVs, he, ih, hl]
    show _ = if x = y then rLt xs ys else vLt x y
    by_cases h : x = y
    · rw [if_pos h, decide_eq_true h, if_pos rfl]
    · rw [if_neg h, decide_eq_false h, if_neg Bool.false_ne_true]
theorem cmpVs_gt {f : Val → PyData} (he : ∀ x y, PyData.eqv (f x) (f y) = decide (x = y)) (hl : ∀ x y, cmpV .Gt (f x) (f y) = vLt y x) : ∀ xs ys : List Val, cmpVs .Gt (decide (xs.length > ys.length)) (xs.map f) (ys.map f) = rLt ys xs
  | [], [] => by simp [cmpVs, rLt]
  | [], _ :: _ => by simp [cmpVs, rLt]
  | _ :: _, [] => by simp [cmpVs, rLt]
  | x :: xs, y :: ys => by
    have ih := cmpVs_gt he hl xs ys
    have e : decide ((x :: xs).length > (y :: ys).length) = decide (xs.length > ys.length) := decide_eq_decide.mpr (by simp)
    rw [e, List.map_cons, List.map_cons, cmpVs, he, ih, hl]
    show _ = if y = x then rLt ys xs else vLt y x
    by_cases h : x = y
    · rw [if_pos h.symm, decide_eq_true h, if_pos rfl]
    · rw [if_neg (Ne.symm h), decide_eq_false h, if_neg Bool.false_ne_true]
end Ab

set_option Elab.async false
set_option linter.all false
set_option maxRecDepth 100000
set_option  maxHeartbeats 4000000
namespace K01
open PySem PyProof.Rows L2 Ab
def topS (i : Nat) : Stmt := PySem.Challenge.pw_rulestead_k01_values_rows_and_keys.main.body.getD i (.Pass ⟨0, 0, 0, 0⟩)
abbrev s_value_key : Stmt := topS 2
theorem sc_value_key : FnScope ["value"] ["value"] (defScope s_value_key) := ⟨rfl, rfl, rfl, by decide +kernel, rfl, by decide +kernel, by decide +kernel⟩
abbrev s_row_key : Stmt := topS 3
theorem sc_row_key : FnScope ["row", "value"] ["row"] (defScope s_row_key) := ⟨rfl, rfl, rfl, by decide +kernel, rfl, by decide +kernel, by decide +kernel⟩
abbrev s_same_row : Stmt := topS 4
theorem sc_same_row : FnScope ["first", "second"] ["first", "second"] (defScope s_same_row) := ⟨rfl, rfl, rfl, by decide +kernel, rfl, by decide +kernel, by decide +kernel⟩
abbrev s_key_of : Stmt := topS 5
theorem sc_key_of : FnScope ["item", "sort"] ["item"] (defScope s_key_of) := ⟨rfl, rfl, rfl, by decide +kernel, rfl, by decide +kernel, by decide +kernel⟩
abbrev s_key_order : Stmt := topS 6
theorem sc_key_order : FnScope ["key", "sort", "name", "row"] ["key"] (defScope s_key_order) := ⟨rfl, rfl, rfl, by decide +kernel, rfl, by decide +kernel, by decide +kernel⟩
abbrev s_law_next : Stmt := topS 8
theorem sc_law_next : FnScope ["_law_state", "_law_limit", "_law_cell", "_law_value_here"] ["_law_state", "_law_limit"] (defScope s_law_next) := ⟨rfl, rfl, rfl, by decide +kernel, rfl, by decide +kernel, by decide +kernel⟩
abbrev s_law_same : Stmt := topS 9
theorem sc_law_same : FnScope ["_law_actual", "_law_expected", "_law_k"] ["_law_actual", "_law_expected"] (defScope s_law_same) := ⟨rfl, rfl, rfl, by decide +kernel, rfl, by decide +kernel, by decide +kernel⟩
abbrev s_law_characters : Stmt := topS 10
theorem sc_law_characters : FnScope [] [] (defScope s_law_characters) := ⟨rfl, rfl, rfl, by decide +kernel, rfl, by decide +kernel, by decide +kernel⟩
abbrev s_law_value : Stmt := topS 11
theorem sc_law_value : FnScope ["_law_state", "_law_pick", "_law_start", "_law_step", "_law_j"] ["_law_state"] (defScope s_law_value) := ⟨rfl, rfl, rfl, by decide +kernel, rfl, by decide +kernel, by decide +kernel⟩
abbrev s_law_row : Stmt := topS 12
theorem sc_law_row : FnScope ["_law_state", "_law_width", "_law_k"] ["_law_state", "_law_width"] (defScope s_law_row) := ⟨rfl, rfl, rfl, by decide +kernel, rfl, by decide +kernel, by decide +kernel⟩
abbrev s_law_name : Stmt := topS 13
theorem sc_law_name : FnScope ["_law_state"] ["_law_state"] (defScope s_law_name) := ⟨rfl, rfl, rfl, by decide +kernel, rfl, by decide +kernel, by decide +kernel⟩
abbrev s_law_term : Stmt := topS 14
theorem sc_law_term : FnScope ["_law_state", "_law_pick"] ["_law_state"] (defScope s_law_term) := ⟨rfl, rfl, rfl, by decide +kernel, rfl, by decide +kernel, by decide +kernel⟩
abbrev s_law_terms : Stmt := topS 15
theorem sc_law_terms : FnScope ["_law_state", "_law_k"] ["_law_state"] (defScope s_law_terms) := ⟨rfl, rfl, rfl, by decide +kernel, rfl, by decide +kernel, by decide +kernel⟩
abbrev s_law_literal : Stmt := topS 16
theorem sc_law_literal : FnScope ["_law_state", "_law_form", "_law_operator"] ["_law_state"] (defScope s_law_literal) := ⟨rfl, rfl, rfl, by decide +kernel, rfl, by decide +kernel, by decide +kernel⟩
abbrev s_law_body : Stmt := topS 17
theorem sc_law_body : FnScope ["_law_state", "_law_k"] ["_law_state"] (defScope s_law_body) := ⟨rfl, rfl, rfl, by decide +kernel, rfl, by decide +kernel, by decide +kernel⟩
abbrev s_law_item : Stmt := topS 18
theorem sc_law_item : FnScope ["_law_state", "_law_pick", "_law_name_here"] ["_law_state"] (defScope s_law_item) := ⟨rfl, rfl, rfl, by decide +kernel, rfl, by decide +kernel, by decide +kernel⟩
abbrev s_law_before : Stmt := topS 19
theorem sc_law_before : FnScope ["_law_first", "_law_second"] ["_law_first", "_law_second"] (defScope s_law_before) := ⟨rfl, rfl, rfl, by decide +kernel, rfl, by decide +kernel, by decide +kernel⟩
abbrev s_law_order : Stmt := topS 20
theorem sc_law_order : FnScope ["_law_first", "_law_second", "_law_k"] ["_law_first", "_law_second"] (defScope s_law_order) := ⟨rfl, rfl, rfl, by decide +kernel, rfl, by decide +kernel, by decide +kernel⟩
abbrev s_law_key : Stmt := topS 21
theorem sc_law_key : FnScope ["_law_item_here", "_law_sort"] ["_law_item_here"] (defScope s_law_key) := ⟨rfl, rfl, rfl, by decide +kernel, rfl, by decide +kernel, by decide +kernel⟩
abbrev s_law_key_order : Stmt := topS 22
theorem sc_law_key_order : FnScope ["_law_first", "_law_second"] ["_law_first", "_law_second"] (defScope s_law_key_order) := ⟨rfl, rfl, rfl, by decide +kernel, rfl, by decide +kernel, by decide +kernel⟩
abbrev s_law_agrees : Stmt := topS 23
theorem sc_law_agrees : FnScope ["_law_left", "_law_right", "_law_order_here"] ["_law_left", "_law_right", "_law_order_here"] (defScope s_law_agrees) := ⟨rfl, rfl, rfl, by decide +kernel, rfl, by decide +kernel, by decide +kernel⟩
abbrev s_law : Stmt := topS 24
theorem sc_law : FnScope ["_law_script", "_law_state", "_law_values", "_law_k", "_law_rows", "_law_first", "_law_second", "_law_order_here", "_law_keys", "_law_item_here"] ["_law_script"] (defScope s_law) := ⟨rfl, rfl, rfl, by decide +kernel, rfl, by decide +kernel, by decide +kernel⟩
structure AD where
  value_key : Addr
  row_key : Addr
  same_row : Addr
  key_of : Addr
  key_order : Addr
  law_next : Addr
  law_same : Addr
  law_characters : Addr
  law_value : Addr
  law_row : Addr
  law_name : Addr
  law_term : Addr
  law_terms : Addr
  law_literal : Addr
  law_body : Addr
  law_item : Addr
  law_before : Addr
  law_order : Addr
  law_key : Addr
  law_key_order : Addr
  law_agrees : Addr
  law : Addr
  c_WORDS : Addr
structure FD where
  value_key : FuncData
  row_key : FuncData
  same_row : FuncData
  key_of : FuncData
  key_order : FuncData
  law_next : FuncData
  law_same : FuncData
  law_characters : FuncData
  law_value : FuncData
  law_row : FuncData
  law_name : FuncData
  law_term : FuncData
  law_terms : FuncData
  law_literal : FuncData
  law_body : FuncData
  law_item : FuncData
  law_before : FuncData
  law_order : FuncData
  law_key : FuncData
  law_key_order : FuncData
  law_agrees : FuncData
  law : FuncData
structure Txt (K : PySem.W.Frag) (mg : Str → Option Value) (a : AD) (d : FD) : Prop where
  F_value_key : Fun K "value_key" "value_key" s_value_key a.value_key d.value_key
  g_value_key : mg "value_key" = some (.ref a.value_key)
  b_value_key : Binds K d.value_key ["value"] []
  F_row_key : Fun K "row_key" "row_key" s_row_key a.row_key d.row_key
  g_row_key : mg "row_key" = some (.ref a.row_key)
  b_row_key : Binds K d.row_key ["row"] []
  F_same_row : Fun K "same_row" "same_row" s_same_row a.same_row d.same_row
  g_same_row : mg "same_row" = some (.ref a.same_row)
  b_same_row : Binds K d.same_row ["first", "second"] []
  F_key_of : Fun K "key_of" "key_of" s_key_of a.key_of d.key_of
  g_key_of : mg "key_of" = some (.ref a.key_of)
  b_key_of : Binds K d.key_of ["item"] []
  F_key_order : Fun K "key_order" "key_order" s_key_order a.key_order d.key_order
  g_key_order : mg "key_order" = some (.ref a.key_order)
  b_key_order : Binds K d.key_order ["key"] []
  F_law_next : Fun K "_law_next" "_law_next" s_law_next a.law_next d.law_next
  g_law_next : mg "_law_next" = some (.ref a.law_next)
  b_law_next : Binds K d.law_next ["_law_state", "_law_limit"] []
  F_law_same : Fun K "_law_same" "_law_same" s_law_same a.law_same d.law_same
  g_law_same : mg "_law_same" = some (.ref a.law_same)
  b_law_same : Binds K d.law_same ["_law_actual", "_law_expected"] []
  F_law_characters : Fun K "_law_characters" "_law_characters" s_law_characters a.law_characters d.law_characters
  g_law_characters : mg "_law_characters" = some (.ref a.law_characters)
  b_law_characters : Binds K d.law_characters [] []
  F_law_value : Fun K "_law_value" "_law_value" s_law_value a.law_value d.law_value
  g_law_value : mg "_law_value" = some (.ref a.law_value)
  b_law_value : Binds K d.law_value ["_law_state"] []
  F_law_row : Fun K "_law_row" "_law_row" s_law_row a.law_row d.law_row
  g_law_row : mg "_law_row" = some (.ref a.law_row)
  b_law_row : Binds K d.law_row ["_law_state", "_law_width"] []
  F_law_name : Fun K "_law_name" "_law_name" s_law_name a.law_name d.law_name
  g_law_name : mg "_law_name" = some (.ref a.law_name)
  b_law_name : Binds K d.law_name ["_law_state"] []
  F_law_term : Fun K "_law_term" "_law_term" s_law_term a.law_term d.law_term
  g_law_term : mg "_law_term" = some (.ref a.law_term)
  b_law_term : Binds K d.law_term ["_law_state"] []
  F_law_terms : Fun K "_law_terms" "_law_terms" s_law_terms a.law_terms d.law_terms
  g_law_terms : mg "_law_terms" = some (.ref a.law_terms)
  b_law_terms : Binds K d.law_terms ["_law_state"] []
  F_law_literal : Fun K "_law_literal" "_law_literal" s_law_literal a.law_literal d.law_literal
  g_law_literal : mg "_law_literal" = some (.ref a.law_literal)
  b_law_literal : Binds K d.law_literal ["_law_state"] []
  F_law_body : Fun K "_law_body" "_law_body" s_law_body a.law_body d.law_body
  g_law_body : mg "_law_body" = some (.ref a.law_body)
  b_law_body : Binds K d.law_body ["_law_state"] []
  F_law_item : Fun K "_law_item" "_law_item" s_law_item a.law_item d.law_item
  g_law_item : mg "_law_item" = some (.ref a.law_item)
  b_law_item : Binds K d.law_item ["_law_state"] []
  F_law_before : Fun K "_law_before" "_law_before" s_law_before a.law_before d.law_before
  g_law_before : mg "_law_before" = some (.ref a.law_before)
  b_law_before : Binds K d.law_before ["_law_first", "_law_second"] []
  F_law_order : Fun K "_law_order" "_law_order" s_law_order a.law_order d.law_order
  g_law_order : mg "_law_order" = some (.ref a.law_order)
  b_law_order : Binds K d.law_order ["_law_first", "_law_second"] []
  F_law_key : Fun K "_law_key" "_law_key" s_law_key a.law_key d.law_key
  g_law_key : mg "_law_key" = some (.ref a.law_key)
  b_law_key : Binds K d.law_key ["_law_item_here"] []
  F_law_key_order : Fun K "_law_key_order" "_law_key_order" s_law_key_order a.law_key_order d.law_key_order
  g_law_key_order : mg "_law_key_order" = some (.ref a.law_key_order)
  b_law_key_order : Binds K d.law_key_order ["_law_first", "_law_second"] []
  F_law_agrees : Fun K "_law_agrees" "_law_agrees" s_law_agrees a.law_agrees d.law_agrees
  g_law_agrees : mg "_law_agrees" = some (.ref a.law_agrees)
  b_law_agrees : Binds K d.law_agrees ["_law_left", "_law_right", "_law_order_here"] []
  F_law : Fun K "law" "law" s_law a.law d.law
  g_law : mg "law" = some (.ref a.law)
  b_law : Binds K d.law ["_law_script"] []
  n_bool : mg "bool" = none
  n_int : mg "int" = none
  n_isinstance : mg "isinstance" = none
  n_len : mg "len" = none
  n_list : mg "list" = none
  n_min : mg "min" = none
  n_range : mg "range" = none
  n_str : mg "str" = none
  n_tuple : mg "tuple" = none
  c_WORDS : mg "WORDS" = some (.ref a.c_WORDS)
  k_WORDS : TupC K a.c_WORDS ["relation", "fact", "rule", "denial"]
local macro_rules | `(tactic| walk_at "len") => `(tactic| first | decide | omega | (simp only [List.length_append, List.length_map, List.length_replicate, List.length_cons, List.length_nil, List.length_take, List.length_drop, List.length_reverse, List.length_range]; omega))
local macro_rules | `(tactic| walk_at "str") => `(tactic| first | decide +kernel | exact goodS_ok (by assumption) | assumption)
local macro_rules | `(tactic| walk_at "1") => `(tactic| (first
  | (with_reducible refine ws_set ?_)
  | (with_reducible refine ws_ret ?_)
  | (with_reducible refine ws_if ?_)
  | (with_reducible refine ws_drop ?_)
  | (with_reducible refine w_op ?_)
  | (with_reducible refine w_un ?_)
  | (with_reducible refine w_int ?_)
  | (with_reducible refine w_bl ?_)
  | (with_reducible refine w_non ?_)
  | (with_reducible refine w_str ?_)
  | (with_reducible refine w_cb ?_)
  | (with_reducible refine w_call ?_)
  | (with_reducible refine w_sl ?_)
  | (with_reducible refine w_tupD ?_)
  | (with_reducible refine w_chain ?_)
  | (with_reducible refine w_andV ?_)
  | (with_reducible refine w_orV ?_)
  | (with_reducible refine w_notV ?_)
  | (with_reducible refine wo_none ?_)
  | (with_reducible refine wo_some ?_)
  | (with_reducible refine wa_cons ?_)
  | (with_reducible refine wa_nil ?_)
  | (with_reducible refine wt_test ?_)
  | (with_reducible refine wt_B ?_)
  | (with_reducible refine wt_and ?_)
  | (with_reducible refine wt_or ?_)
  | (with_reducible refine wt_not ?_)
  | (with_reducible refine wt_yes ?_)
  | (with_reducible refine w2_i0 ?_)
  | (with_reducible refine w2_b0 ?_)
  | (with_reducible refine w1_neg ?_)
  | ((with_reducible refine w2_i ?hc ?_); (case hc => first | decide | exact ⟨by decide, by decide⟩ | exact Or.inl ⟨by decide, by decide⟩ | exact Or.inr ⟨by decide, by decide⟩ | exact ⟨by decide, by decide, by decide⟩ | omega); skip)
  | ((with_reducible refine' w_var ?hv ?_); (case hv => exact rfl); skip)
  | ((with_reducible show W2 _ (rEqD _) (Sl.dat (PyData.int _)) (Sl.dat (PyData.int _)) _ _); (refine w2_eqI ?_))
  | ((with_reducible show W2 _ (rNeD _) (Sl.dat (PyData.int _)) (Sl.dat (PyData.int _)) _ _); (refine w2_neI ?_))
  | ((with_reducible show W2 _ (rEqD _) (Sl.dat (PyData.str _)) (Sl.dat (PyData.str _)) _ _); (refine' w2_eqS ?h1 ?h2 ?_); (case h1 => walk_at "str"); (case h2 => walk_at "str"); skip)
  | ((with_reducible show W2 _ (rNeD _) (Sl.dat (PyData.str _)) (Sl.dat (PyData.str _)) _ _); (refine' w2_neS ?h1 ?h2 ?_); (case h1 => walk_at "str"); (case h2 => walk_at "str"); skip)
  | ((with_reducible show W2 _ (rEqD _) _ _ _ _); (refine w2_eq ?ha ?hb ?_); (case ha => first | exact shaped_int _ | exact shaped_bool _); (case hb => first | exact shaped_int _ | exact shaped_bool _); skip)
  | ((with_reducible show W2 _ (rNeD _) _ _ _ _); (refine w2_ne ?ha ?hb ?_); (case ha => first | exact shaped_int _ | exact shaped_bool _); (case hb => first | exact shaped_int _ | exact shaped_bool _); skip)
  | ((with_reducible show W2 _ _ _ _ _ _); (refine w2_isN ?_))
  | ((with_reducible show W2 _ _ _ _ _ _); (refine w2_notN ?_))
  | (with_reducible refine wl_lenE ?_)
  | (with_reducible refine wl_lenD ?_)
  | (with_reducible refine wl_lenTD ?_)
  | (with_reducible refine wl_listE ?_)
  | (with_reducible refine wsl_E ?_)
  | ((with_reducible refine' w2_catE ?hl ?_); (try (case hl => walk_at "len")); skip)
  | ((with_reducible refine' w2_rep1 ?h1 ?h2 ?_); (try (case h1 => first | decide | omega)); (try (case h2 => first | decide | omega)); skip)
  | ((with_reducible show WL _ _ [_] _ _); (refine' wl_len ?hl ?_); (case hl => first | exact lsv_dat | exact lsv_ref um_same | exact lsv_ref (by assumption)); skip)
  | ((with_reducible show WL _ _ [_] _ _); (refine' wl_list ?hl ?_); (case hl => first | exact .inl lsv_dat | exact .inl (lsv_ref (by assumption))); skip)
  | ((with_reducible show WSl _ (rSlL _) _ _ _ _ _); (refine' wsl_lst ?hl ?_); (case hl => first | exact lsv_dat | exact lsv_ref um_same | exact lsv_ref (by assumption)); skip)
  | ((with_reducible show WL _ _ [_] _ _); (refine wl_int ?_))
  | ((with_reducible show WL _ _ [_] _ _); (refine wl_intb ?_))
  | ((with_reducible show WL _ _ [_, _] _ _); (refine wl_min ?_))
  | ((with_reducible first | show W2 _ (rIxL _) (Sl.dat (PyData.list (List.cons _ _))) (Sl.dat (PyData.int _)) _ _ | show W2 _ (rIxL _) (Sl.dat (PyData.list (List.map PyData.int (List.cons _ _)))) (Sl.dat (PyData.int _)) _ _); (refine' w2_ixAny ?h0 ?h1 ?_); (case h0 => omega); (case h1 => first | omega | (simp only [List.length_cons, List.length_nil, List.length_map]; omega)); skip)
  | ((with_reducible show W2 _ (rIxL _) _ _ _ _); (refine' w2_ixL ?hs ?hx ?_); (case hs => first | exact lsv_dat | exact lsv_ref um_same | exact lsv_ref (by assumption)); (try (case hx => exact rfl)); skip)
  | ((with_reducible show W2 _ (rIxT _) _ _ _ _); (refine' w2_ixT ?hx ?_); (case hx => exact rfl); skip)
  | ((with_reducible show WL _ (rIsi _) [_, _] _ _); (refine' wl_isi ?hb ?_); (case hb => first | exact isi_bool _ | exact isi_int _ | exact isi_str _ | exact isi_tuple _ | exact isi_list _); skip)
  | ((with_reducible show W _ (tC (V.ty _)) _ _ _); (refine w_raw ?_))
  | ((with_reducible show W _ (tC (V.ref _)) _ _ _); (refine w_raw ?_))
  | ((with_reducible show WSl _ (rSlA _) _ _ _ _ _); (refine wsl_tup ?_))
  | ((with_reducible show WL _ (rTupS _) [Sl.dat (PyData.list _)] _ _); (refine wl_tuple lsv_dat ?_))
  | ((with_reducible show W2 _ (rCatA _) _ _ _ _); (refine' w2_catT ?hl ?_); (try (case hl => walk_at "len")); skip)
  | ((with_reducible show WL _ _ [_] _ _); (refine' wl_lenT ?hl ?_); (case hl => exact tpv_dat); skip)
  | (with_reducible refine ws_next ?_)
  | (with_reducible refine ite_t rfl ?_)
  | (with_reducible refine ite_f rfl ?_)
  | ((with_reducible refine' ite_t ?hb ?_); (case hb => decide +kernel); skip)
  | ((with_reducible refine' ite_f ?hb ?_); (case hb => decide +kernel); skip)
  | ((with_reducible show ∃ b : Bool, _ = Sl.bl b ∧ _); (with_reducible refine ⟨_, rfl, ?_⟩))
  | ((with_reducible show ∃ i : Int, _ = Sl.int i ∧ _); (with_reducible refine ⟨_, rfl, ?_⟩))
  | ((with_reducible show List.length _ ≤ 100000 ∧ _); (refine ⟨(by simp), ?_⟩))
  | ((with_reducible show ∃ ds : List PyData, datsOf _ = some ds ∧ _); (refine ⟨_, rfl, ?_⟩))))
local macro_rules | `(tactic| walk_at "e") => `(tactic| repeat (first | (with_reducible refine ws_seq ?_) | (walk_at "1")))
local macro_rules | `(tactic| walk_at "g") => `(tactic| repeat (first | (walk_at "1") | ((with_reducible refine w_lstI (wa_cons ?_)); (repeat (walk_at "1")); (with_reducible show ∃ ns : List Int, itemsI _ = some ns ∧ _); (refine ⟨_, rfl, ?_⟩)) | (with_reducible refine w_lstD ?_)))
local macro_rules | `(tactic| walk_at "f") => `(tactic| repeat (first | (with_reducible refine ws_seq ?_) | (walk_at "1") | ((with_reducible refine w_lstI (wa_cons ?_)); (repeat (walk_at "1")); (with_reducible show ∃ ns : List Int, itemsI _ = some ns ∧ _); (refine ⟨_, rfl, ?_⟩)) | (with_reducible refine w_lstD ?_)))
local macro_rules | `(tactic| walk_at "k") => `(tactic| first | dsimp only [cxOf, Cx.nox, Cx.wish] | skip)

def tagV : Val → Int
  | .int _ => 0
  | .str _ => 1
def vkey (v : Val) : PyData := .tuple [.int (tagV v), v.enc]
def rkey (row : List Val) : PyData := .tuple (row.map vkey)
structure Key where
  s : Int
  n : Str
  row : List Val
def Key.enc (k : Key) : PyData := .tuple [.int k.s, .str k.n, encR k.row]
def Key.ord (k : Key) : PyData := .tuple [.int k.s, .str k.n, rkey k.row]
def keyOf : Item → Key
  | .relation n _ => ⟨0, n, []⟩
  | .fact n row => ⟨1, n, row⟩
  | .rule n _ _ _ => ⟨2, n, []⟩
  | .denial n _ => ⟨3, n, []⟩
def Key.ok (k : Key) : Prop := goodS k.n = true ∧ okR k.row
theorem key_ok : ∀ {it : Item}, it.ok → (keyOf it).ok
  | .relation _ _, h => ⟨h.1, Nat.zero_le _, fun _ h => nomatch h⟩
  | .fact _ _, h => ⟨h.1, h.2⟩
  | .rule _ _ _ _, h => ⟨h.1, Nat.zero_le _, fun _ h => nomatch h⟩
  | .denial _ _, h => ⟨h.1, Nat.zero_le _, fun _ h => nomatch h⟩
theorem rkey_ok {row : List Val} (h : okR row) : okD 2 (rkey row) = true := okD_mkT (by rw [List.length_map]; have := h.1; omega) (okAll_of fun d hd => by
  obtain ⟨t, ht, rfl⟩ := List.mem_map.mp hd
  exact okD_mkT (by simp) (okAll_cons okD_int (okAll_cons (Val.okD (h.2 t ht)) rfl)))
theorem tagV_eq {v w : Val} (h : v = w) : tagV v = tagV w := by rw [h]
theorem eqv_vkey (v w : Val) : PyData.eqv (vkey v) (vkey w) = decide (v = w) := by
  unfold vkey
  simp only [PyData.eqv, PyData.eqvAll, eqv_val, Bool.and_true]
  by_cases h : v = w
  · subst h; simp
  · simp [h]
theorem eqv_rkey (a b : List Val) : PyData.eqv (rkey a) (rkey b) = decide (a = b) := by
  unfold rkey
  rw [PyData.eqv, eqvAll_map eqv_vkey]
section
variable {P : Program} {w : World} {K : PySem.W.Frag} {mg : Str → Option Value} {base : Heap} {a : AD} {d : FD}
def A_value_key : ASp := fun ss M Q => ∃ v : Val, ss = [.dat v.enc] ∧ Q (.dat (vkey v)) M
theorem ok_value_key (T : Txt K mg a d) : FnOk P w K mg base CX0 1 a.value_key d.value_key ["value"] (conc K A_value_key) := by
  refine ab_ok T.F_value_key sc_value_key (fun ss M Q ⟨v, e, _⟩ => by subst e; rfl) fun cdv Ar outer s H E hr => ⟨_, (pss_cons (ps_if (pt_val (pe_callB (r := rIsi K) call_isi (by rfl) T.n_isinstance (by decide +kernel) (pa_cons (pv 0) (pa_cons (pe_bltn (v := .ty "str") (u := .type "str") (by rfl) T.n_str (by decide +kernel) rfl) pa_nil)))) (pss_one (ps_ret (pe_tup (pa_cons pe_int (pa_cons (pv 0) pa_nil))))) pss_nil)
  (pss_one (ps_ret (pe_tup (pa_cons pe_int (pa_cons (pv 0) pa_nil)))))), ?_⟩
  rintro ss M Q ⟨v, rfl, q⟩
  walk_at "k"
  show WS K _ [some (.dat v.enc)] M _
  cases v with
  | int n =>
    walk_at "e"
    exact q
  | str z =>
    walk_at "e"
    exact q
def A_row_key : ASp := fun ss M Q => ∃ row : List Val, ss = [.dat (encR row)] ∧ row.length ≤ 100000 ∧ Q (.dat (rkey row)) M
theorem ok_row_key (T : Txt K mg a d) : FnOk P w K mg base CX0 2 a.row_key d.row_key ["row"] (conc K A_row_key) := by
  have G_value_key : FnOk P w K mg base CX0 1 a.value_key d.value_key ["value"] (conc K A_value_key) := ok_value_key T
  refine ab_ok T.F_row_key sc_row_key (fun ss M Q ⟨v, e, _⟩ => by subst e; rfl) fun cdv Ar outer s H E hr => ⟨_, (pss_one (ps_ret (pe_callTy (r := rTupS K) call_tuple_of (by rfl) T.n_tuple (by decide +kernel) (pa_cons (pe_lc (own := [("value", 1)]) rfl sc_row_key.nd (pi_tup (pv 0)) (blkOk_by (own := [("value", 1)]) (N := ["row", "value"]) (sc := (defScope s_row_key)) (by decide +kernel)) (fun _ _ _ _ _ => (pg_name (i := 1) sc_row_key.nd rfl (Or.inl rfl))) (fun _ _ _ _ _ => pts_nil) (fun _ _ _ _ _ => (pe_call G_value_key (hr.mono (by omega)) (by rfl) T.g_value_key T.F_value_key.kp T.b_value_key .nil pass0 (pa_cons (pv 1) pa_nil)))) pa_nil)))), ?_⟩
  rintro ss M Q ⟨row, rfl, hl, q⟩
  walk_at "k"
  show WS K _ [some (.dat (encR row)), none] M _
  walk_at "e"
  refine w_lcT (xs := row) (enc := Val.enc) (M1 := M) (by decide) (by walk_at "e"; exact ⟨rfl, rfl⟩) hl vkey ?_ ?_
  · intro v D o hv hD
    walk_at "e"
    exact ⟨v, rfl, rfl, rfl⟩
  · walk_at "e"
    exact q
def A_same_row : ASp := fun ss M Q => ∃ x y : List Val, ss = [.dat (encR x), .dat (encR y)] ∧ okR x ∧ okR y ∧ Q (.bl (decide (x = y))) M
theorem ok_same_row (T : Txt K mg a d) : FnOk P w K mg base CX0 3 a.same_row d.same_row ["first", "second"] (conc K A_same_row) := by
  have G_row_key : FnOk P w K mg base CX0 2 a.row_key d.row_key ["row"] (conc K A_row_key) := ok_row_key T
  refine ab_ok T.F_same_row sc_same_row (fun ss M Q ⟨v, _, e, _⟩ => by subst e; rfl) fun cdv Ar outer s H E hr => ?_
  have hu64 := hr.units
  refine ⟨_, (pss_one (ps_ret (pe_cmpR (r := rEqD K) (op_eqD hu64) (pe_call G_row_key (hr.mono (by omega)) (by rfl) T.g_row_key T.F_row_key.kp T.b_row_key .nil pass0 (pa_cons (pv 0) pa_nil)) (pe_call G_row_key (hr.mono (by omega)) (by rfl) T.g_row_key T.F_row_key.kp T.b_row_key .nil pass0 (pa_cons (pv 1) pa_nil)) (nomark _)))), ?_⟩
  rintro ss M Q ⟨x, y, rfl, hx, hy, q⟩
  walk_at "k"
  show WS K _ [some (.dat (encR x)), some (.dat (encR y))] M _
  walk_at "e"
  refine ⟨x, rfl, by have := hx.1; omega, ?_⟩
  walk_at "e"
  refine ⟨y, rfl, by have := hy.1; omega, ?_⟩
  refine w2_eq (okD_shaped (rkey_ok hx) (by decide)) (okD_shaped (rkey_ok hy) (by decide)) ?_
  rw [eqv_rkey]
  exact q
def A_key_of : ASp := fun ss M Q => ∃ it : Item, ss = [.dat it.enc] ∧ Q (.dat (keyOf it).enc) M
theorem ok_key_of (T : Txt K mg a d) : FnOk P w K mg base CX0 1 a.key_of d.key_of ["item"] (conc K A_key_of) := by
  refine ab_ok T.F_key_of sc_key_of (fun ss M Q ⟨v, e, _⟩ => by subst e; rfl) fun cdv Ar outer s H E hr => ?_
  have hu64 := hr.units
  refine ⟨_, (pss_cons (ps_set (i := 1) sc_key_of.nd rfl (Or.inl rfl) (pe_bm PySem.F.plainAttrs_tuple PySem.F.slot_tuple_index PySem.F.type_tuple_index (r := rTIndex K) mt_tup_index (pe_glob (v := .ref a.c_WORDS) (by rfl) T.c_WORDS rfl) (pa_cons (pe_ix (r := rIxT K) ix_tup (pv 0) pe_int (fun _ _ => rfl)) pa_nil)))
  (pss_cons (ps_if (pt_cmpR (r := rEqD K) (op_eqD hu64) (pe_ix (r := rIxT K) ix_tup (pv 0) pe_int (fun _ _ => rfl)) pe_str (nomark _)) (pss_one (ps_ret (pe_tup (pa_cons (pv 1) (pa_cons (pe_ix (r := rIxT K) ix_tup (pv 0) pe_int (fun _ _ => rfl)) (pa_cons (pe_ix (r := rIxT K) ix_tup (pv 0) pe_int (fun _ _ => rfl)) pa_nil)))))) pss_nil)
  (pss_one (ps_ret (pe_tup (pa_cons (pv 1) (pa_cons (pe_ix (r := rIxT K) ix_tup (pv 0) pe_int (fun _ _ => rfl)) (pa_cons (pe_tup pa_nil) pa_nil)))))))), ?_⟩
  rintro ss M Q ⟨it, rfl, q⟩
  walk_at "k"
  show WS K _ [some (.dat it.enc), none] M _
  have words : ∀ (z : Str) (j : Nat), ((["relation", "fact", "rule", "denial"] : List Str)[j]? = some z) → ((["relation", "fact", "rule", "denial"] : List Str).take j).contains z = false → ∀ m, m < j → (["relation", "fact", "rule", "denial"] : List Str)[m]? ≠ some z := by
    intro z j h1 h2 m hm e
    have : z ∈ (["relation", "fact", "rule", "denial"] : List Str).take j := List.mem_iff_getElem?.mpr ⟨m, by rw [List.getElem?_take, if_pos hm]; exact e⟩
    rw [List.contains_eq_mem, decide_eq_false_iff_not] at h2
    exact h2 this
  cases it with
  | relation n x =>
    walk_at "e"
    refine w_bm (w_raw ⟨ty_tupC T.k_WORDS, ?_⟩)
    walk_at "e"
    refine wm_tindex (j := 0) T.k_WORDS (by rfl) (words _ _ (by rfl) (by decide +kernel)) ?_
    walk_at "e"
    exact q
  | fact n row =>
    walk_at "e"
    refine w_bm (w_raw ⟨ty_tupC T.k_WORDS, ?_⟩)
    walk_at "e"
    refine wm_tindex (j := 1) T.k_WORDS (by rfl) (words _ _ (by rfl) (by decide +kernel)) ?_
    walk_at "e"
    exact q
  | rule n rel hd b =>
    walk_at "e"
    refine w_bm (w_raw ⟨ty_tupC T.k_WORDS, ?_⟩)
    walk_at "e"
    refine wm_tindex (j := 2) T.k_WORDS (by rfl) (words _ _ (by rfl) (by decide +kernel)) ?_
    walk_at "e"
    exact q
  | denial n b =>
    walk_at "e"
    refine w_bm (w_raw ⟨ty_tupC T.k_WORDS, ?_⟩)
    walk_at "e"
    refine wm_tindex (j := 3) T.k_WORDS (by rfl) (words _ _ (by rfl) (by decide +kernel)) ?_
    walk_at "e"
    exact q
def A_key_order : ASp := fun ss M Q => ∃ k : Key, ss = [.dat k.enc] ∧ k.row.length ≤ 100000 ∧ Q (.dat k.ord) M
theorem ok_key_order (T : Txt K mg a d) : FnOk P w K mg base CX0 3 a.key_order d.key_order ["key"] (conc K A_key_order) := by
  have G_row_key : FnOk P w K mg base CX0 2 a.row_key d.row_key ["row"] (conc K A_row_key) := ok_row_key T
  refine ab_ok T.F_key_order sc_key_order (fun ss M Q ⟨v, e, _⟩ => by subst e; rfl) fun cdv Ar outer s H E hr => ⟨_, (pss_cons (ps_asg (pv 0) (pg_tup (by rfl) (pgs_cons (pg_name (i := 1) sc_key_order.nd rfl (Or.inl rfl)) (pgs_cons (pg_name (i := 2) sc_key_order.nd rfl (Or.inl rfl)) (pgs_cons (pg_name (i := 3) sc_key_order.nd rfl (Or.inl rfl)) pgs_nil)))))
  (pss_one (ps_ret (pe_tup (pa_cons (pv 1) (pa_cons (pv 2) (pa_cons (pe_call G_row_key (hr.mono (by omega)) (by rfl) T.g_row_key T.F_row_key.kp T.b_row_key .nil pass0 (pa_cons (pv 3) pa_nil)) pa_nil))))))), ?_⟩
  rintro ss M Q ⟨k, rfl, hl, q⟩
  walk_at "k"
  show WS K _ [some (.dat k.enc), none, none, none] M _
  refine ws_seq (ws_asg ?_)
  walk_at "e"
  refine wg_tup rfl rfl (wgs_cons (wg_name (wgs_cons (wg_name (wgs_cons (wg_name (wgs_nil ?_)))))))
  walk_at "e"
  refine ⟨k.row, rfl, hl, ?_⟩
  walk_at "e"
  exact q
end
end K01


set_option Elab.async false
set_option linter.all false
set_option maxRecDepth 100000
set_option  maxHeartbeats 4000000
namespace K01
open PySem PyProof.Rows L2 Ab
local macro_rules | `(tactic| walk_at "len") => `(tactic| first | decide | omega | (simp only [List.length_append, List.length_map, List.length_replicate, List.length_cons, List.length_nil, List.length_take, List.length_drop, List.length_reverse, List.length_range]; omega))
local macro_rules | `(tactic| walk_at "str") => `(tactic| first | decide +kernel | exact goodS_ok (by assumption) | assumption)
local macro_rules | `(tactic| walk_at "1") => `(tactic| (first
  | (with_reducible refine ws_set ?_)
  | (with_reducible refine ws_ret ?_)
  | (with_reducible refine ws_if ?_)
  | (with_reducible refine ws_drop ?_)
  | (with_reducible refine w_op ?_)
  | (with_reducible refine w_un ?_)
  | (with_reducible refine w_int ?_)
  | (with_reducible refine w_bl ?_)
  | (with_reducible refine w_non ?_)
  | (with_reducible refine w_str ?_)
  | (with_reducible refine w_cb ?_)
  | (with_reducible refine w_call ?_)
  | (with_reducible refine w_sl ?_)
  | (with_reducible refine w_tupD ?_)
  | (with_reducible refine w_chain ?_)
  | (with_reducible refine w_andV ?_)
  | (with_reducible refine w_orV ?_)
  | (with_reducible refine w_notV ?_)
  | (with_reducible refine wo_none ?_)
  | (with_reducible refine wo_some ?_)
  | (with_reducible refine wa_cons ?_)
  | (with_reducible refine wa_nil ?_)
  | (with_reducible refine wt_test ?_)
  | (with_reducible refine wt_B ?_)
  | (with_reducible refine wt_and ?_)
  | (with_reducible refine wt_or ?_)
  | (with_reducible refine wt_not ?_)
  | (with_reducible refine wt_yes ?_)
  | (with_reducible refine w2_i0 ?_)
  | (with_reducible refine w2_b0 ?_)
  | (with_reducible refine w1_neg ?_)
  | ((with_reducible refine w2_i ?hc ?_); (case hc => first | decide | exact ⟨by decide, by decide⟩ | exact Or.inl ⟨by decide, by decide⟩ | exact Or.inr ⟨by decide, by decide⟩ | exact ⟨by decide, by decide, by decide⟩ | omega); skip)
  | ((with_reducible refine' w_var ?hv ?_); (case hv => exact rfl); skip)
  | ((with_reducible show W2 _ (rEqD _) (Sl.dat (PyData.int _)) (Sl.dat (PyData.int _)) _ _); (refine w2_eqI ?_))
  | ((with_reducible show W2 _ (rNeD _) (Sl.dat (PyData.int _)) (Sl.dat (PyData.int _)) _ _); (refine w2_neI ?_))
  | ((with_reducible show W2 _ (rEqD _) (Sl.dat (PyData.str _)) (Sl.dat (PyData.str _)) _ _); (refine' w2_eqS ?h1 ?h2 ?_); (case h1 => walk_at "str"); (case h2 => walk_at "str"); skip)
  | ((with_reducible show W2 _ (rNeD _) (Sl.dat (PyData.str _)) (Sl.dat (PyData.str _)) _ _); (refine' w2_neS ?h1 ?h2 ?_); (case h1 => walk_at "str"); (case h2 => walk_at "str"); skip)
  | ((with_reducible show W2 _ (rEqD _) _ _ _ _); (refine w2_eq ?ha ?hb ?_); (case ha => first | exact shaped_int _ | exact shaped_bool _); (case hb => first | exact shaped_int _ | exact shaped_bool _); skip)
  | ((with_reducible show W2 _ (rNeD _) _ _ _ _); (refine w2_ne ?ha ?hb ?_); (case ha => first | exact shaped_int _ | exact shaped_bool _); (case hb => first | exact shaped_int _ | exact shaped_bool _); skip)
  | ((with_reducible show W2 _ _ _ _ _ _); (refine w2_isN ?_))
  | ((with_reducible show W2 _ _ _ _ _ _); (refine w2_notN ?_))
  | (with_reducible refine wl_lenE ?_)
  | (with_reducible refine wl_lenD ?_)
  | (with_reducible refine wl_lenTD ?_)
  | (with_reducible refine wl_listE ?_)
  | (with_reducible refine wsl_E ?_)
  | ((with_reducible refine' w2_catE ?hl ?_); (try (case hl => walk_at "len")); skip)
  | ((with_reducible refine' w2_rep1 ?h1 ?h2 ?_); (try (case h1 => first | decide | omega)); (try (case h2 => first | decide | omega)); skip)
  | ((with_reducible show WL _ _ [_] _ _); (refine' wl_len ?hl ?_); (case hl => first | exact lsv_dat | exact lsv_ref um_same | exact lsv_ref (by assumption)); skip)
  | ((with_reducible show WL _ _ [_] _ _); (refine' wl_list ?hl ?_); (case hl => first | exact .inl lsv_dat | exact .inl (lsv_ref (by assumption))); skip)
  | ((with_reducible show WSl _ (rSlL _) _ _ _ _ _); (refine' wsl_lst ?hl ?_); (case hl => first | exact lsv_dat | exact lsv_ref um_same | exact lsv_ref (by assumption)); skip)
  | ((with_reducible show WL _ _ [_] _ _); (refine wl_int ?_))
  | ((with_reducible show WL _ _ [_] _ _); (refine wl_intb ?_))
  | ((with_reducible show WL _ _ [_, _] _ _); (refine wl_min ?_))
  | ((with_reducible first | show W2 _ (rIxL _) (Sl.dat (PyData.list (List.cons _ _))) (Sl.dat (PyData.int _)) _ _ | show W2 _ (rIxL _) (Sl.dat (PyData.list (List.map PyData.int (List.cons _ _)))) (Sl.dat (PyData.int _)) _ _); (refine' w2_ixAny ?h0 ?h1 ?_); (case h0 => omega); (case h1 => first | omega | (simp only [List.length_cons, List.length_nil, List.length_map]; omega)); skip)
  | ((with_reducible show W2 _ (rIxL _) _ _ _ _); (refine' w2_ixL ?hs ?hx ?_); (case hs => first | exact lsv_dat | exact lsv_ref um_same | exact lsv_ref (by assumption)); (try (case hx => exact rfl)); skip)
  | ((with_reducible show W2 _ (rIxT _) _ _ _ _); (refine' w2_ixT ?hx ?_); (case hx => exact rfl); skip)
  | ((with_reducible show WL _ (rIsi _) [_, _] _ _); (refine' wl_isi ?hb ?_); (case hb => first | exact isi_bool _ | exact isi_int _ | exact isi_str _ | exact isi_tuple _ | exact isi_list _); skip)
  | ((with_reducible show W _ (tC (V.ty _)) _ _ _); (refine w_raw ?_))
  | ((with_reducible show W _ (tC (V.ref _)) _ _ _); (refine w_raw ?_))
  | ((with_reducible show WSl _ (rSlA _) _ _ _ _ _); (refine wsl_tup ?_))
  | ((with_reducible show WL _ (rTupS _) [Sl.dat (PyData.list _)] _ _); (refine wl_tuple lsv_dat ?_))
  | ((with_reducible show W2 _ (rCatA _) _ _ _ _); (refine' w2_catT ?hl ?_); (try (case hl => walk_at "len")); skip)
  | ((with_reducible show WL _ _ [_] _ _); (refine' wl_lenT ?hl ?_); (case hl => exact tpv_dat); skip)
  | (with_reducible refine ws_next ?_)
  | (with_reducible refine ite_t rfl ?_)
  | (with_reducible refine ite_f rfl ?_)
  | ((with_reducible refine' ite_t ?hb ?_); (case hb => decide +kernel); skip)
  | ((with_reducible refine' ite_f ?hb ?_); (case hb => decide +kernel); skip)
  | ((with_reducible show ∃ b : Bool, _ = Sl.bl b ∧ _); (with_reducible refine ⟨_, rfl, ?_⟩))
  | ((with_reducible show ∃ i : Int, _ = Sl.int i ∧ _); (with_reducible refine ⟨_, rfl, ?_⟩))
  | ((with_reducible show List.length _ ≤ 100000 ∧ _); (refine ⟨(by simp), ?_⟩))
  | ((with_reducible show ∃ ds : List PyData, datsOf _ = some ds ∧ _); (refine ⟨_, rfl, ?_⟩))))
local macro_rules | `(tactic| walk_at "e") => `(tactic| repeat (first | (with_reducible refine ws_seq ?_) | (walk_at "1")))
local macro_rules | `(tactic| walk_at "g") => `(tactic| repeat (first | (walk_at "1") | ((with_reducible refine w_lstI (wa_cons ?_)); (repeat (walk_at "1")); (with_reducible show ∃ ns : List Int, itemsI _ = some ns ∧ _); (refine ⟨_, rfl, ?_⟩)) | (with_reducible refine w_lstD ?_)))
local macro_rules | `(tactic| walk_at "f") => `(tactic| repeat (first | (with_reducible refine ws_seq ?_) | (walk_at "1") | ((with_reducible refine w_lstI (wa_cons ?_)); (repeat (walk_at "1")); (with_reducible show ∃ ns : List Int, itemsI _ = some ns ∧ _); (refine ⟨_, rfl, ?_⟩)) | (with_reducible refine w_lstD ?_)))
local macro_rules | `(tactic| walk_at "k") => `(tactic| first | dsimp only [cxOf, Cx.nox, Cx.wish] | skip)

section
variable {P : Program} {w : World} {K : PySem.W.Frag} {mg : Str → Option Value} {base : Heap} {a : AD} {d : FD}
def MidN (M : MH) (p : Addr) (n : Int) (ρ' : Rho) (M' : MH) : Prop := ∃ (xs : List Sl) (y z : Option Sl), ρ' = [some (.ref p), some (.int n), y, z] ∧ M' = um M p (.lst xs) ∧ DrawL xs
theorem ok_next (T : Txt K mg a d) : FnOk P w K mg base CX0 1 a.law_next d.law_next ["_law_state", "_law_limit"] (conc K A_next) := by
  refine ab_ok T.F_law_next sc_law_next (fun ss M Q ⟨p, n, xs, e, _⟩ => by subst e; rfl) fun cdv Ar outer s H E hr => ?_
  have hu64 := hr.units
  refine ⟨_, (pss_cons (ps_if (PW.pt (pw_and (pt_cmpR (r := rEqD K) (op_eqD hu64) (pe_ix (r := rIxL K) ix_list (pv 0) pe_int (fun _ _ => rfl)) pe_int (nomark _)) (pw_and1 (pt_cmpR op_lt (pe_ix (r := rIxL K) ix_list (pv 0) pe_int (fun _ _ => rfl)) (pe_callB (r := rLenS K) call_len_seq (by rfl) T.n_len PySem.boot_len (pa_cons (pe_ix (r := rIxL K) ix_list (pv 0) pe_int (fun _ _ => rfl)) pa_nil)) (nomark _))))) (pss_cons (ps_set (i := 2) sc_law_next.nd rfl (Or.inl rfl) (pe_ix (r := rIxL K) ix_list (pe_ix (r := rIxL K) ix_list (pv 0) pe_int (fun _ _ => rfl)) (pe_ix (r := rIxL K) ix_list (pv 0) pe_int (fun _ _ => rfl)) (fun _ _ => rfl)))
  (pss_cons (ps_augS (pv 0) pe_int pget_list pe_int ip_add set_list)
  (pss_one (ps_if (pt_cmpR op_ge (pv 2) (pe_op op_pow pe_int pe_int) (nomark _)) (pss_one (ps_asg (pv 2) (pg_sub (pv 0) pe_int set_list))) (pss_one (ps_asg (pe_op op_mod (pe_callTy (r := rInt1) call_int1 (by rfl) T.n_int (by decide +kernel) (pa_cons (pe_op op_add (pe_op op_add (pe_op op_mul (pe_ix (r := rIxL K) ix_list (pv 0) pe_int (fun _ _ => rfl)) pe_int) (pe_op op_mod (pe_callTy (r := rInt1) call_int1 (by rfl) T.n_int (by decide +kernel) (pa_cons (pv 2) pa_nil)) pe_int)) pe_int) pa_nil)) pe_int) (pg_sub (pv 0) pe_int set_list))))))) pss_nil)
  (pss_cons (ps_if (pt_cmpR op_gt (pe_ix (r := rIxL K) ix_list (pv 0) pe_int (fun _ _ => rfl)) pe_int (nomark _)) (pss_cons (ps_set (i := 3) sc_law_next.nd rfl (Or.inl rfl) (pe_op op_mod (pe_callTy (r := rInt1) call_int1 (by rfl) T.n_int (by decide +kernel) (pa_cons (pe_ix (r := rIxL K) ix_list (pv 0) pe_int (fun _ _ => rfl)) pa_nil)) (pv 1)))
  (pss_cons (ps_asg (pe_op op_fdivW (pe_ix (r := rIxL K) ix_list (pv 0) pe_int (fun _ _ => rfl)) (pv 1)) (pg_sub (pv 0) pe_int set_list))
  (pss_one (ps_ret (pv 3))))) pss_nil)
  (pss_cons (ps_asg (pe_op op_mod (pe_callTy (r := rInt1) call_int1 (by rfl) T.n_int (by decide +kernel) (pa_cons (pe_op op_add (pe_op op_mul (pe_ix (r := rIxL K) ix_list (pv 0) pe_int (fun _ _ => rfl)) pe_int) pe_int) pa_nil)) pe_int) (pg_sub (pv 0) pe_int set_list))
  (pss_one (ps_ret (pe_op op_mod (pe_callTy (r := rInt1) call_int1 (by rfl) T.n_int (by decide +kernel) (pa_cons (pe_op op_fdiv (pe_ix (r := rIxL K) ix_list (pv 0) pe_int (fun _ _ => rfl)) pe_int) pa_nil)) (pv 1))))))), ?_⟩
  rintro ss M Q ⟨p, n, xs, rfl, hp, ⟨sc, pos, cur, seed, rfl, hpos⟩, hn0, hn1, q⟩
  walk_at "k"
  show WS K _ [some (.ref p), some (.int n), none, none] M _
  refine ws_mid (MidN M p n) ?_ ?_
  · have same : MidN M p n [some (.ref p), some (.int n), none, none] M := ⟨_, none, none, rfl, (um_id hp).symm, sc, pos, cur, seed, rfl, hpos⟩
    walk_at "e"
    refine ite_b (fun _ => ?_) (fun _ => ite_f rfl (ws_next same))
    walk_at "e"
    refine ite_b (fun hlt => ?_) (fun _ => ws_next same)
    have hlt' := of_decide_eq_true hlt
    have hk : pos.toNat < sc.length := by omega
    walk_at "e"
    case hx => exact atI_ok hpos (get_two (List.getElem?_eq_getElem hk))
    refine ws_seq (ws_augL (w_var rfl (w_int ⟨p, _, 1, pos, rfl, rfl, hp, rfl, w_int ⟨1, rfl, hp, ?_⟩⟩)))
    have hp3 : um M p (.lst [.dat (.list (sc.map .int)), .int (pos + 1), .int cur, .int seed]) p = some (.lst [.dat (.list (sc.map .int)), .int (pos + 1), .int cur, .int seed]) := um_same
    show WS K _ [some (.ref p), some (.int n), some (.int sc[pos.toNat]), none] (um M p (.lst [.dat (.list (sc.map .int)), .int (pos + 1), .int cur, .int seed])) _
    walk_at "e"
    refine ite_b (fun _ => ?_) (fun _ => ?_)
    · refine ws_setL (w_var rfl (w_var rfl (w_int ⟨p, _, 2, 2, rfl, rfl, um_same, rfl, ?_⟩)))
      rw [um_um]
      exact ⟨_, some (.int sc[pos.toNat]), none, rfl, rfl, sc, pos + 1, _, seed, rfl, by omega⟩
    · refine ws_setL ?_
      walk_at "e"
      refine ⟨p, _, 3, 3, rfl, rfl, um_same, rfl, ?_⟩
      rw [um_um]
      exact ⟨_, some (.int sc[pos.toNat]), none, rfl, rfl, sc, pos + 1, cur, _, rfl, by omega⟩
  · rintro ρ' M' ⟨xs, y, z, rfl, rfl, sc, pos, cur, seed, rfl, hpos⟩
    have hp2 : um M p (.lst [.dat (.list (sc.map .int)), .int pos, .int cur, .int seed]) p = some (.lst [.dat (.list (sc.map .int)), .int pos, .int cur, .int seed]) := um_same
    have hdiv : CDivW cur n := wide_div (b := 140) hn0 (by omega) (by decide) (by decide)
    walk_at "e"
    refine ite_b (fun hc => ?_) (fun _ => ?_)
    · have hc' := of_decide_eq_true hc
      walk_at "e"
      refine ws_setL ?_
      walk_at "e"
      refine ⟨p, _, 2, 2, rfl, rfl, um_same, rfl, ?_⟩
      rw [um_um]
      walk_at "e"
      exact q _ _ (Int.emod_nonneg _ (by omega)) (Int.emod_lt_of_pos _ hn0) ⟨sc, pos, _, seed, rfl, hpos⟩
    · refine ws_next ?_
      refine ws_seq (ws_setL ?_)
      walk_at "e"
      refine ⟨p, _, 3, 3, rfl, rfl, um_same, rfl, ?_⟩
      rw [um_um]
      have hp4 : um M p (.lst [.dat (.list (sc.map .int)), .int pos, .int cur, .int ((seed * 69621 + 12345) % 2147483647)]) p = some (.lst [.dat (.list (sc.map .int)), .int pos, .int cur, .int ((seed * 69621 + 12345) % 2147483647)]) := um_same
      show WS K _ [some (.ref p), some (.int n), y, z] (um M p (.lst [.dat (.list (sc.map .int)), .int pos, .int cur, .int ((seed * 69621 + 12345) % 2147483647)])) _
      walk_at "e"
      exact q _ _ (Int.emod_nonneg _ (by omega)) (Int.emod_lt_of_pos _ hn0) ⟨sc, pos, cur, _, rfl, hpos⟩

/-! equal data is the same -/
def A_same (n : Nat) : ASp := fun ss M Q => ∃ x : PyData, ss = [.dat x, .dat x] ∧ okD n x = true ∧ Q (.bl true) M
def A_sameN : Nat → ASp
  | 0 => fun _ _ _ => False
  | n + 1 => A_same n
theorem ok_sameN (T : Txt K mg a d) : ∀ n : Nat, FnOk P w K mg base CX0 n a.law_same d.law_same ["_law_actual", "_law_expected"] (conc K (A_sameN n)) := by
  intro n
  induction n with
  | zero => exact ⟨fun vs H Q E h => by obtain ⟨_, _, _, _, _, _, z, _⟩ := h; exact z.elim, fun A outer s H args us vs Q E _ _ _ _ h => by obtain ⟨_, _, _, _, _, _, z, _⟩ := h; exact z.elim⟩
  | succ n ih =>
    have G_law_same := ih
    refine ab_ok T.F_law_same sc_law_same (fun ss M Q ⟨x, e, _⟩ => by subst e; rfl) fun cdv Ar outer s H E hr => ?_
    have hu64 := hr.units
    refine ⟨_, (pss_cons (ps_if (pt_cmpR op_isN (pv 1) pe_non (nomark _)) (pss_one (ps_ret (pe_cmpR op_isN (pv 0) pe_non (nomark _)))) pss_nil)
  (pss_cons (ps_if (pt_val (pe_callB (r := rIsi K) call_isi (by rfl) T.n_isinstance (by decide +kernel) (pa_cons (pv 1) (pa_cons (pe_bltn (v := .ty "bool") (u := .type "bool") (by rfl) T.n_bool (by decide +kernel) rfl) pa_nil)))) (pss_one (ps_ret (pe_and (pe_callB (r := rIsi K) call_isi (by rfl) T.n_isinstance (by decide +kernel) (pa_cons (pv 0) (pa_cons (pe_bltn (v := .ty "bool") (u := .type "bool") (by rfl) T.n_bool (by decide +kernel) rfl) pa_nil))) (pe_one (pe_cmpR (r := rEqD K) (op_eqD hu64) (pv 0) (pv 1) (nomark _)))))) pss_nil)
  (pss_cons (ps_if (pt_val (pe_callB (r := rIsi K) call_isi (by rfl) T.n_isinstance (by decide +kernel) (pa_cons (pv 1) (pa_cons (pe_bltn (v := .ty "int") (u := .type "int") (by rfl) T.n_int (by decide +kernel) rfl) pa_nil)))) (pss_one (ps_ret (pe_and (pe_callB (r := rIsi K) call_isi (by rfl) T.n_isinstance (by decide +kernel) (pa_cons (pv 0) (pa_cons (pe_bltn (v := .ty "int") (u := .type "int") (by rfl) T.n_int (by decide +kernel) rfl) pa_nil))) (pe_and (pe_not (pe_callB (r := rIsi K) call_isi (by rfl) T.n_isinstance (by decide +kernel) (pa_cons (pv 0) (pa_cons (pe_bltn (v := .ty "bool") (u := .type "bool") (by rfl) T.n_bool (by decide +kernel) rfl) pa_nil)))) (pe_one (pe_cmpR (r := rEqD K) (op_eqD hu64) (pv 0) (pv 1) (nomark _))))))) pss_nil)
  (pss_cons (ps_if (pt_val (pe_callB (r := rIsi K) call_isi (by rfl) T.n_isinstance (by decide +kernel) (pa_cons (pv 1) (pa_cons (pe_bltn (v := .ty "str") (u := .type "str") (by rfl) T.n_str (by decide +kernel) rfl) pa_nil)))) (pss_one (ps_ret (pe_and (pe_callB (r := rIsi K) call_isi (by rfl) T.n_isinstance (by decide +kernel) (pa_cons (pv 0) (pa_cons (pe_bltn (v := .ty "str") (u := .type "str") (by rfl) T.n_str (by decide +kernel) rfl) pa_nil))) (pe_one (pe_cmpR (r := rEqD K) (op_eqD hu64) (pv 0) (pv 1) (nomark _)))))) pss_nil)
  (pss_cons (ps_if (PW.pt (pw_and (pt_val (pe_callB (r := rIsi K) call_isi (by rfl) T.n_isinstance (by decide +kernel) (pa_cons (pv 1) (pa_cons (pe_bltn (v := .ty "tuple") (u := .type "tuple") (by rfl) T.n_tuple (by decide +kernel) rfl) pa_nil)))) (pw_and1 (pt_not (pt_val (pe_callB (r := rIsi K) call_isi (by rfl) T.n_isinstance (by decide +kernel) (pa_cons (pv 0) (pa_cons (pe_bltn (v := .ty "tuple") (u := .type "tuple") (by rfl) T.n_tuple (by decide +kernel) rfl) pa_nil)))))))) (pss_one (ps_ret pe_bl)) pss_nil)
  (pss_cons (ps_if (PW.pt (pw_and (pt_val (pe_callB (r := rIsi K) call_isi (by rfl) T.n_isinstance (by decide +kernel) (pa_cons (pv 1) (pa_cons (pe_bltn (v := .ty "list") (u := .type "list") (by rfl) T.n_list (by decide +kernel) rfl) pa_nil)))) (pw_and1 (pt_not (pt_val (pe_callB (r := rIsi K) call_isi (by rfl) T.n_isinstance (by decide +kernel) (pa_cons (pv 0) (pa_cons (pe_bltn (v := .ty "list") (u := .type "list") (by rfl) T.n_list (by decide +kernel) rfl) pa_nil)))))))) (pss_one (ps_ret pe_bl)) pss_nil)
  (pss_cons (ps_if (pt_cmpR (r := rNeD K) (op_neD hu64) (pe_callB (r := rLenS K) call_len_seq (by rfl) T.n_len PySem.boot_len (pa_cons (pv 0) pa_nil)) (pe_callB (r := rLenS K) call_len_seq (by rfl) T.n_len PySem.boot_len (pa_cons (pv 1) pa_nil)) (nomark _)) (pss_one (ps_ret pe_bl)) pss_nil)
  (pss_cons (ps_for PassesOwn.never rfl (pi_range1 rfl T.n_range (pa_cons (pe_callB (r := rLenS K) call_len_seq (by rfl) T.n_len PySem.boot_len (pa_cons (pv 1) pa_nil)) pa_nil)) (pg_name (i := 2) sc_law_same.nd rfl (Or.inl rfl)) (pss_one (ps_if (pt_not (pt_val (pe_call G_law_same (hr.mono (by omega)) (by rfl) T.g_law_same T.F_law_same.kp T.b_law_same .nil pass0 (pa_cons (pe_ix (r := rIx K) ix_seq (pv 0) (pv 2) (fun _ _ => rfl)) (pa_cons (pe_ix (r := rIx K) ix_seq (pv 1) (pv 2) (fun _ _ => rfl)) pa_nil))))) (pss_one (ps_ret pe_bl)) pss_nil)))
  (pss_one (ps_ret pe_bl)))))))))), ?_⟩
    rintro ss M Q ⟨x, rfl, hx, q⟩
    walk_at "k"
    show WS K _ [some (.dat x), some (.dat x), none] M _
    walk_at "e"
    cases x with
    | none =>
      walk_at "e"
      exact q
    | bool b =>
      walk_at "e"
      rw [show PyData.eqv (.bool b) (.bool b) = true by cases b <;> rfl]
      exact q
    | int i =>
      walk_at "e"
      rw [decide_eq_true rfl]
      exact q
    | str x =>
      have hsh : PyData.strOk x = true := by cases n <;> simpa [okD] using hx
      walk_at "e"
      rw [decide_eq_true rfl]
      walk_at "e"
      exact q
    | dict _ => cases n <;> cases hx
    | tuple xs =>
      cases n with
      | zero => cases hx
      | succ m =>
        obtain ⟨hl, ho⟩ := okD_tuple hx
        walk_at "e"
        rw [decide_eq_true rfl]
        walk_at "e"
        refine ws_forR1 (n := (xs.length : Int)) (M1 := M) (by walk_at "e"; exact ⟨rfl, rfl⟩) (by omega)
          (fun i ρ' M' => ∃ y, ρ' = [some (.dat (.tuple xs)), some (.dat (.tuple xs)), y] ∧ M' = M) ⟨_, rfl, rfl⟩ ?_ ?_
        · rintro i ρ' M' hi ⟨y, rfl, rfl⟩
          have hi' : i < xs.length := by omega
          refine wg_name ?_
          have hat : atI xs (i : Int) = some xs[i] := atI_nat (List.getElem?_eq_getElem hi')
          walk_at "e"
          refine w2_ixDT hat ?_
          walk_at "e"
          refine w2_ixDT hat ?_
          walk_at "e"
          refine ⟨xs[i], rfl, okD_mem ho (List.getElem_mem hi'), ?_⟩
          walk_at "e"
          exact ⟨_, rfl, rfl⟩
        · rintro ρ' M' ⟨y, rfl, rfl⟩
          walk_at "e"
          exact q
    | list xs =>
      cases n with
      | zero => cases hx
      | succ m =>
        obtain ⟨hl, ho⟩ := okD_list hx
        walk_at "e"
        rw [decide_eq_true rfl]
        walk_at "e"
        refine ws_forR1 (n := (xs.length : Int)) (M1 := M) (by walk_at "e"; exact ⟨rfl, rfl⟩) (by omega)
          (fun i ρ' M' => ∃ y, ρ' = [some (.dat (.list xs)), some (.dat (.list xs)), y] ∧ M' = M) ⟨_, rfl, rfl⟩ ?_ ?_
        · rintro i ρ' M' hi ⟨y, rfl, rfl⟩
          have hi' : i < xs.length := by omega
          refine wg_name ?_
          have hat : atI xs (i : Int) = some xs[i] := atI_nat (List.getElem?_eq_getElem hi')
          walk_at "e"
          refine w2_ixDL hat ?_
          walk_at "e"
          refine w2_ixDL hat ?_
          walk_at "e"
          refine ⟨xs[i], rfl, okD_mem ho (List.getElem_mem hi'), ?_⟩
          walk_at "e"
          exact ⟨_, rfl, rfl⟩
        · rintro ρ' M' ⟨y, rfl, rfl⟩
          walk_at "e"
          exact q

end
end K01


set_option Elab.async false
set_option linter.all false
set_option maxRecDepth 100000
set_option  maxHeartbeats 4000000
namespace K01
open PySem PyProof.Rows L2 Ab
local macro_rules | `(tactic| walk_at "len") => `(tactic| first | decide | omega | (simp only [List.length_append, List.length_map, List.length_replicate, List.length_cons, List.length_nil, List.length_take, List.length_drop, List.length_reverse, List.length_range]; omega))
local macro_rules | `(tactic| walk_at "str") => `(tactic| first | decide +kernel | exact goodS_ok (by assumption) | assumption)
local macro_rules | `(tactic| walk_at "1") => `(tactic| (first
  | (with_reducible refine ws_set ?_)
  | (with_reducible refine ws_ret ?_)
  | (with_reducible refine ws_if ?_)
  | (with_reducible refine ws_drop ?_)
  | (with_reducible refine w_op ?_)
  | (with_reducible refine w_un ?_)
  | (with_reducible refine w_int ?_)
  | (with_reducible refine w_bl ?_)
  | (with_reducible refine w_non ?_)
  | (with_reducible refine w_str ?_)
  | (with_reducible refine w_cb ?_)
  | (with_reducible refine w_call ?_)
  | (with_reducible refine w_sl ?_)
  | (with_reducible refine w_tupD ?_)
  | (with_reducible refine w_chain ?_)
  | (with_reducible refine w_andV ?_)
  | (with_reducible refine w_orV ?_)
  | (with_reducible refine w_notV ?_)
  | (with_reducible refine wo_none ?_)
  | (with_reducible refine wo_some ?_)
  | (with_reducible refine wa_cons ?_)
  | (with_reducible refine wa_nil ?_)
  | (with_reducible refine wt_test ?_)
  | (with_reducible refine wt_B ?_)
  | (with_reducible refine wt_and ?_)
  | (with_reducible refine wt_or ?_)
  | (with_reducible refine wt_not ?_)
  | (with_reducible refine wt_yes ?_)
  | (with_reducible refine w2_i0 ?_)
  | (with_reducible refine w2_b0 ?_)
  | (with_reducible refine w1_neg ?_)
  | ((with_reducible refine w2_i ?hc ?_); (case hc => first | decide | exact ⟨by decide, by decide⟩ | exact Or.inl ⟨by decide, by decide⟩ | exact Or.inr ⟨by decide, by decide⟩ | exact ⟨by decide, by decide, by decide⟩ | omega); skip)
  | ((with_reducible refine' w_var ?hv ?_); (case hv => exact rfl); skip)
  | ((with_reducible show W2 _ (rEqD _) (Sl.dat (PyData.int _)) (Sl.dat (PyData.int _)) _ _); (refine w2_eqI ?_))
  | ((with_reducible show W2 _ (rNeD _) (Sl.dat (PyData.int _)) (Sl.dat (PyData.int _)) _ _); (refine w2_neI ?_))
  | ((with_reducible show W2 _ (rEqD _) (Sl.dat (PyData.str _)) (Sl.dat (PyData.str _)) _ _); (refine' w2_eqS ?h1 ?h2 ?_); (case h1 => walk_at "str"); (case h2 => walk_at "str"); skip)
  | ((with_reducible show W2 _ (rNeD _) (Sl.dat (PyData.str _)) (Sl.dat (PyData.str _)) _ _); (refine' w2_neS ?h1 ?h2 ?_); (case h1 => walk_at "str"); (case h2 => walk_at "str"); skip)
  | ((with_reducible show W2 _ (rEqD _) _ _ _ _); (refine w2_eq ?ha ?hb ?_); (case ha => first | exact shaped_int _ | exact shaped_bool _); (case hb => first | exact shaped_int _ | exact shaped_bool _); skip)
  | ((with_reducible show W2 _ (rNeD _) _ _ _ _); (refine w2_ne ?ha ?hb ?_); (case ha => first | exact shaped_int _ | exact shaped_bool _); (case hb => first | exact shaped_int _ | exact shaped_bool _); skip)
  | ((with_reducible show W2 _ _ _ _ _ _); (refine w2_isN ?_))
  | ((with_reducible show W2 _ _ _ _ _ _); (refine w2_notN ?_))
  | (with_reducible refine wl_lenE ?_)
  | (with_reducible refine wl_lenD ?_)
  | (with_reducible refine wl_lenTD ?_)
  | (with_reducible refine wl_listE ?_)
  | (with_reducible refine wsl_E ?_)
  | ((with_reducible refine' w2_catE ?hl ?_); (try (case hl => walk_at "len")); skip)
  | ((with_reducible refine' w2_rep1 ?h1 ?h2 ?_); (try (case h1 => first | decide | omega)); (try (case h2 => first | decide | omega)); skip)
  | ((with_reducible show WL _ _ [_] _ _); (refine' wl_len ?hl ?_); (case hl => first | exact lsv_dat | exact lsv_ref um_same | exact lsv_ref (by assumption)); skip)
  | ((with_reducible show WL _ _ [_] _ _); (refine' wl_list ?hl ?_); (case hl => first | exact .inl lsv_dat | exact .inl (lsv_ref (by assumption))); skip)
  | ((with_reducible show WSl _ (rSlL _) _ _ _ _ _); (refine' wsl_lst ?hl ?_); (case hl => first | exact lsv_dat | exact lsv_ref um_same | exact lsv_ref (by assumption)); skip)
  | ((with_reducible show WL _ _ [_] _ _); (refine wl_int ?_))
  | ((with_reducible show WL _ _ [_] _ _); (refine wl_intb ?_))
  | ((with_reducible show WL _ _ [_, _] _ _); (refine wl_min ?_))
  | ((with_reducible first | show W2 _ (rIxL _) (Sl.dat (PyData.list (List.cons _ _))) (Sl.dat (PyData.int _)) _ _ | show W2 _ (rIxL _) (Sl.dat (PyData.list (List.map PyData.int (List.cons _ _)))) (Sl.dat (PyData.int _)) _ _); (refine' w2_ixAny ?h0 ?h1 ?_); (case h0 => omega); (case h1 => first | omega | (simp only [List.length_cons, List.length_nil, List.length_map]; omega)); skip)
  | ((with_reducible show W2 _ (rIxL _) _ _ _ _); (refine' w2_ixL ?hs ?hx ?_); (case hs => first | exact lsv_dat | exact lsv_ref um_same | exact lsv_ref (by assumption)); (try (case hx => exact rfl)); skip)
  | ((with_reducible show W2 _ (rIxT _) _ _ _ _); (refine' w2_ixT ?hx ?_); (case hx => exact rfl); skip)
  | ((with_reducible show WL _ (rIsi _) [_, _] _ _); (refine' wl_isi ?hb ?_); (case hb => first | exact isi_bool _ | exact isi_int _ | exact isi_str _ | exact isi_tuple _ | exact isi_list _); skip)
  | ((with_reducible show W _ (tC (V.ty _)) _ _ _); (refine w_raw ?_))
  | ((with_reducible show W _ (tC (V.ref _)) _ _ _); (refine w_raw ?_))
  | ((with_reducible show WSl _ (rSlA _) _ _ _ _ _); (refine wsl_tup ?_))
  | ((with_reducible show WL _ (rTupS _) [Sl.dat (PyData.list _)] _ _); (refine wl_tuple lsv_dat ?_))
  | ((with_reducible show W2 _ (rCatA _) _ _ _ _); (refine' w2_catT ?hl ?_); (try (case hl => walk_at "len")); skip)
  | ((with_reducible show WL _ _ [_] _ _); (refine' wl_lenT ?hl ?_); (case hl => exact tpv_dat); skip)
  | (with_reducible refine ws_next ?_)
  | (with_reducible refine ite_t rfl ?_)
  | (with_reducible refine ite_f rfl ?_)
  | ((with_reducible refine' ite_t ?hb ?_); (case hb => decide +kernel); skip)
  | ((with_reducible refine' ite_f ?hb ?_); (case hb => decide +kernel); skip)
  | ((with_reducible show ∃ b : Bool, _ = Sl.bl b ∧ _); (with_reducible refine ⟨_, rfl, ?_⟩))
  | ((with_reducible show ∃ i : Int, _ = Sl.int i ∧ _); (with_reducible refine ⟨_, rfl, ?_⟩))
  | ((with_reducible show List.length _ ≤ 100000 ∧ _); (refine ⟨(by simp), ?_⟩))
  | ((with_reducible show ∃ ds : List PyData, datsOf _ = some ds ∧ _); (refine ⟨_, rfl, ?_⟩))))
local macro_rules | `(tactic| walk_at "e") => `(tactic| repeat (first | (with_reducible refine ws_seq ?_) | (walk_at "1")))
local macro_rules | `(tactic| walk_at "g") => `(tactic| repeat (first | (walk_at "1") | ((with_reducible refine w_lstI (wa_cons ?_)); (repeat (walk_at "1")); (with_reducible show ∃ ns : List Int, itemsI _ = some ns ∧ _); (refine ⟨_, rfl, ?_⟩)) | (with_reducible refine w_lstD ?_)))
local macro_rules | `(tactic| walk_at "f") => `(tactic| repeat (first | (with_reducible refine ws_seq ?_) | (walk_at "1") | ((with_reducible refine w_lstI (wa_cons ?_)); (repeat (walk_at "1")); (with_reducible show ∃ ns : List Int, itemsI _ = some ns ∧ _); (refine ⟨_, rfl, ?_⟩)) | (with_reducible refine w_lstD ?_)))
local macro_rules | `(tactic| walk_at "k") => `(tactic| first | dsimp only [cxOf, Cx.nox, Cx.wish] | skip)

section
variable {P : Program} {w : World} {K : PySem.W.Frag} {mg : Str → Option Value} {base : Heap} {a : AD} {d : FD}
/-! the draws of values, terms, literals, items -/
abbrev A_draw (P : PyData → Prop) : ASp := A_gen (· = []) fun _ => P
def charS : Str := " !\"#$&'()*+,-./0123456789:;<=>?@ABCDEFGHIJKLMNOPQRSTUVWXYZ[\\]^_`abcdefghijklmnopqrstuvwxyz{|}~"
def A_chars : ASp := fun ss M Q => ss = [] ∧ Q (.str charS) M
theorem chars_ok : charS.length = 94 ∧ ∀ c ∈ charS.cps.toList, goodS ⟨#[c]⟩ = true := by decide +kernel
theorem ok_chars (T : Txt K mg a d) : FnOk P w K mg base CX0 1 a.law_characters d.law_characters [] (conc K A_chars) := by
  refine ab_ok T.F_law_characters sc_law_characters (fun ss M Q ⟨e, _⟩ => by subst e; rfl) fun cdv Ar outer s H E hr => ⟨_, (pss_one (ps_ret pe_str)), ?_⟩
  rintro ss M Q ⟨rfl, q⟩
  walk_at "k"
  show WS K _ [] M _
  walk_at "e"
  exact q
theorem sgn_mul {x n : Int} {M : MH} {Q : Sl → MH → Prop} (x0 : 0 ≤ x) (x1 : x < 2) (hn : n.natAbs < 10 ^ 30) (q : ∀ n : Int, n.natAbs < 10 ^ 30 → Q (.int n) M) : W2 K (rI CMulW fun i j => V.int (i * j)) (Sl.int (1 - 2 * x)) (Sl.int n) M Q := by
  have hx : x = 0 ∨ x = 1 := by omega
  refine w2_i (wide_mul (a := 3) (b := 100) (by omega) (by omega) (by decide) (by decide) (by decide)) (q _ ?_)
  rcases hx with rfl | rfl
  · simpa using hn
  · simpa using hn
theorem ok_value (T : Txt K mg a d) : FnOk P w K mg base CX0 2 a.law_value d.law_value ["_law_state"] (conc K (A_draw fun d => isVal d = true)) := by
  have G_law_next : FnOk P w K mg base CX0 1 a.law_next d.law_next ["_law_state", "_law_limit"] (conc K A_next) := ok_next T
  have G_law_characters : FnOk P w K mg base CX0 1 a.law_characters d.law_characters [] (conc K A_chars) := ok_chars T
  refine ab_ok T.F_law_value sc_law_value (fun ss M Q ⟨p, xs, ds, e, e2, _⟩ => by subst e e2; rfl) fun cdv Ar outer s H E hr => ?_
  have hu64 := hr.units
  refine ⟨_, (pss_cons (ps_set (i := 1) sc_law_value.nd rfl (Or.inl rfl) (pe_call G_law_next (hr.mono (by omega)) (by rfl) T.g_law_next T.F_law_next.kp T.b_law_next .nil pass0 (pa_cons (pv 0) (pa_cons pe_int pa_nil))))
  (pss_cons (ps_if (pt_cmpR op_lt (pv 1) pe_int (nomark _)) (pss_one (ps_ret (pe_ix (r := rIxL K) ix_list (pe_lst (pa_cons pe_int (pa_cons pe_int (pa_cons pe_int (pa_cons (pe_un un_neg pe_int) pa_nil))))) (pv 1) (fun _ _ => rfl)))) pss_nil)
  (pss_cons (ps_if (pt_cmpR (r := rEqD K) (op_eqD hu64) (pv 1) pe_int (nomark _)) (pss_one (ps_ret (pe_op op_mulW (pe_op op_sub pe_int (pe_op op_mul pe_int (pe_call G_law_next (hr.mono (by omega)) (by rfl) T.g_law_next T.F_law_next.kp T.b_law_next .nil pass0 (pa_cons (pv 0) (pa_cons pe_int pa_nil))))) (pe_op op_sub (pe_op op_sub (pe_op op_pow pe_int pe_int) pe_int) (pe_call G_law_next (hr.mono (by omega)) (by rfl) T.g_law_next T.F_law_next.kp T.b_law_next .nil pass0 (pa_cons (pv 0) (pa_cons pe_int pa_nil))))))) pss_nil)
  (pss_cons (ps_if (pt_cmpR (r := rEqD K) (op_eqD hu64) (pv 1) pe_int (nomark _)) (pss_one (ps_ret (pe_op op_mulW (pe_op op_sub pe_int (pe_op op_mul pe_int (pe_call G_law_next (hr.mono (by omega)) (by rfl) T.g_law_next T.F_law_next.kp T.b_law_next .nil pass0 (pa_cons (pv 0) (pa_cons pe_int pa_nil))))) (pe_ix (r := rIxL K) ix_list (pe_lst (pa_cons pe_int (pa_cons pe_int (pa_cons pe_int (pa_cons pe_int (pa_cons (pe_call G_law_next (hr.mono (by omega)) (by rfl) T.g_law_next T.F_law_next.kp T.b_law_next .nil pass0 (pa_cons (pv 0) (pa_cons (pe_op op_pow pe_int pe_int) pa_nil))) pa_nil)))))) (pe_call G_law_next (hr.mono (by omega)) (by rfl) T.g_law_next T.F_law_next.kp T.b_law_next .nil pass0 (pa_cons (pv 0) (pa_cons pe_int pa_nil))) (fun _ _ => rfl))))) pss_nil)
  (pss_cons (ps_if (pt_cmpR op_lt (pv 1) pe_int (nomark _)) (pss_one (ps_ret (pe_ix (r := rIxL K) ix_list (pe_lst (pa_cons pe_str (pa_cons pe_str (pa_cons pe_str (pa_cons pe_str pa_nil))))) (pe_op op_sub (pv 1) pe_int) (fun _ _ => rfl)))) pss_nil)
  (pss_cons (ps_set (i := 2) sc_law_value.nd rfl (Or.inr rfl) (pe_call G_law_next (hr.mono (by omega)) (by rfl) T.g_law_next T.F_law_next.kp T.b_law_next .nil pass0 (pa_cons (pv 0) (pa_cons pe_int pa_nil))))
  (pss_cons (ps_set (i := 3) sc_law_value.nd rfl (Or.inr rfl) (pe_call G_law_next (hr.mono (by omega)) (by rfl) T.g_law_next T.F_law_next.kp T.b_law_next .nil pass0 (pa_cons (pv 0) (pa_cons pe_int pa_nil))))
  (pss_one (ps_ret (pe_join pe_str (pe_lc (own := [("_law_j", 4)]) rfl sc_law_value.nd (pi_range1 rfl T.n_range (pa_cons (pe_call G_law_next (hr.mono (by omega)) (by rfl) T.g_law_next T.F_law_next.kp T.b_law_next .nil pass0 (pa_cons (pv 0) (pa_cons pe_int pa_nil))) pa_nil)) (blkOk_by (own := [("_law_j", 4)]) (N := ["_law_state", "_law_pick", "_law_start", "_law_step", "_law_j"]) (sc := (defScope s_law_value)) (by decide +kernel)) (fun _ _ _ _ _ => (pg_name (i := 4) sc_law_value.nd rfl (Or.inl rfl))) (fun _ _ _ _ _ => pts_nil) (fun _ _ _ _ _ => (pe_ix ix_str (pe_call0 G_law_characters (hr.mono (by omega)) (by rfl) T.g_law_characters T.F_law_characters.kp T.b_law_characters .nil pass0) (pe_op op_mod (pe_op op_add (pv 2) (pe_op op_mulW (pv 3) (pv 4))) pe_int) (fun _ _ => rfl)))))))))))))), ?_⟩
  rintro ss M Q ⟨p, xs, ds, rfl, rfl, hM, hD, q⟩
  obtain ⟨M0, rfl⟩ : ∃ M0, M = um M0 p (.lst xs) := ⟨M, (um_id hM).symm⟩
  simp only [um_um] at q
  walk_at "k"
  show WS K _ [some (.ref p), none, none, none, none] (um M0 p (.lst xs)) _
  walk_at "e"
  refine a_next hD (by decide) (by decide) fun v ys h0 h1 hD1 => ?_
  walk_at "f"
  refine ite_d (fun h => ?_) (fun h => ?_)
  · walk_at "f"
    have all : ∀ d ∈ List.map PyData.int [0, 1, 2, -1], isVal d = true := by decide +kernel
    exact fun d hd => q d _ (all d hd) hD1
  walk_at "f"
  refine ite_d (fun h4 => ?_) (fun h4 => ?_)
  · walk_at "f"
    refine a_next hD1 (by decide) (by decide) fun x zs x0 x1 hD2 => ?_
    walk_at "f"
    refine a_next hD2 (by decide) (by decide) fun y zs y0 y1 hD3 => ?_
    walk_at "f"
    have e30 : (10 : Int) ^ Int.toNat 30 = 1000000000000000000000000000000 := by decide +kernel
    rw [e30]
    exact sgn_mul x0 x1 (by omega) fun n hn => q (.int n) _ (decide_eq_true hn) hD3
  walk_at "f"
  refine ite_d (fun h5 => ?_) (fun h5 => ?_)
  · walk_at "f"
    refine a_next hD1 (by decide) (by decide) fun x zs x0 x1 hD2 => ?_
    walk_at "f"
    refine a_next hD2 (by decide) (by decide) fun y zs y0 y1 hD3 => ?_
    walk_at "f"
    refine a_next hD3 (by decide) (by decide) fun z zs z0 z1 hD4 => ?_
    walk_at "f"
    have e30 : (10 : Int) ^ Int.toNat 30 = 1000000000000000000000000000000 := by decide +kernel
    rw [e30] at y1
    intro d hd
    have : ∃ n : Int, d = .int n ∧ n.natAbs < 10 ^ 30 := by
      simp only [List.mem_cons, List.not_mem_nil, or_false] at hd
      rcases hd with rfl | rfl | rfl | rfl | rfl <;> exact ⟨_, rfl, by omega⟩
    obtain ⟨n, rfl, hn⟩ := this
    exact sgn_mul x0 x1 hn fun n hn => q (.int n) _ (decide_eq_true hn) hD4
  walk_at "f"
  refine ite_d (fun h6 => ?_) (fun h6 => ?_)
  · walk_at "f"
    have all : ∀ d ∈ [PyData.str "", PyData.str "a", PyData.str "ab", PyData.str "1"], isVal d = true := by decide +kernel
    exact fun d hd => q d _ (all d hd) hD1
  walk_at "f"
  refine a_next hD1 (by decide) (by decide) fun x zs x0 x1 hD2 => ?_
  walk_at "f"
  refine a_next hD2 (by decide) (by decide) fun y zs y0 y1 hD3 => ?_
  walk_at "f"
  refine w_join ?_
  walk_at "f"
  refine ⟨_, rfl, ?_⟩
  refine w_lcGen (p := p) (by decide) (fun d => ∃ z : Str, d = .str z ∧ (z.cps.size = 1 ∧ goodS z = true)) ?_
  walk_at "f"
  refine a_next hD3 (by decide) (by decide) fun n zs n0 n1 hD4 => ?_
  walk_at "f"
  refine ⟨n, M0, zs, rfl, rfl, hD4, by omega, by omega, fun i M2 us hi hu => ?_, fun ds us hu hl hP => ?_⟩
  · walk_at "f"
    refine ⟨rfl, ?_⟩
    walk_at "f"
    refine w2_i (wide_mul (a := 10) (b := 40) (by omega) (by omega) (by decide) (by decide) (by decide)) ?_
    walk_at "f"
    refine w2_ixSAny (by rw [chars_ok.1]; decide) (by omega) (by rw [chars_ok.1]; omega) fun c hc => ?_
    exact ⟨_, us, rfl, rfl, hu, _, rfl, rfl, chars_ok.2 c hc⟩
  · obtain ⟨ys, rfl, hys⟩ := list_enc hP
    refine ⟨ys, rfl, ?_, ?_⟩
    · rw [sum_ones (sep := Str.ofString "") (by decide +kernel) hys]
      rw [List.length_map] at hl
      omega
    · refine q _ _ ?_ hu
      exact good_join (by decide +kernel) (by rw [List.length_map] at hl; omega) hys
end
end K01


set_option Elab.async false
set_option linter.all false
set_option maxRecDepth 100000
set_option  maxHeartbeats 4000000
namespace K01
open PySem PyProof.Rows L2 Ab
local macro_rules | `(tactic| walk_at "len") => `(tactic| first | decide | omega | (simp only [List.length_append, List.length_map, List.length_replicate, List.length_cons, List.length_nil, List.length_take, List.length_drop, List.length_reverse, List.length_range]; omega))
local macro_rules | `(tactic| walk_at "str") => `(tactic| first | decide +kernel | exact goodS_ok (by assumption) | assumption)
local macro_rules | `(tactic| walk_at "1") => `(tactic| (first
  | (with_reducible refine ws_set ?_)
  | (with_reducible refine ws_ret ?_)
  | (with_reducible refine ws_if ?_)
  | (with_reducible refine ws_drop ?_)
  | (with_reducible refine w_op ?_)
  | (with_reducible refine w_un ?_)
  | (with_reducible refine w_int ?_)
  | (with_reducible refine w_bl ?_)
  | (with_reducible refine w_non ?_)
  | (with_reducible refine w_str ?_)
  | (with_reducible refine w_cb ?_)
  | (with_reducible refine w_call ?_)
  | (with_reducible refine w_sl ?_)
  | (with_reducible refine w_tupD ?_)
  | (with_reducible refine w_chain ?_)
  | (with_reducible refine w_andV ?_)
  | (with_reducible refine w_orV ?_)
  | (with_reducible refine w_notV ?_)
  | (with_reducible refine wo_none ?_)
  | (with_reducible refine wo_some ?_)
  | (with_reducible refine wa_cons ?_)
  | (with_reducible refine wa_nil ?_)
  | (with_reducible refine wt_test ?_)
  | (with_reducible refine wt_B ?_)
  | (with_reducible refine wt_and ?_)
  | (with_reducible refine wt_or ?_)
  | (with_reducible refine wt_not ?_)
  | (with_reducible refine wt_yes ?_)
  | (with_reducible refine w2_i0 ?_)
  | (with_reducible refine w2_b0 ?_)
  | (with_reducible refine w1_neg ?_)
  | ((with_reducible refine w2_i ?hc ?_); (case hc => first | decide | exact ⟨by decide, by decide⟩ | exact Or.inl ⟨by decide, by decide⟩ | exact Or.inr ⟨by decide, by decide⟩ | exact ⟨by decide, by decide, by decide⟩ | omega); skip)
  | ((with_reducible refine' w_var ?hv ?_); (case hv => exact rfl); skip)
  | ((with_reducible show W2 _ (rEqD _) (Sl.dat (PyData.int _)) (Sl.dat (PyData.int _)) _ _); (refine w2_eqI ?_))
  | ((with_reducible show W2 _ (rNeD _) (Sl.dat (PyData.int _)) (Sl.dat (PyData.int _)) _ _); (refine w2_neI ?_))
  | ((with_reducible show W2 _ (rEqD _) (Sl.dat (PyData.str _)) (Sl.dat (PyData.str _)) _ _); (refine' w2_eqS ?h1 ?h2 ?_); (case h1 => walk_at "str"); (case h2 => walk_at "str"); skip)
  | ((with_reducible show W2 _ (rNeD _) (Sl.dat (PyData.str _)) (Sl.dat (PyData.str _)) _ _); (refine' w2_neS ?h1 ?h2 ?_); (case h1 => walk_at "str"); (case h2 => walk_at "str"); skip)
  | ((with_reducible show W2 _ (rEqD _) _ _ _ _); (refine w2_eq ?ha ?hb ?_); (case ha => first | exact shaped_int _ | exact shaped_bool _); (case hb => first | exact shaped_int _ | exact shaped_bool _); skip)
  | ((with_reducible show W2 _ (rNeD _) _ _ _ _); (refine w2_ne ?ha ?hb ?_); (case ha => first | exact shaped_int _ | exact shaped_bool _); (case hb => first | exact shaped_int _ | exact shaped_bool _); skip)
  | ((with_reducible show W2 _ _ _ _ _ _); (refine w2_isN ?_))
  | ((with_reducible show W2 _ _ _ _ _ _); (refine w2_notN ?_))
  | (with_reducible refine wl_lenE ?_)
  | (with_reducible refine wl_lenD ?_)
  | (with_reducible refine wl_lenTD ?_)
  | (with_reducible refine wl_listE ?_)
  | (with_reducible refine wsl_E ?_)
  | ((with_reducible refine' w2_catE ?hl ?_); (try (case hl => walk_at "len")); skip)
  | ((with_reducible refine' w2_rep1 ?h1 ?h2 ?_); (try (case h1 => first | decide | omega)); (try (case h2 => first | decide | omega)); skip)
  | ((with_reducible show WL _ _ [_] _ _); (refine' wl_len ?hl ?_); (case hl => first | exact lsv_dat | exact lsv_ref um_same | exact lsv_ref (by assumption)); skip)
  | ((with_reducible show WL _ _ [_] _ _); (refine' wl_list ?hl ?_); (case hl => first | exact .inl lsv_dat | exact .inl (lsv_ref (by assumption))); skip)
  | ((with_reducible show WSl _ (rSlL _) _ _ _ _ _); (refine' wsl_lst ?hl ?_); (case hl => first | exact lsv_dat | exact lsv_ref um_same | exact lsv_ref (by assumption)); skip)
  | ((with_reducible show WL _ _ [_] _ _); (refine wl_int ?_))
  | ((with_reducible show WL _ _ [_] _ _); (refine wl_intb ?_))
  | ((with_reducible show WL _ _ [_, _] _ _); (refine wl_min ?_))
  | ((with_reducible first | show W2 _ (rIxL _) (Sl.dat (PyData.list (List.cons _ _))) (Sl.dat (PyData.int _)) _ _ | show W2 _ (rIxL _) (Sl.dat (PyData.list (List.map PyData.int (List.cons _ _)))) (Sl.dat (PyData.int _)) _ _); (refine' w2_ixAny ?h0 ?h1 ?_); (case h0 => omega); (case h1 => first | omega | (simp only [List.length_cons, List.length_nil, List.length_map]; omega)); skip)
  | ((with_reducible show W2 _ (rIxL _) _ _ _ _); (refine' w2_ixL ?hs ?hx ?_); (case hs => first | exact lsv_dat | exact lsv_ref um_same | exact lsv_ref (by assumption)); (try (case hx => exact rfl)); skip)
  | ((with_reducible show W2 _ (rIxT _) _ _ _ _); (refine' w2_ixT ?hx ?_); (case hx => exact rfl); skip)
  | ((with_reducible show WL _ (rIsi _) [_, _] _ _); (refine' wl_isi ?hb ?_); (case hb => first | exact isi_bool _ | exact isi_int _ | exact isi_str _ | exact isi_tuple _ | exact isi_list _); skip)
  | ((with_reducible show W _ (tC (V.ty _)) _ _ _); (refine w_raw ?_))
  | ((with_reducible show W _ (tC (V.ref _)) _ _ _); (refine w_raw ?_))
  | ((with_reducible show WSl _ (rSlA _) _ _ _ _ _); (refine wsl_tup ?_))
  | ((with_reducible show WL _ (rTupS _) [Sl.dat (PyData.list _)] _ _); (refine wl_tuple lsv_dat ?_))
  | ((with_reducible show W2 _ (rCatA _) _ _ _ _); (refine' w2_catT ?hl ?_); (try (case hl => walk_at "len")); skip)
  | ((with_reducible show WL _ _ [_] _ _); (refine' wl_lenT ?hl ?_); (case hl => exact tpv_dat); skip)
  | (with_reducible refine ws_next ?_)
  | (with_reducible refine ite_t rfl ?_)
  | (with_reducible refine ite_f rfl ?_)
  | ((with_reducible refine' ite_t ?hb ?_); (case hb => decide +kernel); skip)
  | ((with_reducible refine' ite_f ?hb ?_); (case hb => decide +kernel); skip)
  | ((with_reducible show ∃ b : Bool, _ = Sl.bl b ∧ _); (with_reducible refine ⟨_, rfl, ?_⟩))
  | ((with_reducible show ∃ i : Int, _ = Sl.int i ∧ _); (with_reducible refine ⟨_, rfl, ?_⟩))
  | ((with_reducible show List.length _ ≤ 100000 ∧ _); (refine ⟨(by simp), ?_⟩))
  | ((with_reducible show ∃ ds : List PyData, datsOf _ = some ds ∧ _); (refine ⟨_, rfl, ?_⟩))))
local macro_rules | `(tactic| walk_at "e") => `(tactic| repeat (first | (with_reducible refine ws_seq ?_) | (walk_at "1")))
local macro_rules | `(tactic| walk_at "g") => `(tactic| repeat (first | (walk_at "1") | ((with_reducible refine w_lstI (wa_cons ?_)); (repeat (walk_at "1")); (with_reducible show ∃ ns : List Int, itemsI _ = some ns ∧ _); (refine ⟨_, rfl, ?_⟩)) | (with_reducible refine w_lstD ?_)))
local macro_rules | `(tactic| walk_at "f") => `(tactic| repeat (first | (with_reducible refine ws_seq ?_) | (walk_at "1") | ((with_reducible refine w_lstI (wa_cons ?_)); (repeat (walk_at "1")); (with_reducible show ∃ ns : List Int, itemsI _ = some ns ∧ _); (refine ⟨_, rfl, ?_⟩)) | (with_reducible refine w_lstD ?_)))
local macro_rules | `(tactic| walk_at "k") => `(tactic| first | dsimp only [cxOf, Cx.nox, Cx.wish] | skip)

section
variable {P : Program} {w : World} {K : PySem.W.Frag} {mg : Str → Option Value} {base : Heap} {a : AD} {d : FD}
abbrev A_row : ASp := A_gen (fun ds => ∃ n : Int, ds = [.int n] ∧ 0 ≤ n ∧ n ≤ 1000) fun ds d => ∃ row : List Val, d = encR row ∧ okR row ∧ ds = [.int (row.length : Int)]
theorem ok_row (T : Txt K mg a d) : FnOk P w K mg base CX0 3 a.law_row d.law_row ["_law_state", "_law_width"] (conc K A_row) := by
  have G_law_value : FnOk P w K mg base CX0 2 a.law_value d.law_value ["_law_state"] (conc K (A_draw fun d => isVal d = true)) := ok_value T
  refine ab_ok T.F_law_row sc_law_row (fun ss M Q ⟨p, xs, ds, e, ⟨n, e2, _⟩, _⟩ => by subst e e2; rfl) fun cdv Ar outer s H E hr => ⟨_, (pss_one (ps_ret (pe_callTy (r := rTupS K) call_tuple_of (by rfl) T.n_tuple (by decide +kernel) (pa_cons (pe_lc (own := [("_law_k", 2)]) rfl sc_law_row.nd (pi_range1 rfl T.n_range (pa_cons (pv 1) pa_nil)) (blkOk_by (own := [("_law_k", 2)]) (N := ["_law_state", "_law_width", "_law_k"]) (sc := (defScope s_law_row)) (by decide +kernel)) (fun _ _ _ _ _ => (pg_name (i := 2) sc_law_row.nd rfl (Or.inl rfl))) (fun _ _ _ _ _ => pts_nil) (fun _ _ _ _ _ => (pe_call G_law_value (hr.mono (by omega)) (by rfl) T.g_law_value T.F_law_value.kp T.b_law_value .nil pass0 (pa_cons (pv 0) pa_nil)))) pa_nil)))), ?_⟩
  rintro ss M Q ⟨p, xs, ds, rfl, ⟨n, rfl, n0, n1⟩, hM, hD, q⟩
  obtain ⟨M0, rfl⟩ : ∃ M0, M = um M0 p (.lst xs) := ⟨M, (um_id hM).symm⟩
  simp only [um_um] at q
  walk_at "k"
  show WS K _ [some (.ref p), some (.int n), none] (um M0 p (.lst xs)) _
  walk_at "f"
  refine w_lcGen (p := p) (by decide) (fun d => isVal d = true) ?_
  walk_at "f"
  refine ⟨n, M0, xs, rfl, rfl, hD, by omega, by omega, fun i M2 us hi hu => ?_, fun ds us hu hl hP => ?_⟩
  · walk_at "f"
    refine a_gen0 hu rfl fun d zs hP hD => ?_
    exact ⟨d, zs, rfl, rfl, hD, hP⟩
  · obtain ⟨row, rfl, hrow⟩ := list_enc (f := Val.enc) (R := Val.ok) fun d hd => isVal_of (hP d hd)
    walk_at "f"
    rw [List.length_map] at hl
    exact q _ _ ⟨row, rfl, ⟨by omega, hrow⟩, by rw [hl, Int.toNat_of_nonneg n0]⟩ hu
theorem ok_name (T : Txt K mg a d) : FnOk P w K mg base CX0 2 a.law_name d.law_name ["_law_state"] (conc K (A_draw fun d => isName d = true)) := by
  have G_law_next : FnOk P w K mg base CX0 1 a.law_next d.law_next ["_law_state", "_law_limit"] (conc K A_next) := ok_next T
  refine ab_ok T.F_law_name sc_law_name (fun ss M Q ⟨p, xs, ds, e, e2, _⟩ => by subst e e2; rfl) fun cdv Ar outer s H E hr => ⟨_, (pss_one (ps_ret (pe_ix (r := rIxL K) ix_list (pe_lst (pa_cons pe_str (pa_cons pe_str (pa_cons pe_str (pa_cons pe_str (pa_cons pe_str (pa_cons pe_str (pa_cons pe_str (pa_cons pe_str pa_nil))))))))) (pe_call G_law_next (hr.mono (by omega)) (by rfl) T.g_law_next T.F_law_next.kp T.b_law_next .nil pass0 (pa_cons (pv 0) (pa_cons pe_int pa_nil))) (fun _ _ => rfl)))), ?_⟩
  rintro ss M Q ⟨p, xs, ds, rfl, rfl, hM, hD, q⟩
  obtain ⟨M0, rfl⟩ : ∃ M0, M = um M0 p (.lst xs) := ⟨M, (um_id hM).symm⟩
  simp only [um_um] at q
  walk_at "k"
  show WS K _ [some (.ref p)] (um M0 p (.lst xs)) _
  walk_at "f"
  refine a_next hD (by decide) (by decide) fun v ys h0 h1 hD1 => ?_
  walk_at "f"
  have all : ∀ d ∈ [PyData.str "r", PyData.str "r1", PyData.str "r_", PyData.str "longest_name", PyData.str "longest_namf", PyData.str "a", PyData.str "ab", PyData.str "r1x"], isName d = true := by decide +kernel
  exact fun d hd => q d _ (all d hd) hD1
abbrev A_term : ASp := A_draw fun d => ∃ t : Term, d = t.enc ∧ t.ok
theorem ok_term (T : Txt K mg a d) : FnOk P w K mg base CX0 3 a.law_term d.law_term ["_law_state"] (conc K A_term) := by
  have G_law_next : FnOk P w K mg base CX0 1 a.law_next d.law_next ["_law_state", "_law_limit"] (conc K A_next) := ok_next T
  have G_law_name : FnOk P w K mg base CX0 2 a.law_name d.law_name ["_law_state"] (conc K (A_draw fun d => isName d = true)) := ok_name T
  have G_law_value : FnOk P w K mg base CX0 2 a.law_value d.law_value ["_law_state"] (conc K (A_draw fun d => isVal d = true)) := ok_value T
  refine ab_ok T.F_law_term sc_law_term (fun ss M Q ⟨p, xs, ds, e, e2, _⟩ => by subst e e2; rfl) fun cdv Ar outer s H E hr => ?_
  have hu64 := hr.units
  refine ⟨_, (pss_cons (ps_set (i := 1) sc_law_term.nd rfl (Or.inl rfl) (pe_call G_law_next (hr.mono (by omega)) (by rfl) T.g_law_next T.F_law_next.kp T.b_law_next .nil pass0 (pa_cons (pv 0) (pa_cons pe_int pa_nil))))
  (pss_cons (ps_if (pt_cmpR (r := rEqD K) (op_eqD hu64) (pv 1) pe_int (nomark _)) (pss_one (ps_ret (pe_tup (pa_cons pe_str pa_nil)))) pss_nil)
  (pss_cons (ps_if (pt_cmpR (r := rEqD K) (op_eqD hu64) (pv 1) pe_int (nomark _)) (pss_one (ps_ret (pe_tup (pa_cons pe_str (pa_cons (pe_call G_law_value (hr.mono (by omega)) (by rfl) T.g_law_value T.F_law_value.kp T.b_law_value .nil pass0 (pa_cons (pv 0) pa_nil)) pa_nil))))) pss_nil)
  (pss_one (ps_ret (pe_tup (pa_cons pe_str (pa_cons (pe_call G_law_name (hr.mono (by omega)) (by rfl) T.g_law_name T.F_law_name.kp T.b_law_name .nil pass0 (pa_cons (pv 0) pa_nil)) pa_nil)))))))), ?_⟩
  rintro ss M Q ⟨p, xs, ds, rfl, rfl, hM, hD, q⟩
  obtain ⟨M0, rfl⟩ : ∃ M0, M = um M0 p (.lst xs) := ⟨M, (um_id hM).symm⟩
  simp only [um_um] at q
  walk_at "k"
  show WS K _ [some (.ref p), none] (um M0 p (.lst xs)) _
  walk_at "f"
  refine a_next hD (by decide) (by decide) fun v ys h0 h1 hD1 => ?_
  walk_at "f"
  refine ite_d (fun h => ?_) (fun h => ?_)
  · walk_at "f"
    exact q _ _ ⟨.any, rfl, trivial⟩ hD1
  walk_at "f"
  refine ite_d (fun h => ?_) (fun h => ?_)
  · walk_at "f"
    refine a_gen0 hD1 rfl fun d zs hP hD2 => ?_
    obtain ⟨x, rfl, hx⟩ := isVal_of hP
    walk_at "f"
    exact q _ _ ⟨.value x, rfl, hx⟩ hD2
  walk_at "f"
  refine a_gen0 hD1 rfl fun d zs hP hD2 => ?_
  obtain ⟨x, rfl, hx⟩ := isName_of hP
  walk_at "f"
  exact q _ _ ⟨.variable x, rfl, hx⟩ hD2
abbrev A_terms : ASp := A_draw fun d => ∃ t : List Term, d = encT t ∧ okTs t
theorem ok_terms (T : Txt K mg a d) : FnOk P w K mg base CX0 4 a.law_terms d.law_terms ["_law_state"] (conc K A_terms) := by
  have G_law_next : FnOk P w K mg base CX0 1 a.law_next d.law_next ["_law_state", "_law_limit"] (conc K A_next) := ok_next T
  have G_law_term : FnOk P w K mg base CX0 3 a.law_term d.law_term ["_law_state"] (conc K A_term) := ok_term T
  refine ab_ok T.F_law_terms sc_law_terms (fun ss M Q ⟨p, xs, ds, e, e2, _⟩ => by subst e e2; rfl) fun cdv Ar outer s H E hr => ⟨_, (pss_one (ps_ret (pe_callTy (r := rTupS K) call_tuple_of (by rfl) T.n_tuple (by decide +kernel) (pa_cons (pe_lc (own := [("_law_k", 1)]) rfl sc_law_terms.nd (pi_range1 rfl T.n_range (pa_cons (pe_call G_law_next (hr.mono (by omega)) (by rfl) T.g_law_next T.F_law_next.kp T.b_law_next .nil pass0 (pa_cons (pv 0) (pa_cons pe_int pa_nil))) pa_nil)) (blkOk_by (own := [("_law_k", 1)]) (N := ["_law_state", "_law_k"]) (sc := (defScope s_law_terms)) (by decide +kernel)) (fun _ _ _ _ _ => (pg_name (i := 1) sc_law_terms.nd rfl (Or.inl rfl))) (fun _ _ _ _ _ => pts_nil) (fun _ _ _ _ _ => (pe_call G_law_term (hr.mono (by omega)) (by rfl) T.g_law_term T.F_law_term.kp T.b_law_term .nil pass0 (pa_cons (pv 0) pa_nil)))) pa_nil)))), ?_⟩
  rintro ss M Q ⟨p, xs, ds, rfl, rfl, hM, hD, q⟩
  obtain ⟨M0, rfl⟩ : ∃ M0, M = um M0 p (.lst xs) := ⟨M, (um_id hM).symm⟩
  simp only [um_um] at q
  walk_at "k"
  show WS K _ [some (.ref p), none] (um M0 p (.lst xs)) _
  walk_at "f"
  refine w_lcGen (p := p) (by decide) (fun d => ∃ t : Term, d = t.enc ∧ t.ok) ?_
  walk_at "f"
  refine a_next hD (by decide) (by decide) fun n zs n0 n1 hD4 => ?_
  walk_at "f"
  refine ⟨n, M0, zs, rfl, rfl, hD4, by omega, by omega, fun i M2 us hi hu => ?_, fun ds us hu hl hP => ?_⟩
  · walk_at "f"
    refine a_gen0 hu rfl fun d zs hP hD => ?_
    exact ⟨d, zs, rfl, rfl, hD, hP⟩
  · obtain ⟨ts, rfl, hts⟩ := list_enc hP
    walk_at "f"
    rw [List.length_map] at hl
    exact q _ _ ⟨ts, rfl, by omega, hts⟩ hu
abbrev A_lit : ASp := A_draw fun d => ∃ t : Lit, d = t.enc ∧ t.ok
theorem ok_literal (T : Txt K mg a d) : FnOk P w K mg base CX0 5 a.law_literal d.law_literal ["_law_state"] (conc K A_lit) := by
  have G_law_next : FnOk P w K mg base CX0 1 a.law_next d.law_next ["_law_state", "_law_limit"] (conc K A_next) := ok_next T
  have G_law_name : FnOk P w K mg base CX0 2 a.law_name d.law_name ["_law_state"] (conc K (A_draw fun d => isName d = true)) := ok_name T
  have G_law_term : FnOk P w K mg base CX0 3 a.law_term d.law_term ["_law_state"] (conc K A_term) := ok_term T
  have G_law_terms : FnOk P w K mg base CX0 4 a.law_terms d.law_terms ["_law_state"] (conc K A_terms) := ok_terms T
  refine ab_ok T.F_law_literal sc_law_literal (fun ss M Q ⟨p, xs, ds, e, e2, _⟩ => by subst e e2; rfl) fun cdv Ar outer s H E hr => ?_
  have hu64 := hr.units
  refine ⟨_, (pss_cons (ps_set (i := 1) sc_law_literal.nd rfl (Or.inl rfl) (pe_ix (r := rIxL K) ix_list (pe_lst (pa_cons pe_str (pa_cons pe_str (pa_cons pe_str (pa_cons pe_str (pa_cons pe_str (pa_cons pe_str pa_nil))))))) (pe_call G_law_next (hr.mono (by omega)) (by rfl) T.g_law_next T.F_law_next.kp T.b_law_next .nil pass0 (pa_cons (pv 0) (pa_cons pe_int pa_nil))) (fun _ _ => rfl)))
  (pss_cons (ps_if (pt_cmpR (r := rEqD K) (op_eqD hu64) (pv 1) pe_str (nomark _)) (pss_cons (ps_set (i := 2) sc_law_literal.nd rfl (Or.inl rfl) (pe_ix (r := rIxL K) ix_list (pe_lst (pa_cons pe_str (pa_cons pe_str (pa_cons pe_str (pa_cons pe_str (pa_cons pe_str (pa_cons pe_str pa_nil))))))) (pe_call G_law_next (hr.mono (by omega)) (by rfl) T.g_law_next T.F_law_next.kp T.b_law_next .nil pass0 (pa_cons (pv 0) (pa_cons pe_int pa_nil))) (fun _ _ => rfl)))
  (pss_one (ps_ret (pe_tup (pa_cons (pv 1) (pa_cons (pv 2) (pa_cons (pe_call G_law_term (hr.mono (by omega)) (by rfl) T.g_law_term T.F_law_term.kp T.b_law_term .nil pass0 (pa_cons (pv 0) pa_nil)) (pa_cons (pe_call G_law_term (hr.mono (by omega)) (by rfl) T.g_law_term T.F_law_term.kp T.b_law_term .nil pass0 (pa_cons (pv 0) pa_nil)) pa_nil)))))))) pss_nil)
  (pss_cons (ps_if (pt_cmpR (r := rEqD K) (op_eqD hu64) (pv 1) pe_str (nomark _)) (pss_one (ps_ret (pe_tup (pa_cons (pv 1) (pa_cons (pe_call G_law_name (hr.mono (by omega)) (by rfl) T.g_law_name T.F_law_name.kp T.b_law_name .nil pass0 (pa_cons (pv 0) pa_nil)) (pa_cons (pe_ix (r := rIxL K) ix_list (pe_lst (pa_cons pe_str (pa_cons pe_str (pa_cons pe_str pa_nil)))) (pe_call G_law_next (hr.mono (by omega)) (by rfl) T.g_law_next T.F_law_next.kp T.b_law_next .nil pass0 (pa_cons (pv 0) (pa_cons pe_int pa_nil))) (fun _ _ => rfl)) (pa_cons (pe_call G_law_term (hr.mono (by omega)) (by rfl) T.g_law_term T.F_law_term.kp T.b_law_term .nil pass0 (pa_cons (pv 0) pa_nil)) (pa_cons (pe_call G_law_term (hr.mono (by omega)) (by rfl) T.g_law_term T.F_law_term.kp T.b_law_term .nil pass0 (pa_cons (pv 0) pa_nil)) pa_nil)))))))) pss_nil)
  (pss_cons (ps_if (pt_cmpR (r := rEqD K) (op_eqD hu64) (pv 1) pe_str (nomark _)) (pss_one (ps_ret (pe_tup (pa_cons (pv 1) (pa_cons (pe_call G_law_name (hr.mono (by omega)) (by rfl) T.g_law_name T.F_law_name.kp T.b_law_name .nil pass0 (pa_cons (pv 0) pa_nil)) (pa_cons (pe_call G_law_name (hr.mono (by omega)) (by rfl) T.g_law_name T.F_law_name.kp T.b_law_name .nil pass0 (pa_cons (pv 0) pa_nil)) (pa_cons (pe_call G_law_terms (hr.mono (by omega)) (by rfl) T.g_law_terms T.F_law_terms.kp T.b_law_terms .nil pass0 (pa_cons (pv 0) pa_nil)) pa_nil))))))) pss_nil)
  (pss_one (ps_ret (pe_tup (pa_cons (pv 1) (pa_cons (pe_call G_law_name (hr.mono (by omega)) (by rfl) T.g_law_name T.F_law_name.kp T.b_law_name .nil pass0 (pa_cons (pv 0) pa_nil)) (pa_cons (pe_call G_law_terms (hr.mono (by omega)) (by rfl) T.g_law_terms T.F_law_terms.kp T.b_law_terms .nil pass0 (pa_cons (pv 0) pa_nil)) pa_nil)))))))))), ?_⟩
  rintro ss M Q ⟨p, xs, ds, rfl, rfl, hM, hD, q⟩
  obtain ⟨M0, rfl⟩ : ∃ M0, M = um M0 p (.lst xs) := ⟨M, (um_id hM).symm⟩
  simp only [um_um] at q
  walk_at "k"
  show WS K _ [some (.ref p), none, none] (um M0 p (.lst xs)) _
  walk_at "f"
  refine a_next hD (by decide) (by decide) fun v ys h0 h1 hD1 => ?_
  walk_at "f"
  intro f hf
  have hf' : f = .str "fact" ∨ f = .str "not" ∨ f = .str "compare" ∨ f = .str "is" ∨ f = .str "count" := by
    simp only [List.mem_cons, List.not_mem_nil, or_false] at hf
    rcases hf with h | h | h | h | h | h <;> simp [h]
  rcases hf' with rfl | rfl | rfl | rfl | rfl
  · walk_at "f"
    refine a_gen0 hD1 rfl fun d zs hP hD2 => ?_
    obtain ⟨x, rfl, hx⟩ := isName_of hP
    walk_at "f"
    refine a_gen0 hD2 rfl fun d zs hP hD3 => ?_
    obtain ⟨ts, rfl, hts⟩ := hP
    walk_at "f"
    exact q _ _ ⟨.fact x ts, rfl, hx, hts⟩ hD3
  · walk_at "f"
    refine a_gen0 hD1 rfl fun d zs hP hD2 => ?_
    obtain ⟨x, rfl, hx⟩ := isName_of hP
    walk_at "f"
    refine a_gen0 hD2 rfl fun d zs hP hD3 => ?_
    obtain ⟨ts, rfl, hts⟩ := hP
    walk_at "f"
    exact q _ _ ⟨.neg x ts, rfl, hx, hts⟩ hD3
  · walk_at "f"
    refine a_next hD1 (by decide) (by decide) fun v ys h0 h1 hD2 => ?_
    walk_at "f"
    intro o ho
    obtain ⟨op, rfl, hop⟩ : ∃ op : Str, o = .str op ∧ op ∈ opsC := by
      simp only [List.mem_cons, List.not_mem_nil, or_false] at ho
      rcases ho with h | h | h | h | h | h <;> exact ⟨_, h, by simp [opsC]⟩
    walk_at "f"
    refine a_gen0 hD2 rfl fun d zs hP hD3 => ?_
    obtain ⟨x, rfl, hx⟩ := hP
    walk_at "f"
    refine a_gen0 hD3 rfl fun d zs hP hD4 => ?_
    obtain ⟨y, rfl, hy⟩ := hP
    walk_at "f"
    exact q _ _ ⟨.compare op x y, rfl, hop, hx, hy⟩ hD4
  · walk_at "f"
    refine a_gen0 hD1 rfl fun d zs hP hD2 => ?_
    obtain ⟨n, rfl, hn⟩ := isName_of hP
    walk_at "f"
    refine a_next hD2 (by decide) (by decide) fun v ys h0 h1 hD2 => ?_
    walk_at "f"
    intro o ho
    obtain ⟨op, rfl, hop⟩ : ∃ op : Str, o = .str op ∧ op ∈ opsI := by
      simp only [List.mem_cons, List.not_mem_nil, or_false] at ho
      rcases ho with h | h | h <;> exact ⟨_, h, by simp [opsI]⟩
    walk_at "f"
    refine a_gen0 hD2 rfl fun d zs hP hD3 => ?_
    obtain ⟨x, rfl, hx⟩ := hP
    walk_at "f"
    refine a_gen0 hD3 rfl fun d zs hP hD4 => ?_
    obtain ⟨y, rfl, hy⟩ := hP
    walk_at "f"
    exact q _ _ ⟨.is n op x y, rfl, hn, hop, hx, hy⟩ hD4
  · walk_at "f"
    refine a_gen0 hD1 rfl fun d zs hP hD2 => ?_
    obtain ⟨x, rfl, hx⟩ := isName_of hP
    walk_at "f"
    refine a_gen0 hD2 rfl fun d zs hP hD2 => ?_
    obtain ⟨y, rfl, hy⟩ := isName_of hP
    walk_at "f"
    refine a_gen0 hD2 rfl fun d zs hP hD3 => ?_
    obtain ⟨ts, rfl, hts⟩ := hP
    walk_at "f"
    exact q _ _ ⟨.count x y ts, rfl, hx, hy, hts⟩ hD3
abbrev A_body : ASp := A_draw fun d => ∃ t : List Lit, d = encB t ∧ okB t
theorem ok_body (T : Txt K mg a d) : FnOk P w K mg base CX0 6 a.law_body d.law_body ["_law_state"] (conc K A_body) := by
  have G_law_next : FnOk P w K mg base CX0 1 a.law_next d.law_next ["_law_state", "_law_limit"] (conc K A_next) := ok_next T
  have G_law_literal : FnOk P w K mg base CX0 5 a.law_literal d.law_literal ["_law_state"] (conc K A_lit) := ok_literal T
  refine ab_ok T.F_law_body sc_law_body (fun ss M Q ⟨p, xs, ds, e, e2, _⟩ => by subst e e2; rfl) fun cdv Ar outer s H E hr => ⟨_, (pss_one (ps_ret (pe_callTy (r := rTupS K) call_tuple_of (by rfl) T.n_tuple (by decide +kernel) (pa_cons (pe_lc (own := [("_law_k", 1)]) rfl sc_law_body.nd (pi_range1 rfl T.n_range (pa_cons (pe_call G_law_next (hr.mono (by omega)) (by rfl) T.g_law_next T.F_law_next.kp T.b_law_next .nil pass0 (pa_cons (pv 0) (pa_cons pe_int pa_nil))) pa_nil)) (blkOk_by (own := [("_law_k", 1)]) (N := ["_law_state", "_law_k"]) (sc := (defScope s_law_body)) (by decide +kernel)) (fun _ _ _ _ _ => (pg_name (i := 1) sc_law_body.nd rfl (Or.inl rfl))) (fun _ _ _ _ _ => pts_nil) (fun _ _ _ _ _ => (pe_call G_law_literal (hr.mono (by omega)) (by rfl) T.g_law_literal T.F_law_literal.kp T.b_law_literal .nil pass0 (pa_cons (pv 0) pa_nil)))) pa_nil)))), ?_⟩
  rintro ss M Q ⟨p, xs, ds, rfl, rfl, hM, hD, q⟩
  obtain ⟨M0, rfl⟩ : ∃ M0, M = um M0 p (.lst xs) := ⟨M, (um_id hM).symm⟩
  simp only [um_um] at q
  walk_at "k"
  show WS K _ [some (.ref p), none] (um M0 p (.lst xs)) _
  walk_at "f"
  refine w_lcGen (p := p) (by decide) (fun d => ∃ t : Lit, d = t.enc ∧ t.ok) ?_
  walk_at "f"
  refine a_next hD (by decide) (by decide) fun n zs n0 n1 hD4 => ?_
  walk_at "f"
  refine ⟨n, M0, zs, rfl, rfl, hD4, by omega, by omega, fun i M2 us hi hu => ?_, fun ds us hu hl hP => ?_⟩
  · walk_at "f"
    refine a_gen0 hu rfl fun d zs hP hD => ?_
    exact ⟨d, zs, rfl, rfl, hD, hP⟩
  · obtain ⟨ts, rfl, hts⟩ := list_enc hP
    walk_at "f"
    rw [List.length_map] at hl
    exact q _ _ ⟨ts, rfl, by omega, hts⟩ hu
abbrev A_item : ASp := A_draw fun d => ∃ t : Item, d = t.enc ∧ t.ok
theorem ok_item (T : Txt K mg a d) : FnOk P w K mg base CX0 7 a.law_item d.law_item ["_law_state"] (conc K A_item) := by
  have G_law_next : FnOk P w K mg base CX0 1 a.law_next d.law_next ["_law_state", "_law_limit"] (conc K A_next) := ok_next T
  have G_law_name : FnOk P w K mg base CX0 2 a.law_name d.law_name ["_law_state"] (conc K (A_draw fun d => isName d = true)) := ok_name T
  have G_law_row : FnOk P w K mg base CX0 3 a.law_row d.law_row ["_law_state", "_law_width"] (conc K A_row) := ok_row T
  have G_law_terms : FnOk P w K mg base CX0 4 a.law_terms d.law_terms ["_law_state"] (conc K A_terms) := ok_terms T
  have G_law_body : FnOk P w K mg base CX0 6 a.law_body d.law_body ["_law_state"] (conc K A_body) := ok_body T
  refine ab_ok T.F_law_item sc_law_item (fun ss M Q ⟨p, xs, ds, e, e2, _⟩ => by subst e e2; rfl) fun cdv Ar outer s H E hr => ?_
  have hu64 := hr.units
  refine ⟨_, (pss_cons (ps_set (i := 1) sc_law_item.nd rfl (Or.inl rfl) (pe_call G_law_next (hr.mono (by omega)) (by rfl) T.g_law_next T.F_law_next.kp T.b_law_next .nil pass0 (pa_cons (pv 0) (pa_cons pe_int pa_nil))))
  (pss_cons (ps_set (i := 2) sc_law_item.nd rfl (Or.inl rfl) (pe_call G_law_name (hr.mono (by omega)) (by rfl) T.g_law_name T.F_law_name.kp T.b_law_name .nil pass0 (pa_cons (pv 0) pa_nil)))
  (pss_cons (ps_if (pt_cmpR op_lt (pv 1) pe_int (nomark _)) (pss_one (ps_ret (pe_tup (pa_cons pe_str (pa_cons (pv 2) (pa_cons (pe_op op_add pe_int (pe_call G_law_next (hr.mono (by omega)) (by rfl) T.g_law_next T.F_law_next.kp T.b_law_next .nil pass0 (pa_cons (pv 0) (pa_cons pe_int pa_nil)))) pa_nil)))))) pss_nil)
  (pss_cons (ps_if (pt_cmpR op_lt (pv 1) pe_int (nomark _)) (pss_one (ps_ret (pe_tup (pa_cons pe_str (pa_cons (pv 2) (pa_cons (pe_call G_law_row (hr.mono (by omega)) (by rfl) T.g_law_row T.F_law_row.kp T.b_law_row .nil pass0 (pa_cons (pv 0) (pa_cons (pe_op op_add pe_int (pe_call G_law_next (hr.mono (by omega)) (by rfl) T.g_law_next T.F_law_next.kp T.b_law_next .nil pass0 (pa_cons (pv 0) (pa_cons pe_int pa_nil)))) pa_nil))) pa_nil)))))) pss_nil)
  (pss_cons (ps_if (pt_cmpR op_lt (pv 1) pe_int (nomark _)) (pss_one (ps_ret (pe_tup (pa_cons pe_str (pa_cons (pv 2) (pa_cons (pe_call G_law_name (hr.mono (by omega)) (by rfl) T.g_law_name T.F_law_name.kp T.b_law_name .nil pass0 (pa_cons (pv 0) pa_nil)) (pa_cons (pe_call G_law_terms (hr.mono (by omega)) (by rfl) T.g_law_terms T.F_law_terms.kp T.b_law_terms .nil pass0 (pa_cons (pv 0) pa_nil)) (pa_cons (pe_call G_law_body (hr.mono (by omega)) (by rfl) T.g_law_body T.F_law_body.kp T.b_law_body .nil pass0 (pa_cons (pv 0) pa_nil)) pa_nil)))))))) pss_nil)
  (pss_one (ps_ret (pe_tup (pa_cons pe_str (pa_cons (pv 2) (pa_cons (pe_call G_law_body (hr.mono (by omega)) (by rfl) T.g_law_body T.F_law_body.kp T.b_law_body .nil pass0 (pa_cons (pv 0) pa_nil)) pa_nil))))))))))), ?_⟩
  rintro ss M Q ⟨p, xs, ds, rfl, rfl, hM, hD, q⟩
  obtain ⟨M0, rfl⟩ : ∃ M0, M = um M0 p (.lst xs) := ⟨M, (um_id hM).symm⟩
  simp only [um_um] at q
  walk_at "k"
  show WS K _ [some (.ref p), none, none] (um M0 p (.lst xs)) _
  walk_at "f"
  refine a_next hD (by decide) (by decide) fun v ys h0 h1 hD1 => ?_
  walk_at "f"
  refine a_gen0 hD1 rfl fun d zs hP hD2 => ?_
  obtain ⟨n, rfl, hn⟩ := isName_of hP
  walk_at "f"
  refine ite_d (fun h => ?_) (fun h => ?_)
  · walk_at "f"
    refine a_next hD2 (by decide) (by decide) fun x ys x0 x1 hD3 => ?_
    walk_at "f"
    exact q _ _ ⟨.relation n (1 + x), rfl, hn, by omega, by omega⟩ hD3
  walk_at "f"
  refine ite_d (fun h => ?_) (fun h => ?_)
  · walk_at "f"
    refine a_next hD2 (by decide) (by decide) fun x ys x0 x1 hD3 => ?_
    walk_at "f"
    refine a_gen1 hD3 ⟨_, rfl, by omega, by omega⟩ fun d zs hP hD4 => ?_
    obtain ⟨row, rfl, hrow, _⟩ := hP
    walk_at "f"
    exact q _ _ ⟨.fact n row, rfl, hn, hrow⟩ hD4
  walk_at "f"
  refine ite_d (fun h => ?_) (fun h => ?_)
  · walk_at "f"
    refine a_gen0 hD2 rfl fun d zs hP hD3 => ?_
    obtain ⟨r, rfl, hr'⟩ := isName_of hP
    walk_at "f"
    refine a_gen0 hD3 rfl fun d zs hP hD4 => ?_
    obtain ⟨ts, rfl, hts⟩ := hP
    walk_at "f"
    refine a_gen0 hD4 rfl fun d zs hP hD5 => ?_
    obtain ⟨b, rfl, hb⟩ := hP
    walk_at "f"
    exact q _ _ ⟨.rule n r ts b, rfl, hn, hr', hts, hb⟩ hD5
  walk_at "f"
  refine a_gen0 hD2 rfl fun d zs hP hD5 => ?_
  obtain ⟨b, rfl, hb⟩ := hP
  walk_at "f"
  exact q _ _ ⟨.denial n b, rfl, hn, hb⟩ hD5
end
end K01


set_option Elab.async false
set_option linter.all false
set_option maxRecDepth 100000
set_option  maxHeartbeats 4000000
namespace K01
open PySem PyProof.Rows L2 Ab
local macro_rules | `(tactic| walk_at "len") => `(tactic| first | decide | omega | (simp only [List.length_append, List.length_map, List.length_replicate, List.length_cons, List.length_nil, List.length_take, List.length_drop, List.length_reverse, List.length_range]; omega))
local macro_rules | `(tactic| walk_at "str") => `(tactic| first | decide +kernel | exact goodS_ok (by assumption) | assumption)
local macro_rules | `(tactic| walk_at "1") => `(tactic| (first
  | (with_reducible refine ws_set ?_)
  | (with_reducible refine ws_ret ?_)
  | (with_reducible refine ws_if ?_)
  | (with_reducible refine ws_drop ?_)
  | (with_reducible refine w_op ?_)
  | (with_reducible refine w_un ?_)
  | (with_reducible refine w_int ?_)
  | (with_reducible refine w_bl ?_)
  | (with_reducible refine w_non ?_)
  | (with_reducible refine w_str ?_)
  | (with_reducible refine w_cb ?_)
  | (with_reducible refine w_call ?_)
  | (with_reducible refine w_sl ?_)
  | (with_reducible refine w_tupD ?_)
  | (with_reducible refine w_chain ?_)
  | (with_reducible refine w_andV ?_)
  | (with_reducible refine w_orV ?_)
  | (with_reducible refine w_notV ?_)
  | (with_reducible refine wo_none ?_)
  | (with_reducible refine wo_some ?_)
  | (with_reducible refine wa_cons ?_)
  | (with_reducible refine wa_nil ?_)
  | (with_reducible refine wt_test ?_)
  | (with_reducible refine wt_B ?_)
  | (with_reducible refine wt_and ?_)
  | (with_reducible refine wt_or ?_)
  | (with_reducible refine wt_not ?_)
  | (with_reducible refine wt_yes ?_)
  | (with_reducible refine w2_i0 ?_)
  | (with_reducible refine w2_b0 ?_)
  | (with_reducible refine w1_neg ?_)
  | ((with_reducible refine w2_i ?hc ?_); (case hc => first | decide | exact ⟨by decide, by decide⟩ | exact Or.inl ⟨by decide, by decide⟩ | exact Or.inr ⟨by decide, by decide⟩ | exact ⟨by decide, by decide, by decide⟩ | omega); skip)
  | ((with_reducible refine' w_var ?hv ?_); (case hv => exact rfl); skip)
  | ((with_reducible show W2 _ (rEqD _) (Sl.dat (PyData.int _)) (Sl.dat (PyData.int _)) _ _); (refine w2_eqI ?_))
  | ((with_reducible show W2 _ (rNeD _) (Sl.dat (PyData.int _)) (Sl.dat (PyData.int _)) _ _); (refine w2_neI ?_))
  | ((with_reducible show W2 _ (rEqD _) (Sl.dat (PyData.str _)) (Sl.dat (PyData.str _)) _ _); (refine' w2_eqS ?h1 ?h2 ?_); (case h1 => walk_at "str"); (case h2 => walk_at "str"); skip)
  | ((with_reducible show W2 _ (rNeD _) (Sl.dat (PyData.str _)) (Sl.dat (PyData.str _)) _ _); (refine' w2_neS ?h1 ?h2 ?_); (case h1 => walk_at "str"); (case h2 => walk_at "str"); skip)
  | ((with_reducible show W2 _ (rEqD _) _ _ _ _); (refine w2_eq ?ha ?hb ?_); (case ha => first | exact shaped_int _ | exact shaped_bool _); (case hb => first | exact shaped_int _ | exact shaped_bool _); skip)
  | ((with_reducible show W2 _ (rNeD _) _ _ _ _); (refine w2_ne ?ha ?hb ?_); (case ha => first | exact shaped_int _ | exact shaped_bool _); (case hb => first | exact shaped_int _ | exact shaped_bool _); skip)
  | ((with_reducible show W2 _ _ _ _ _ _); (refine w2_isN ?_))
  | ((with_reducible show W2 _ _ _ _ _ _); (refine w2_notN ?_))
  | (with_reducible refine wl_lenE ?_)
  | (with_reducible refine wl_lenD ?_)
  | (with_reducible refine wl_lenTD ?_)
  | (with_reducible refine wl_listE ?_)
  | (with_reducible refine wsl_E ?_)
  | ((with_reducible refine' w2_catE ?hl ?_); (try (case hl => walk_at "len")); skip)
  | ((with_reducible refine' w2_rep1 ?h1 ?h2 ?_); (try (case h1 => first | decide | omega)); (try (case h2 => first | decide | omega)); skip)
  | ((with_reducible show WL _ _ [_] _ _); (refine' wl_len ?hl ?_); (case hl => first | exact lsv_dat | exact lsv_ref um_same | exact lsv_ref (by assumption)); skip)
  | ((with_reducible show WL _ _ [_] _ _); (refine' wl_list ?hl ?_); (case hl => first | exact .inl lsv_dat | exact .inl (lsv_ref (by assumption))); skip)
  | ((with_reducible show WSl _ (rSlL _) _ _ _ _ _); (refine' wsl_lst ?hl ?_); (case hl => first | exact lsv_dat | exact lsv_ref um_same | exact lsv_ref (by assumption)); skip)
  | ((with_reducible show WL _ _ [_] _ _); (refine wl_int ?_))
  | ((with_reducible show WL _ _ [_] _ _); (refine wl_intb ?_))
  | ((with_reducible show WL _ _ [_, _] _ _); (refine wl_min ?_))
  | ((with_reducible first | show W2 _ (rIxL _) (Sl.dat (PyData.list (List.cons _ _))) (Sl.dat (PyData.int _)) _ _ | show W2 _ (rIxL _) (Sl.dat (PyData.list (List.map PyData.int (List.cons _ _)))) (Sl.dat (PyData.int _)) _ _); (refine' w2_ixAny ?h0 ?h1 ?_); (case h0 => omega); (case h1 => first | omega | (simp only [List.length_cons, List.length_nil, List.length_map]; omega)); skip)
  | ((with_reducible show W2 _ (rIxL _) _ _ _ _); (refine' w2_ixL ?hs ?hx ?_); (case hs => first | exact lsv_dat | exact lsv_ref um_same | exact lsv_ref (by assumption)); (try (case hx => exact rfl)); skip)
  | ((with_reducible show W2 _ (rIxT _) _ _ _ _); (refine' w2_ixT ?hx ?_); (case hx => exact rfl); skip)
  | ((with_reducible show WL _ (rIsi _) [_, _] _ _); (refine' wl_isi ?hb ?_); (case hb => first | exact isi_bool _ | exact isi_int _ | exact isi_str _ | exact isi_tuple _ | exact isi_list _); skip)
  | ((with_reducible show W _ (tC (V.ty _)) _ _ _); (refine w_raw ?_))
  | ((with_reducible show W _ (tC (V.ref _)) _ _ _); (refine w_raw ?_))
  | ((with_reducible show WSl _ (rSlA _) _ _ _ _ _); (refine wsl_tup ?_))
  | ((with_reducible show WL _ (rTupS _) [Sl.dat (PyData.list _)] _ _); (refine wl_tuple lsv_dat ?_))
  | ((with_reducible show W2 _ (rCatA _) _ _ _ _); (refine' w2_catT ?hl ?_); (try (case hl => walk_at "len")); skip)
  | ((with_reducible show WL _ _ [_] _ _); (refine' wl_lenT ?hl ?_); (case hl => exact tpv_dat); skip)
  | (with_reducible refine ws_next ?_)
  | (with_reducible refine ite_t rfl ?_)
  | (with_reducible refine ite_f rfl ?_)
  | ((with_reducible refine' ite_t ?hb ?_); (case hb => decide +kernel); skip)
  | ((with_reducible refine' ite_f ?hb ?_); (case hb => decide +kernel); skip)
  | ((with_reducible show ∃ b : Bool, _ = Sl.bl b ∧ _); (with_reducible refine ⟨_, rfl, ?_⟩))
  | ((with_reducible show ∃ i : Int, _ = Sl.int i ∧ _); (with_reducible refine ⟨_, rfl, ?_⟩))
  | ((with_reducible show List.length _ ≤ 100000 ∧ _); (refine ⟨(by simp), ?_⟩))
  | ((with_reducible show ∃ ds : List PyData, datsOf _ = some ds ∧ _); (refine ⟨_, rfl, ?_⟩))))
local macro_rules | `(tactic| walk_at "e") => `(tactic| repeat (first | (with_reducible refine ws_seq ?_) | (walk_at "1")))
local macro_rules | `(tactic| walk_at "g") => `(tactic| repeat (first | (walk_at "1") | ((with_reducible refine w_lstI (wa_cons ?_)); (repeat (walk_at "1")); (with_reducible show ∃ ns : List Int, itemsI _ = some ns ∧ _); (refine ⟨_, rfl, ?_⟩)) | (with_reducible refine w_lstD ?_)))
local macro_rules | `(tactic| walk_at "f") => `(tactic| repeat (first | (with_reducible refine ws_seq ?_) | (walk_at "1") | ((with_reducible refine w_lstI (wa_cons ?_)); (repeat (walk_at "1")); (with_reducible show ∃ ns : List Int, itemsI _ = some ns ∧ _); (refine ⟨_, rfl, ?_⟩)) | (with_reducible refine w_lstD ?_)))
local macro_rules | `(tactic| walk_at "k") => `(tactic| first | dsimp only [cxOf, Cx.nox, Cx.wish] | skip)

/-! the orders, as Python compares the keys -/
theorem ok_vkey : ∀ v w : Val, cmpOk (vkey v) (vkey w) = true
  | .int _, .int _ => by simp [vkey, cmpOk, cmpOks, tagV, eqv_int, Val.enc]
  | .int _, .str _ => by simp [vkey, cmpOk, cmpOks, tagV, eqv_int, Val.enc]
  | .str _, .int _ => by simp [vkey, cmpOk, cmpOks, tagV, eqv_int, Val.enc]
  | .str _, .str _ => by simp [vkey, cmpOk, cmpOks, tagV, eqv_int, Val.enc]
theorem lt_vkey : ∀ v w : Val, cmpV .Lt (vkey v) (vkey w) = vLt v w
  | .int a, .int b => by
    simp only [vkey, cmpV, cmpVs, tagV, eqv_int, Val.enc, cmpI, cmpN, vLt, List.length_cons, List.length_nil]
    by_cases h : a = b <;> simp [h]
  | .int _, .str _ => by simp [vkey, cmpV, cmpVs, tagV, eqv_int, Val.enc, cmpI, vLt]
  | .str _, .int _ => by simp [vkey, cmpV, cmpVs, tagV, eqv_int, Val.enc, cmpI, vLt]
  | .str x, .str y => by
    simp only [vkey, cmpV, cmpVs, tagV, eqv_int, eqv_str, Val.enc, cmpI, cmpS, cmpN, vLt, List.length_cons, List.length_nil]
    by_cases h : x = y
    · subst h; simp
    · simp [h]
theorem gt_vkey : ∀ v w : Val, cmpV .Gt (vkey v) (vkey w) = vLt w v
  | .int a, .int b => by
    simp only [vkey, cmpV, cmpVs, tagV, eqv_int, Val.enc, cmpI, cmpN, vLt, List.length_cons, List.length_nil]
    by_cases h : a = b <;> simp [h]
  | .int _, .str _ => by simp [vkey, cmpV, cmpVs, tagV, eqv_int, Val.enc, cmpI, vLt]
  | .str _, .int _ => by simp [vkey, cmpV, cmpVs, tagV, eqv_int, Val.enc, cmpI, vLt]
  | .str x, .str y => by
    simp only [vkey, cmpV, cmpVs, tagV, eqv_int, eqv_str, Val.enc, cmpI, cmpS, cmpN, vLt, List.length_cons, List.length_nil]
    by_cases h : x = y
    · subst h; simp
    · simp [h]
theorem ok_rkey (a b : List Val) : cmpOk (rkey a) (rkey b) = true := by
  show cmpOks _ _ = true
  exact cmpOks_map ok_vkey a b
theorem lt_rkey (a b : List Val) : cmpV .Lt (rkey a) (rkey b) = rLt a b := by
  have := cmpVs_lt eqv_vkey lt_vkey a b
  unfold rkey
  rw [cmpV]
  simpa [cmpN] using this
theorem gt_rkey (a b : List Val) : cmpV .Gt (rkey a) (rkey b) = rLt b a := by
  have := cmpVs_gt eqv_vkey gt_vkey a b
  unfold rkey
  rw [cmpV]
  simpa [cmpN] using this
/-- the order of keys -/
def hdLt (k l : Key) : Bool := if k.s = l.s then decide (k.n.cps.toList < l.n.cps.toList) else decide (k.s < l.s)
def ordK (k l : Key) : Int := if k.s = l.s ∧ k.n = l.n then ordR k.row l.row else if hdLt k l then -1 else 1
theorem ok_kord (k l : Key) : cmpOk k.ord l.ord = true := by
  show cmpOks _ _ = true
  simp only [cmpOks, eqv_int, eqv_str, eqv_rkey, ok_rkey]
  simp [cmpOk]
theorem strLt_tri {x y : Str} (h : x ≠ y) : decide (y.cps.toList < x.cps.toList) = !decide (x.cps.toList < y.cps.toList) := vLt_tri (v := .str x) (w := .str y) fun e => h (Val.str.inj e)
theorem lt_kord (k l : Key) : cmpV .Lt k.ord l.ord = decide (ordK k l < 0) := by
  unfold Key.ord ordK hdLt
  simp only [cmpV, cmpVs, eqv_int, eqv_str, eqv_rkey, lt_rkey, cmpI, cmpS, cmpN, List.length_cons, List.length_nil]
  by_cases h1 : k.s = l.s
  · by_cases h2 : k.n = l.n
    · by_cases h3 : k.row = l.row
      · simp [h1, h2, h3, ordR]
      · simp only [h1, h2, h3, decide_true, decide_false, if_true, and_self, Bool.false_eq_true, if_false]
        exact ordR_lt _ _
    · simp only [h1, h2, decide_true, decide_false, if_true, and_false, if_false, Bool.false_eq_true]
      cases decide (k.n.cps.toList < l.n.cps.toList) <;> rfl
  · simp only [h1, decide_false, false_and, if_false, Bool.false_eq_true]
    cases decide (k.s < l.s) <;> rfl
theorem gt_kord (k l : Key) : cmpV .Gt k.ord l.ord = decide (0 < ordK k l) := by
  unfold Key.ord ordK hdLt
  simp only [cmpV, cmpVs, eqv_int, eqv_str, eqv_rkey, gt_rkey, cmpI, cmpS, cmpN, List.length_cons, List.length_nil]
  by_cases h1 : k.s = l.s
  · by_cases h2 : k.n = l.n
    · by_cases h3 : k.row = l.row
      · simp [h1, h2, h3, ordR]
      · simp only [h1, h2, h3, decide_true, decide_false, if_true, and_self, Bool.false_eq_true, if_false]
        exact ordR_gt _ _
    · simp only [h1, h2, decide_true, decide_false, if_true, and_false, if_false, Bool.false_eq_true]
      rw [strLt_tri h2]
      cases decide (k.n.cps.toList < l.n.cps.toList) <;> rfl
  · simp only [h1, decide_false, false_and, if_false, Bool.false_eq_true]
    have : decide (l.s < k.s) = !decide (k.s < l.s) := by
      rw [← decide_not]
      exact decide_eq_decide.mpr (by omega)
    rw [this]
    cases decide (k.s < l.s) <;> rfl
theorem eq_kord (k l : Key) : PyData.eqv k.ord l.ord = decide (ordK k l = 0) := by
  unfold Key.ord ordK
  simp only [PyData.eqv, PyData.eqvAll]
  have e1 := eqv_int k.s l.s
  have e2 := eqv_str k.n l.n
  simp only [PyData.eqv] at e1 e2
  rw [e1, e2, eqv_rkey, Bool.and_true]
  by_cases h1 : k.s = l.s
  · by_cases h2 : k.n = l.n
    · simp only [h1, h2, decide_true, and_self, if_true, Bool.true_and]
      exact ordR_eq _ _
    · simp only [h1, h2, decide_true, decide_false, and_false, if_false, Bool.true_and, Bool.false_and]
      cases hdLt k l <;> rfl
  · simp only [h1, decide_false, false_and, if_false, Bool.false_and]
    cases hdLt k l <;> rfl
theorem kord_ok {k : Key} (h : k.ok) : okD 3 k.ord = true := okD_mkT (by simp) (okAll_cons okD_int (okAll_cons (okD_good h.1) (okAll_cons (rkey_ok h.2) rfl)))
theorem kenc_ok {k : Key} (h : k.ok) : okD 3 k.enc = true := okD_mkT (by simp) (okAll_cons okD_int (okAll_cons (okD_good h.1) (okAll_cons (okR_okD h.2) rfl)))
section
variable {P : Program} {w : World} {K : PySem.W.Frag} {mg : Str → Option Value} {base : Heap} {a : AD} {d : FD}
def A_before : ASp := fun ss M Q => ∃ v w : Val, ss = [.dat v.enc, .dat w.enc] ∧ v.ok ∧ w.ok ∧ Q (.bl (vLt v w)) M
theorem ok_before (T : Txt K mg a d) : FnOk P w K mg base CX0 1 a.law_before d.law_before ["_law_first", "_law_second"] (conc K A_before) := by
  refine ab_ok T.F_law_before sc_law_before (fun ss M Q ⟨_, _, e, _⟩ => by subst e; rfl) fun cdv Ar outer s H E hr => ?_
  have hu64 := hr.units
  refine ⟨_, (pss_cons (ps_if (pt_cmpR (r := rNeD K) (op_neD hu64) (pe_callB (r := rIsi K) call_isi (by rfl) T.n_isinstance (by decide +kernel) (pa_cons (pv 0) (pa_cons (pe_bltn (v := .ty "str") (u := .type "str") (by rfl) T.n_str (by decide +kernel) rfl) pa_nil))) (pe_callB (r := rIsi K) call_isi (by rfl) T.n_isinstance (by decide +kernel) (pa_cons (pv 1) (pa_cons (pe_bltn (v := .ty "str") (u := .type "str") (by rfl) T.n_str (by decide +kernel) rfl) pa_nil))) (nomark _)) (pss_one (ps_ret (pe_callB (r := rIsi K) call_isi (by rfl) T.n_isinstance (by decide +kernel) (pa_cons (pv 1) (pa_cons (pe_bltn (v := .ty "str") (u := .type "str") (by rfl) T.n_str (by decide +kernel) rfl) pa_nil))))) pss_nil)
  (pss_one (ps_ret (pe_cmpR (r := rCmp .Lt K) (op_ltD hu64) (pv 0) (pv 1) (nomark _))))), ?_⟩
  rintro ss M Q ⟨v, w, rfl, hv, hw, q⟩
  walk_at "k"
  show WS K _ [some (.dat v.enc), some (.dat w.enc)] M _
  cases v with
  | int x =>
    cases w with
    | int y =>
      walk_at "e"
      refine w2_cmp rfl (shaped_int x) (shaped_int y) ?_
      exact q
    | str y =>
      walk_at "e"
      exact q
  | str x =>
    cases w with
    | int y =>
      walk_at "e"
      exact q
    | str y =>
      walk_at "e"
      refine w2_cmp rfl (shaped_str (goodS_ok hv)) (shaped_str (goodS_ok hw)) ?_
      exact q
def A_order : ASp := fun ss M Q => ∃ x y : List Val, ss = [.dat (encR x), .dat (encR y)] ∧ okR x ∧ okR y ∧ Q (.int (ordR x y)) M
theorem ok_order (T : Txt K mg a d) : FnOk P w K mg base CX0 2 a.law_order d.law_order ["_law_first", "_law_second"] (conc K A_order) := by
  have G_law_before : FnOk P w K mg base CX0 1 a.law_before d.law_before ["_law_first", "_law_second"] (conc K A_before) := ok_before T
  refine ab_ok T.F_law_order sc_law_order (fun ss M Q ⟨_, _, e, _⟩ => by subst e; rfl) fun cdv Ar outer s H E hr => ?_
  have hu64 := hr.units
  refine ⟨_, (pss_cons (ps_for PassesOwn.never rfl (pi_range1 rfl T.n_range (pa_cons (pe_callB (call_min2 rfl) (by rfl) T.n_min (by decide +kernel) (pa_cons (pe_callB (r := rLenS K) call_len_seq (by rfl) T.n_len PySem.boot_len (pa_cons (pv 0) pa_nil)) (pa_cons (pe_callB (r := rLenS K) call_len_seq (by rfl) T.n_len PySem.boot_len (pa_cons (pv 1) pa_nil)) pa_nil))) pa_nil)) (pg_name (i := 2) sc_law_order.nd rfl (Or.inl rfl)) (pss_cons (ps_if (pt_val (pe_call G_law_before (hr.mono (by omega)) (by rfl) T.g_law_before T.F_law_before.kp T.b_law_before .nil pass0 (pa_cons (pe_ix (r := rIxT K) ix_tup (pv 0) (pv 2) (fun _ _ => rfl)) (pa_cons (pe_ix (r := rIxT K) ix_tup (pv 1) (pv 2) (fun _ _ => rfl)) pa_nil)))) (pss_one (ps_ret (pe_un un_neg pe_int))) pss_nil)
  (pss_one (ps_if (pt_val (pe_call G_law_before (hr.mono (by omega)) (by rfl) T.g_law_before T.F_law_before.kp T.b_law_before .nil pass0 (pa_cons (pe_ix (r := rIxT K) ix_tup (pv 1) (pv 2) (fun _ _ => rfl)) (pa_cons (pe_ix (r := rIxT K) ix_tup (pv 0) (pv 2) (fun _ _ => rfl)) pa_nil)))) (pss_one (ps_ret pe_int)) pss_nil))))
  (pss_one (ps_ret (pe_op op_sub (pe_callTy (r := rInt1) call_int1 (by rfl) T.n_int (by decide +kernel) (pa_cons (pe_cmpR op_gt (pe_callB (r := rLenS K) call_len_seq (by rfl) T.n_len PySem.boot_len (pa_cons (pv 0) pa_nil)) (pe_callB (r := rLenS K) call_len_seq (by rfl) T.n_len PySem.boot_len (pa_cons (pv 1) pa_nil)) (nomark _)) pa_nil)) (pe_callTy (r := rInt1) call_int1 (by rfl) T.n_int (by decide +kernel) (pa_cons (pe_cmpR op_lt (pe_callB (r := rLenS K) call_len_seq (by rfl) T.n_len PySem.boot_len (pa_cons (pv 0) pa_nil)) (pe_callB (r := rLenS K) call_len_seq (by rfl) T.n_len PySem.boot_len (pa_cons (pv 1) pa_nil)) (nomark _)) pa_nil)))))), ?_⟩
  rintro ss M Q ⟨x, y, rfl, hx, hy, q⟩
  walk_at "k"
  show WS K _ [some (.dat (encR x)), some (.dat (encR y)), none] M _
  have hx1 := hx.1
  have hy1 := hy.1
  refine ws_seq (ws_forR1 (n := if (y.length : Int) < x.length then (y.length : Int) else x.length) (M1 := M) (by walk_at "e"; exact ⟨by simp, rfl⟩) (by split <;> omega)
    (fun i ρ' M' => ∃ z, ρ' = [some (.dat (encR x)), some (.dat (encR y)), z] ∧ M' = M ∧ ∀ j, j < i → x[j]? = y[j]?) ⟨none, rfl, rfl, fun j h => nomatch h⟩ ?_ ?_)
  · rintro i ρ' M' hi ⟨z, rfl, rfl, he⟩
    have h1 : i < x.length := by split at hi <;> omega
    have h2 : i < y.length := by split at hi <;> omega
    have a1 : atI (x.map Val.enc) (i : Int) = some (x[i].enc) := atI_nat (by rw [List.getElem?_map, List.getElem?_eq_getElem h1]; rfl)
    have a2 : atI (y.map Val.enc) (i : Int) = some (y[i].enc) := atI_nat (by rw [List.getElem?_map, List.getElem?_eq_getElem h2]; rfl)
    have k1 := hx.2 _ (List.getElem_mem h1)
    have k2 := hy.2 _ (List.getElem_mem h2)
    have s1 : x = x.take i ++ x[i] :: x.drop (i + 1) := split_at h1
    have s2 : y = x.take i ++ y[i] :: y.drop (i + 1) := by
      have : x.take i = y.take i := List.ext_getElem? fun j => by
        rw [List.getElem?_take, List.getElem?_take]
        by_cases hj : j < i
        · rw [if_pos hj, if_pos hj, he j hj]
        · rw [if_neg hj, if_neg hj]
      rw [this]
      exact split_at h2
    refine wg_name ?_
    walk_at "e"
    refine w2_ixT a1 ?_
    walk_at "e"
    refine w2_ixT a2 ?_
    walk_at "e"
    refine ⟨x[i], y[i], rfl, k1, k2, ?_⟩
    walk_at "e"
    refine ite_b (fun hb => ?_) (fun hb => ?_)
    · walk_at "e"
      rw [s1, s2, (ordR_at hb).1] at q
      exact q
    walk_at "e"
    refine w2_ixT a2 ?_
    walk_at "e"
    refine w2_ixT a1 ?_
    walk_at "e"
    refine ⟨y[i], x[i], rfl, k2, k1, ?_⟩
    walk_at "e"
    refine ite_b (fun hb2 => ?_) (fun hb2 => ?_)
    · walk_at "e"
      rw [s1, s2, (ordR_at hb2).2] at q
      exact q
    walk_at "e"
    refine ⟨_, rfl, rfl, fun j hj => ?_⟩
    by_cases e : j = i
    · subst e
      rw [List.getElem?_eq_getElem h1, List.getElem?_eq_getElem h2]
      by_cases e : x[j] = y[j]
      · rw [e]
      · have := vLt_tri e
        rw [hb, hb2] at this
        cases this
    · exact he j (by omega)
  · rintro ρ' M' ⟨z, rfl, rfl, he⟩
    walk_at "e"
    have hp := ordR_pre (a := x) (b := y) fun j h1 h2 => he j (by split <;> omega)
    simp only [List.length_map]
    have d1 : decide ((y.length : Int) < (x.length : Int)) = decide (y.length < x.length) := decide_eq_decide.mpr (by omega)
    have d2 : decide ((x.length : Int) < (y.length : Int)) = decide (x.length < y.length) := decide_eq_decide.mpr (by omega)
    rw [d1, d2, ← hp]
    exact q
theorem idx4 {ds : List PyData} {d : PyData} (j : Nat) (h : (ds.take j).all (fun z => !PyData.eqv z d) = true) : ∀ (m : Nat) (z' : PyData), m < j → ds[m]? = some z' → PyData.eqv z' d = false := fun m z' hm hz => by
  have hmem : z' ∈ ds.take j := List.mem_iff_getElem?.mpr ⟨m, by rw [List.getElem?_take, if_pos hm]; exact hz⟩
  have := List.all_eq_true.mp h z' hmem
  simpa using this
def A_law_key : ASp := fun ss M Q => ∃ it : Item, ss = [.dat it.enc] ∧ Q (.dat (keyOf it).enc) M
theorem ok_law_key (T : Txt K mg a d) : FnOk P w K mg base CX0 1 a.law_key d.law_key ["_law_item_here"] (conc K A_law_key) := by
  refine ab_ok T.F_law_key sc_law_key (fun ss M Q ⟨v, e, _⟩ => by subst e; rfl) fun cdv Ar outer s H E hr => ?_
  have hu64 := hr.units
  have hu65 := room65 hr
  refine ⟨_, (pss_cons (ps_set (i := 1) sc_law_key.nd rfl (Or.inl rfl) (pe_bm PySem.F.plainAttrs_list PySem.F.slot_list_index PySem.F.type_list_index (r := rIndexD K) (mt_indexD hu65) (pe_lst (pa_cons pe_str (pa_cons pe_str (pa_cons pe_str (pa_cons pe_str pa_nil))))) (pa_cons (pe_ix (r := rIxT K) ix_tup (pv 0) pe_int (fun _ _ => rfl)) pa_nil)))
  (pss_cons (ps_if (pt_cmpR (r := rEqD K) (op_eqD hu64) (pv 1) pe_int (nomark _)) (pss_one (ps_ret (pe_tup (pa_cons pe_int (pa_cons (pe_ix (r := rIxT K) ix_tup (pv 0) pe_int (fun _ _ => rfl)) (pa_cons (pe_ix (r := rIxT K) ix_tup (pv 0) pe_int (fun _ _ => rfl)) pa_nil)))))) pss_nil)
  (pss_one (ps_ret (pe_tup (pa_cons (pv 1) (pa_cons (pe_ix (r := rIxT K) ix_tup (pv 0) pe_int (fun _ _ => rfl)) (pa_cons (pe_tup pa_nil) pa_nil)))))))), ?_⟩
  rintro ss M Q ⟨it, rfl, q⟩
  walk_at "k"
  show WS K _ [some (.dat it.enc), none] M _
  cases it with
  | relation n x =>
    walk_at "f"
    refine w_bm ?_
    walk_at "f"
    refine ⟨ty_lst lsv_dat, ?_⟩
    walk_at "f"
    refine wm_index (j := 0) (by decide +kernel) (by decide +kernel) rfl (by decide +kernel) (idx4 0 (by decide +kernel)) ?_
    walk_at "f"
    exact q
  | fact n row =>
    walk_at "f"
    refine w_bm ?_
    walk_at "f"
    refine ⟨ty_lst lsv_dat, ?_⟩
    walk_at "f"
    refine wm_index (j := 1) (by decide +kernel) (by decide +kernel) rfl (by decide +kernel) (idx4 1 (by decide +kernel)) ?_
    walk_at "f"
    exact q
  | rule n rel hd b =>
    walk_at "f"
    refine w_bm ?_
    walk_at "f"
    refine ⟨ty_lst lsv_dat, ?_⟩
    walk_at "f"
    refine wm_index (j := 2) (by decide +kernel) (by decide +kernel) rfl (by decide +kernel) (idx4 2 (by decide +kernel)) ?_
    walk_at "f"
    exact q
  | denial n b =>
    walk_at "f"
    refine w_bm ?_
    walk_at "f"
    refine ⟨ty_lst lsv_dat, ?_⟩
    walk_at "f"
    refine wm_index (j := 3) (by decide +kernel) (by decide +kernel) rfl (by decide +kernel) (idx4 3 (by decide +kernel)) ?_
    walk_at "f"
    exact q
def A_key_order2 : ASp := fun ss M Q => ∃ k l : Key, ss = [.dat k.enc, .dat l.enc] ∧ k.ok ∧ l.ok ∧ Q (.int (ordK k l)) M
theorem ok_law_key_order (T : Txt K mg a d) : FnOk P w K mg base CX0 3 a.law_key_order d.law_key_order ["_law_first", "_law_second"] (conc K A_key_order2) := by
  have G_law_order : FnOk P w K mg base CX0 2 a.law_order d.law_order ["_law_first", "_law_second"] (conc K A_order) := ok_order T
  refine ab_ok T.F_law_key_order sc_law_key_order (fun ss M Q ⟨_, _, e, _⟩ => by subst e; rfl) fun cdv Ar outer s H E hr => ?_
  have hu64 := hr.units
  refine ⟨_, (pss_cons (ps_if (pt_cmpR (r := rNeD K) (op_neD hu64) (pe_slice (r := rSlA K) sl_tupA (pv 0) po_none (po_some pe_int)) (pe_slice (r := rSlA K) sl_tupA (pv 1) po_none (po_some pe_int)) (nomark _)) (pss_one (ps_ret (pe_op op_sub pe_int (pe_op op_mul pe_int (pe_callTy (r := rInt1) call_int1 (by rfl) T.n_int (by decide +kernel) (pa_cons (pe_cmpR (r := rCmp .Lt K) (op_ltD hu64) (pe_slice (r := rSlA K) sl_tupA (pv 0) po_none (po_some pe_int)) (pe_slice (r := rSlA K) sl_tupA (pv 1) po_none (po_some pe_int)) (nomark _)) pa_nil)))))) pss_nil)
  (pss_one (ps_ret (pe_call G_law_order (hr.mono (by omega)) (by rfl) T.g_law_order T.F_law_order.kp T.b_law_order .nil pass0 (pa_cons (pe_ix (r := rIxT K) ix_tup (pv 0) pe_int (fun _ _ => rfl)) (pa_cons (pe_ix (r := rIxT K) ix_tup (pv 1) pe_int (fun _ _ => rfl)) pa_nil)))))), ?_⟩
  rintro ss M Q ⟨k, l, rfl, hk, hl, q⟩
  walk_at "k"
  show WS K _ [some (.dat k.enc), some (.dat l.enc)] M _
  walk_at "e"
  have cut : ∀ x y z : PyData, cutG [x, y, z] none (some 2) = [x, y] := fun _ _ _ => rfl
  have sh : ∀ {k : Key}, k.ok → SeqAt.shaped (.tuple [.int k.s, .str k.n]) = true := fun h => okD_shaped (n := 1) (okD_mkT (by simp) (okAll_cons okD_int (okAll_cons (okD_good h.1) rfl))) (by decide)
  rw [cut, cut]
  refine w2_ne (sh hk) (sh hl) ?_
  have e1 : PyData.eqv (.tuple [.int k.s, .str k.n]) (.tuple [.int l.s, .str l.n]) = decide (k.s = l.s ∧ k.n = l.n) := by
    have e1 := eqv_int k.s l.s
    have e2 := eqv_str k.n l.n
    simp only [PyData.eqv, PyData.eqvAll, Bool.and_true] at e1 e2 ⊢
    rw [e1, e2]
    by_cases h1 : k.s = l.s <;> by_cases h2 : k.n = l.n <;> simp [h1, h2]
  rw [e1]
  walk_at "e"
  refine ite_n (fun h => ?_) (fun h => ?_)
  · walk_at "e"
    rw [cut, cut]
    have hc : cmpOk (.tuple [.int k.s, .str k.n]) (.tuple [.int l.s, .str l.n]) = true := by
      show cmpOks _ _ = true
      simp only [cmpOks, eqv_int, eqv_str]
      simp [cmpOk]
    refine w2_cmp hc (sh hk) (sh hl) ?_
    have e2 : cmpV .Lt (.tuple [.int k.s, .str k.n]) (.tuple [.int l.s, .str l.n]) = hdLt k l := by
      unfold hdLt
      simp only [cmpV, cmpVs, eqv_int, eqv_str, cmpI, cmpS, cmpN, List.length_cons, List.length_nil]
      by_cases h1 : k.s = l.s
      · have h2 : k.n ≠ l.n := fun e => h ⟨h1, e⟩
        simp [h1, h2]
      · simp [h1]
    rw [e2]
    walk_at "e"
    unfold ordK at q
    rw [if_neg h] at q
    cases hh : hdLt k l with
    | true => rw [hh] at q; exact q
    | false => rw [hh] at q; exact q
  · walk_at "e"
    refine ⟨k.row, l.row, rfl, hk.2, hl.2, ?_⟩
    unfold ordK at q
    rw [if_pos h] at q
    exact q
def A_agrees : ASp := fun ss M Q => ∃ (l r : List PyData) (o : Int), ss = [.dat (.tuple l), .dat (.tuple r), .int o] ∧ SeqAt.shaped (.tuple l) = true ∧ SeqAt.shaped (.tuple r) = true ∧ cmpOk (.tuple l) (.tuple r) = true ∧
  cmpV .Lt (.tuple l) (.tuple r) = decide (o < 0) ∧ PyData.eqv (.tuple l) (.tuple r) = decide (o = 0) ∧ cmpV .Gt (.tuple l) (.tuple r) = decide (0 < o) ∧ Q (.bl true) M
theorem ok_agrees (T : Txt K mg a d) : FnOk P w K mg base CX0 1 a.law_agrees d.law_agrees ["_law_left", "_law_right", "_law_order_here"] (conc K A_agrees) := by
  refine ab_ok T.F_law_agrees sc_law_agrees (fun ss M Q ⟨_, _, _, e, _⟩ => by subst e; rfl) fun cdv Ar outer s H E hr => ?_
  have hu64 := hr.units
  refine ⟨_, (pss_cons (ps_if (PW.pt (pw_or (pt_not (pt_val (pe_callB (r := rIsi K) call_isi (by rfl) T.n_isinstance (by decide +kernel) (pa_cons (pv 0) (pa_cons (pe_bltn (v := .ty "tuple") (u := .type "tuple") (by rfl) T.n_tuple (by decide +kernel) rfl) pa_nil))))) (pw_or1 (pt_not (pt_val (pe_callB (r := rIsi K) call_isi (by rfl) T.n_isinstance (by decide +kernel) (pa_cons (pv 1) (pa_cons (pe_bltn (v := .ty "tuple") (u := .type "tuple") (by rfl) T.n_tuple (by decide +kernel) rfl) pa_nil)))))))) (pss_one (ps_ret pe_bl)) pss_nil)
  (pss_one (ps_ret (pe_cmpR (r := rEqD K) (op_eqD hu64) (pe_lst (pa_cons (pe_cmpR (r := rCmp .Lt K) (op_ltD hu64) (pv 0) (pv 1) (nomark _)) (pa_cons (pe_cmpR (r := rEqD K) (op_eqD hu64) (pv 0) (pv 1) (nomark _)) (pa_cons (pe_cmpR (r := rCmp .Gt K) (op_gtD hu64) (pv 0) (pv 1) (nomark _)) pa_nil)))) (pe_lst (pa_cons (pe_cmpR op_lt (pv 2) pe_int (nomark _)) (pa_cons (pe_cmpR (r := rEqD K) (op_eqD hu64) (pv 2) pe_int (nomark _)) (pa_cons (pe_cmpR op_gt (pv 2) pe_int (nomark _)) pa_nil)))) (nomark _))))), ?_⟩
  rintro ss M Q ⟨l, r, o, rfl, s1, s2, hc, e1, e2, e3, q⟩
  walk_at "k"
  show WS K _ [some (.dat (.tuple l)), some (.dat (.tuple r)), some (.int o)] M _
  walk_at "f"
  refine w2_cmp hc s1 s2 ?_
  walk_at "f"
  refine w2_eq s1 s2 ?_
  walk_at "f"
  refine w2_cmp hc s1 s2 ?_
  walk_at "f"
  rw [e1, e2, e3]
  have sh : ∀ x y z : Bool, okD 1 (.list [.bool x, .bool y, .bool z]) = true := fun _ _ _ => okD_mkL (by simp) (okAll_cons okD_bool (okAll_cons okD_bool (okAll_cons okD_bool rfl)))
  refine w2_eq (okD_shaped (sh _ _ _) (by decide)) (okD_shaped (sh _ _ _) (by decide)) ?_
  rw [eqv_self (sh _ _ _)]
  exact q
end
end K01


set_option Elab.async false
set_option linter.all false
set_option maxRecDepth 100000
set_option  maxHeartbeats 4000000
namespace K01
open PySem PyProof.Rows L2 Ab
local macro_rules | `(tactic| walk_at "len") => `(tactic| first | decide | omega | (simp only [List.length_append, List.length_map, List.length_replicate, List.length_cons, List.length_nil, List.length_take, List.length_drop, List.length_reverse, List.length_range]; omega))
local macro_rules | `(tactic| walk_at "str") => `(tactic| first | decide +kernel | exact goodS_ok (by assumption) | assumption)
local macro_rules | `(tactic| walk_at "1") => `(tactic| (first
  | (with_reducible refine ws_set ?_)
  | (with_reducible refine ws_ret ?_)
  | (with_reducible refine ws_if ?_)
  | (with_reducible refine ws_drop ?_)
  | (with_reducible refine w_op ?_)
  | (with_reducible refine w_un ?_)
  | (with_reducible refine w_int ?_)
  | (with_reducible refine w_bl ?_)
  | (with_reducible refine w_non ?_)
  | (with_reducible refine w_str ?_)
  | (with_reducible refine w_cb ?_)
  | (with_reducible refine w_call ?_)
  | (with_reducible refine w_sl ?_)
  | (with_reducible refine w_tupD ?_)
  | (with_reducible refine w_chain ?_)
  | (with_reducible refine w_andV ?_)
  | (with_reducible refine w_orV ?_)
  | (with_reducible refine w_notV ?_)
  | (with_reducible refine wo_none ?_)
  | (with_reducible refine wo_some ?_)
  | (with_reducible refine wa_cons ?_)
  | (with_reducible refine wa_nil ?_)
  | (with_reducible refine wt_test ?_)
  | (with_reducible refine wt_B ?_)
  | (with_reducible refine wt_and ?_)
  | (with_reducible refine wt_or ?_)
  | (with_reducible refine wt_not ?_)
  | (with_reducible refine wt_yes ?_)
  | (with_reducible refine w2_i0 ?_)
  | (with_reducible refine w2_b0 ?_)
  | (with_reducible refine w1_neg ?_)
  | ((with_reducible refine w2_i ?hc ?_); (case hc => first | decide | exact ⟨by decide, by decide⟩ | exact Or.inl ⟨by decide, by decide⟩ | exact Or.inr ⟨by decide, by decide⟩ | exact ⟨by decide, by decide, by decide⟩ | omega); skip)
  | ((with_reducible refine' w_var ?hv ?_); (case hv => exact rfl); skip)
  | ((with_reducible show W2 _ (rEqD _) (Sl.dat (PyData.int _)) (Sl.dat (PyData.int _)) _ _); (refine w2_eqI ?_))
  | ((with_reducible show W2 _ (rNeD _) (Sl.dat (PyData.int _)) (Sl.dat (PyData.int _)) _ _); (refine w2_neI ?_))
  | ((with_reducible show W2 _ (rEqD _) (Sl.dat (PyData.str _)) (Sl.dat (PyData.str _)) _ _); (refine' w2_eqS ?h1 ?h2 ?_); (case h1 => walk_at "str"); (case h2 => walk_at "str"); skip)
  | ((with_reducible show W2 _ (rNeD _) (Sl.dat (PyData.str _)) (Sl.dat (PyData.str _)) _ _); (refine' w2_neS ?h1 ?h2 ?_); (case h1 => walk_at "str"); (case h2 => walk_at "str"); skip)
  | ((with_reducible show W2 _ (rEqD _) _ _ _ _); (refine w2_eq ?ha ?hb ?_); (case ha => first | exact shaped_int _ | exact shaped_bool _); (case hb => first | exact shaped_int _ | exact shaped_bool _); skip)
  | ((with_reducible show W2 _ (rNeD _) _ _ _ _); (refine w2_ne ?ha ?hb ?_); (case ha => first | exact shaped_int _ | exact shaped_bool _); (case hb => first | exact shaped_int _ | exact shaped_bool _); skip)
  | ((with_reducible show W2 _ _ _ _ _ _); (refine w2_isN ?_))
  | ((with_reducible show W2 _ _ _ _ _ _); (refine w2_notN ?_))
  | (with_reducible refine wl_lenE ?_)
  | (with_reducible refine wl_lenD ?_)
  | (with_reducible refine wl_lenTD ?_)
  | (with_reducible refine wl_listE ?_)
  | (with_reducible refine wsl_E ?_)
  | ((with_reducible refine' w2_catE ?hl ?_); (try (case hl => walk_at "len")); skip)
  | ((with_reducible refine' w2_rep1 ?h1 ?h2 ?_); (try (case h1 => first | decide | omega)); (try (case h2 => first | decide | omega)); skip)
  | ((with_reducible show WL _ _ [_] _ _); (refine' wl_len ?hl ?_); (case hl => first | exact lsv_dat | exact lsv_ref um_same | exact lsv_ref (by assumption)); skip)
  | ((with_reducible show WL _ _ [_] _ _); (refine' wl_list ?hl ?_); (case hl => first | exact .inl lsv_dat | exact .inl (lsv_ref (by assumption))); skip)
  | ((with_reducible show WSl _ (rSlL _) _ _ _ _ _); (refine' wsl_lst ?hl ?_); (case hl => first | exact lsv_dat | exact lsv_ref um_same | exact lsv_ref (by assumption)); skip)
  | ((with_reducible show WL _ _ [_] _ _); (refine wl_int ?_))
  | ((with_reducible show WL _ _ [_] _ _); (refine wl_intb ?_))
  | ((with_reducible show WL _ _ [_, _] _ _); (refine wl_min ?_))
  | ((with_reducible first | show W2 _ (rIxL _) (Sl.dat (PyData.list (List.cons _ _))) (Sl.dat (PyData.int _)) _ _ | show W2 _ (rIxL _) (Sl.dat (PyData.list (List.map PyData.int (List.cons _ _)))) (Sl.dat (PyData.int _)) _ _); (refine' w2_ixAny ?h0 ?h1 ?_); (case h0 => omega); (case h1 => first | omega | (simp only [List.length_cons, List.length_nil, List.length_map]; omega)); skip)
  | ((with_reducible show W2 _ (rIxL _) _ _ _ _); (refine' w2_ixL ?hs ?hx ?_); (case hs => first | exact lsv_dat | exact lsv_ref um_same | exact lsv_ref (by assumption)); (try (case hx => exact rfl)); skip)
  | ((with_reducible show W2 _ (rIxT _) _ _ _ _); (refine' w2_ixT ?hx ?_); (case hx => exact rfl); skip)
  | ((with_reducible show WL _ (rIsi _) [_, _] _ _); (refine' wl_isi ?hb ?_); (case hb => first | exact isi_bool _ | exact isi_int _ | exact isi_str _ | exact isi_tuple _ | exact isi_list _); skip)
  | ((with_reducible show W _ (tC (V.ty _)) _ _ _); (refine w_raw ?_))
  | ((with_reducible show W _ (tC (V.ref _)) _ _ _); (refine w_raw ?_))
  | ((with_reducible show WSl _ (rSlA _) _ _ _ _ _); (refine wsl_tup ?_))
  | ((with_reducible show WL _ (rTupS _) [Sl.dat (PyData.list _)] _ _); (refine wl_tuple lsv_dat ?_))
  | ((with_reducible show W2 _ (rCatA _) _ _ _ _); (refine' w2_catT ?hl ?_); (try (case hl => walk_at "len")); skip)
  | ((with_reducible show WL _ _ [_] _ _); (refine' wl_lenT ?hl ?_); (case hl => exact tpv_dat); skip)
  | (with_reducible refine ws_next ?_)
  | (with_reducible refine ite_t rfl ?_)
  | (with_reducible refine ite_f rfl ?_)
  | ((with_reducible refine' ite_t ?hb ?_); (case hb => decide +kernel); skip)
  | ((with_reducible refine' ite_f ?hb ?_); (case hb => decide +kernel); skip)
  | ((with_reducible show ∃ b : Bool, _ = Sl.bl b ∧ _); (with_reducible refine ⟨_, rfl, ?_⟩))
  | ((with_reducible show ∃ i : Int, _ = Sl.int i ∧ _); (with_reducible refine ⟨_, rfl, ?_⟩))
  | ((with_reducible show List.length _ ≤ 100000 ∧ _); (refine ⟨(by simp), ?_⟩))
  | ((with_reducible show ∃ ds : List PyData, datsOf _ = some ds ∧ _); (refine ⟨_, rfl, ?_⟩))))
local macro_rules | `(tactic| walk_at "e") => `(tactic| repeat (first | (with_reducible refine ws_seq ?_) | (walk_at "1")))
local macro_rules | `(tactic| walk_at "g") => `(tactic| repeat (first | (walk_at "1") | ((with_reducible refine w_lstI (wa_cons ?_)); (repeat (walk_at "1")); (with_reducible show ∃ ns : List Int, itemsI _ = some ns ∧ _); (refine ⟨_, rfl, ?_⟩)) | (with_reducible refine w_lstD ?_)))
local macro_rules | `(tactic| walk_at "f") => `(tactic| repeat (first | (with_reducible refine ws_seq ?_) | (walk_at "1") | ((with_reducible refine w_lstI (wa_cons ?_)); (repeat (walk_at "1")); (with_reducible show ∃ ns : List Int, itemsI _ = some ns ∧ _); (refine ⟨_, rfl, ?_⟩)) | (with_reducible refine w_lstD ?_)))
local macro_rules | `(tactic| walk_at "k") => `(tactic| first | dsimp only [cxOf, Cx.nox, Cx.wish] | skip)

section
variable {P : Program} {w : World} {K : PySem.W.Frag} {mg : Str → Option Value} {base : Heap} {a : AD} {d : FD}
theorem mem_of {α : Type} {xs pre post : List α} {x : α} (e : xs = pre ++ x :: post) : x ∈ xs := by rw [e]; simp
theorem ok_law (T : Txt K mg a d) : FnOk P w K mg base CX0 8 a.law d.law ["_law_script"] (scriptA K) := by
  have G_law_next : FnOk P w K mg base CX0 1 a.law_next d.law_next ["_law_state", "_law_limit"] (conc K A_next) := ok_next T
  have G_law_value : FnOk P w K mg base CX0 2 a.law_value d.law_value ["_law_state"] (conc K (A_draw fun d => isVal d = true)) := ok_value T
  have G_law_row : FnOk P w K mg base CX0 3 a.law_row d.law_row ["_law_state", "_law_width"] (conc K A_row) := ok_row T
  have G_law_item : FnOk P w K mg base CX0 7 a.law_item d.law_item ["_law_state"] (conc K A_item) := ok_item T
  have G_value_key : FnOk P w K mg base CX0 1 a.value_key d.value_key ["value"] (conc K A_value_key) := ok_value_key T
  have G_row_key : FnOk P w K mg base CX0 2 a.row_key d.row_key ["row"] (conc K A_row_key) := ok_row_key T
  have G_same_row : FnOk P w K mg base CX0 3 a.same_row d.same_row ["first", "second"] (conc K A_same_row) := ok_same_row T
  have G_key_of : FnOk P w K mg base CX0 1 a.key_of d.key_of ["item"] (conc K A_key_of) := ok_key_of T
  have G_key_order : FnOk P w K mg base CX0 3 a.key_order d.key_order ["key"] (conc K A_key_order) := ok_key_order T
  have G_law_order : FnOk P w K mg base CX0 2 a.law_order d.law_order ["_law_first", "_law_second"] (conc K A_order) := ok_order T
  have G_law_key : FnOk P w K mg base CX0 1 a.law_key d.law_key ["_law_item_here"] (conc K A_law_key) := ok_law_key T
  have G_law_key_order : FnOk P w K mg base CX0 3 a.law_key_order d.law_key_order ["_law_first", "_law_second"] (conc K A_key_order2) := ok_law_key_order T
  have G_law_agrees : FnOk P w K mg base CX0 1 a.law_agrees d.law_agrees ["_law_left", "_law_right", "_law_order_here"] (conc K A_agrees) := ok_agrees T
  have G_law_same : FnOk P w K mg base CX0 4 a.law_same d.law_same ["_law_actual", "_law_expected"] (conc K (A_sameN 4)) := ok_sameN T 4
  refine ab_ok T.F_law sc_law (fun ss M Q ⟨p, xs, e, _⟩ => by subst e; rfl) fun cdv Ar outer s H E hr => ?_
  have hu64 := hr.units
  refine ⟨_, (pss_cons (ps_set (i := 1) sc_law.nd rfl (Or.inr rfl) (pe_lst (pa_cons (pe_callTy (r := rListS K) call_list_of (by rfl) T.n_list (by decide +kernel) (pa_cons (pv 0) pa_nil)) (pa_cons pe_int (pa_cons pe_int (pa_cons pe_int pa_nil))))))
  (pss_cons (ps_setLc (i := 2) (own := [("_law_k", 3)]) rfl sc_law.nd rfl rfl (sw_true rfl rfl rfl (by decide +kernel)) (pi_range1 rfl T.n_range (pa_cons (pe_call G_law_next (hr.mono (by omega)) (by rfl) T.g_law_next T.F_law_next.kp T.b_law_next .nil pass0 (pa_cons (pv 1) (pa_cons pe_int pa_nil))) pa_nil)) (blkOk_by (own := [("_law_k", 3)]) (N := ["_law_script", "_law_state", "_law_values", "_law_k", "_law_rows", "_law_first", "_law_second", "_law_order_here", "_law_keys", "_law_item_here"]) (sc := (defScope s_law)) (by decide +kernel)) (fun _ _ _ _ _ => (pg_name (i := 3) sc_law.nd rfl (Or.inl rfl))) (fun _ _ _ _ _ => pts_nil) (fun _ _ _ _ _ => (pe_call G_law_value (hr.mono (by omega)) (by rfl) T.g_law_value T.F_law_value.kp T.b_law_value .nil pass0 (pa_cons (pv 1) pa_nil))))
  (pss_cons (ps_setLc (i := 4) (own := [("_law_k", 3)]) rfl sc_law.nd rfl rfl (sw_true rfl rfl rfl (by decide +kernel)) (pi_range1 rfl T.n_range (pa_cons (pe_call G_law_next (hr.mono (by omega)) (by rfl) T.g_law_next T.F_law_next.kp T.b_law_next .nil pass0 (pa_cons (pv 1) (pa_cons pe_int pa_nil))) pa_nil)) (blkOk_by (own := [("_law_k", 3)]) (N := ["_law_script", "_law_state", "_law_values", "_law_k", "_law_rows", "_law_first", "_law_second", "_law_order_here", "_law_keys", "_law_item_here"]) (sc := (defScope s_law)) (by decide +kernel)) (fun _ _ _ _ _ => (pg_name (i := 3) sc_law.nd rfl (Or.inl rfl))) (fun _ _ _ _ _ => pts_nil) (fun _ _ _ _ _ => (pe_call G_law_row (hr.mono (by omega)) (by rfl) T.g_law_row T.F_law_row.kp T.b_law_row .nil pass0 (pa_cons (pv 1) (pa_cons (pe_call G_law_next (hr.mono (by omega)) (by rfl) T.g_law_next T.F_law_next.kp T.b_law_next .nil pass0 (pa_cons (pv 1) (pa_cons pe_int pa_nil))) pa_nil)))))
  (pss_cons (ps_if (pt_cmpR op_gt (pe_callB (r := rLenS K) call_len_seq (by rfl) T.n_len PySem.boot_len (pa_cons (pv 4) pa_nil)) pe_int (nomark _)) (pss_one (ps_asg (pe_op (r := rCatA K) op_catA (pe_ix (r := rIxL K) ix_list (pv 4) pe_int (fun _ _ => rfl)) (pe_call G_law_row (hr.mono (by omega)) (by rfl) T.g_law_row T.F_law_row.kp T.b_law_row .nil pass0 (pa_cons (pv 1) (pa_cons (pe_call G_law_next (hr.mono (by omega)) (by rfl) T.g_law_next T.F_law_next.kp T.b_law_next .nil pass0 (pa_cons (pv 1) (pa_cons pe_int pa_nil))) pa_nil)))) (pg_sub (pv 4) pe_int set_list))) pss_nil)
  (pss_cons (ps_for PassesOwn.never rfl (pi_list (pv 2)) (pg_name (i := 5) sc_law.nd rfl (Or.inl rfl)) (pss_one (ps_for PassesOwn.never rfl (pi_list (pv 2)) (pg_name (i := 6) sc_law.nd rfl (Or.inl rfl)) (pss_one (ps_if (pt_not (pt_val (pe_call G_law_agrees (hr.mono (by omega)) (by rfl) T.g_law_agrees T.F_law_agrees.kp T.b_law_agrees .nil pass0 (pa_cons (pe_call G_value_key (hr.mono (by omega)) (by rfl) T.g_value_key T.F_value_key.kp T.b_value_key .nil pass0 (pa_cons (pv 5) pa_nil)) (pa_cons (pe_call G_value_key (hr.mono (by omega)) (by rfl) T.g_value_key T.F_value_key.kp T.b_value_key .nil pass0 (pa_cons (pv 6) pa_nil)) (pa_cons (pe_call G_law_order (hr.mono (by omega)) (by rfl) T.g_law_order T.F_law_order.kp T.b_law_order .nil pass0 (pa_cons (pe_tup (pa_cons (pv 5) pa_nil)) (pa_cons (pe_tup (pa_cons (pv 6) pa_nil)) pa_nil))) pa_nil)))))) (pss_one (ps_ret pe_bl)) pss_nil)))))
  (pss_cons (ps_for PassesOwn.never rfl (pi_list (pv 4)) (pg_name (i := 5) sc_law.nd rfl (Or.inl rfl)) (pss_one (ps_for PassesOwn.never rfl (pi_list (pv 4)) (pg_name (i := 6) sc_law.nd rfl (Or.inl rfl)) (pss_cons (ps_set (i := 7) sc_law.nd rfl (Or.inl rfl) (pe_call G_law_order (hr.mono (by omega)) (by rfl) T.g_law_order T.F_law_order.kp T.b_law_order .nil pass0 (pa_cons (pv 5) (pa_cons (pv 6) pa_nil))))
  (pss_one (ps_if (PW.pt (pw_or (pt_not (pt_val (pe_call G_law_agrees (hr.mono (by omega)) (by rfl) T.g_law_agrees T.F_law_agrees.kp T.b_law_agrees .nil pass0 (pa_cons (pe_call G_row_key (hr.mono (by omega)) (by rfl) T.g_row_key T.F_row_key.kp T.b_row_key .nil pass0 (pa_cons (pv 5) pa_nil)) (pa_cons (pe_call G_row_key (hr.mono (by omega)) (by rfl) T.g_row_key T.F_row_key.kp T.b_row_key .nil pass0 (pa_cons (pv 6) pa_nil)) (pa_cons (pv 7) pa_nil)))))) (pw_or1 (pt_not (pt_val (pe_call G_law_same (hr.mono (by omega)) (by rfl) T.g_law_same T.F_law_same.kp T.b_law_same .nil pass0 (pa_cons (pe_call G_same_row (hr.mono (by omega)) (by rfl) T.g_same_row T.F_same_row.kp T.b_same_row .nil pass0 (pa_cons (pv 5) (pa_cons (pv 6) pa_nil))) (pa_cons (pe_cmpR (r := rEqD K) (op_eqD hu64) (pv 7) pe_int (nomark _)) pa_nil)))))))) (pss_one (ps_ret pe_bl)) pss_nil))))))
  (pss_cons (ps_set (i := 8) sc_law.nd rfl (Or.inl rfl) (pe_lst pa_nil))
  (pss_cons (ps_for PassesOwn.never rfl (pi_range1 rfl T.n_range (pa_cons (pe_call G_law_next (hr.mono (by omega)) (by rfl) T.g_law_next T.F_law_next.kp T.b_law_next .nil pass0 (pa_cons (pv 1) (pa_cons pe_int pa_nil))) pa_nil)) (pg_name (i := 3) sc_law.nd rfl (Or.inl rfl)) (pss_cons (ps_set (i := 9) sc_law.nd rfl (Or.inl rfl) (pe_call G_law_item (hr.mono (by omega)) (by rfl) T.g_law_item T.F_law_item.kp T.b_law_item .nil pass0 (pa_cons (pv 1) pa_nil)))
  (pss_cons (ps_if (pt_not (pt_val (pe_call G_law_same (hr.mono (by omega)) (by rfl) T.g_law_same T.F_law_same.kp T.b_law_same .nil pass0 (pa_cons (pe_call G_key_of (hr.mono (by omega)) (by rfl) T.g_key_of T.F_key_of.kp T.b_key_of .nil pass0 (pa_cons (pv 9) pa_nil)) (pa_cons (pe_call G_law_key (hr.mono (by omega)) (by rfl) T.g_law_key T.F_law_key.kp T.b_law_key .nil pass0 (pa_cons (pv 9) pa_nil)) pa_nil))))) (pss_one (ps_ret pe_bl)) pss_nil)
  (pss_one (ps_expr (pe_bm PySem.F.plainAttrs_list PySem.F.slot_list_append PySem.F.type_list_append mt_append (pv 8) (pa_cons (pe_call G_law_key (hr.mono (by omega)) (by rfl) T.g_law_key T.F_law_key.kp T.b_law_key .nil pass0 (pa_cons (pv 9) pa_nil)) pa_nil)))))))
  (pss_cons (ps_for PassesOwn.never rfl (pi_list (pv 8)) (pg_name (i := 5) sc_law.nd rfl (Or.inl rfl)) (pss_one (ps_for PassesOwn.never rfl (pi_list (pv 8)) (pg_name (i := 6) sc_law.nd rfl (Or.inl rfl)) (pss_one (ps_if (pt_not (pt_val (pe_call G_law_agrees (hr.mono (by omega)) (by rfl) T.g_law_agrees T.F_law_agrees.kp T.b_law_agrees .nil pass0 (pa_cons (pe_call G_key_order (hr.mono (by omega)) (by rfl) T.g_key_order T.F_key_order.kp T.b_key_order .nil pass0 (pa_cons (pv 5) pa_nil)) (pa_cons (pe_call G_key_order (hr.mono (by omega)) (by rfl) T.g_key_order T.F_key_order.kp T.b_key_order .nil pass0 (pa_cons (pv 6) pa_nil)) (pa_cons (pe_call G_law_key_order (hr.mono (by omega)) (by rfl) T.g_law_key_order T.F_law_key_order.kp T.b_law_key_order .nil pass0 (pa_cons (pv 5) (pa_cons (pv 6) pa_nil))) pa_nil)))))) (pss_one (ps_ret pe_bl)) pss_nil)))))
  (pss_one (ps_ret pe_bl))))))))))), ?_⟩
  rintro ss M Q ⟨sc, ns, rfl, hl, hb, hs, q⟩
  walk_at "k"
  show WS K _ [some sc, none, none, none, none, none, none, none, none, none] M _
  refine ws_seq (ws_set (w_lstM ?_))
  walk_at "g"
  refine wl_list (.inl (hs M)) ?_
  walk_at "g"
  intro p hp
  have hD : DrawL [.dat (.list (ns.map .int)), .int 0, .int 0, .int 1] := ⟨ns, 0, 0, 1, rfl, by decide⟩
  walk_at "f"
  refine w_lcGen (p := p) (by decide) (fun d => isVal d = true) ?_
  walk_at "f"
  refine a_next hD (by decide) (by decide) fun n zs n0 n1 hD1 => ?_
  walk_at "f"
  refine ⟨n, M, zs, rfl, rfl, hD1, by omega, by omega, fun i M2 us hi hu => ?_, fun ds zs hz hln hP => ?_⟩
  · walk_at "f"
    refine a_gen0 hu rfl fun d zs hP hD => ?_
    exact ⟨d, zs, rfl, rfl, hD, hP⟩
  obtain ⟨vals, rfl, hv⟩ := list_enc (f := Val.enc) (R := Val.ok) fun d hd => isVal_of (hP d hd)
  walk_at "f"
  refine w_lcGenM (p := p) (by decide) (fun d => ∃ row : List Val, d = encR row ∧ (okR row ∧ row.length ≤ 4)) ?_
  walk_at "f"
  refine a_next hz (by decide) (by decide) fun n zs n0 n1 hD1 => ?_
  walk_at "f"
  refine ⟨n, M, zs, rfl, rfl, hD1, by omega, by omega, fun i M2 us hi hu => ?_, fun ds zs D hz hln hP hDn => ?_⟩
  · walk_at "f"
    refine a_next hu (by decide) (by decide) fun n zs n0 n1 hD1 => ?_
    walk_at "f"
    refine a_gen1 hD1 ⟨_, rfl, by omega, by omega⟩ fun d zs hP hD => ?_
    obtain ⟨row, rfl, hrow, he⟩ := hP
    have : n = (row.length : Int) := PyData.int.inj (List.cons.inj he).1
    exact ⟨_, zs, rfl, rfl, hD, row, rfl, hrow, by omega⟩
  obtain ⟨rows, rfl, hrs⟩ := list_enc hP
  have hne : p ≠ D := fun e => by rw [← e, um_same] at hDn; cases hDn
  rw [um_comm hne]
  have hLD : ∀ z L, (um (um M D L) p z) D = some L := fun z L => by rw [um_ne hne.symm]; exact um_same
  refine ws_mid (fun ρ' M' => ∃ (rows : List (List Val)) (zs : List Sl) (y3 : Option Sl), ρ' = [some sc, some (.ref p), some (lsm Val.enc vals), y3, some (.ref D), none, none, none, none, none] ∧ M' = um (um M D (.lst ((rows.map encR).map .dat))) p (.lst zs) ∧ DrawL zs ∧ ∀ r ∈ rows, okR r) ?_ ?_
  · walk_at "f"
    refine wl_len (lsv_ref (hLD _ _)) ?_
    walk_at "f"
    refine ite_d (fun h => ?_) (fun h => ?_)
    · have h2 : 1 < rows.length := by simp at h; omega
      have h0 : rows[0]? = some rows[0] := List.getElem?_eq_getElem (by omega)
      refine ws_setL ?_
      walk_at "f"
      refine w2_ixL (x := .dat (encR rows[0])) (lsv_ref (hLD _ _)) (atI_ok (by decide) (by simp [h0])) ?_
      walk_at "f"
      refine a_next hz (by decide) (by decide) fun n zs n0 n1 hz => ?_
      walk_at "f"
      refine a_gen1 hz ⟨_, rfl, by omega, by omega⟩ fun d zs hP hz => ?_
      obtain ⟨row, rfl, hrow, he⟩ := hP
      have he' : n = (row.length : Int) := PyData.int.inj (List.cons.inj he).1
      have k0 := hrs rows[0] (List.getElem_mem (by omega))
      walk_at "f"
      refine ⟨D, _, 1, 1, rfl, rfl, hLD _ _, ?_, ?_⟩
      · unfold ixN
        rw [List.length_map, List.length_map, if_pos (by decide), if_pos (by omega)]
        rfl
      rw [um_swap hne]
      refine ⟨rows.set 1 (rows[0] ++ row), zs, _, rfl, ?_, hz, fun r hr => ?_⟩
      · have e : encR (rows[0] ++ row) = .tuple (rows[0].map Val.enc ++ row.map Val.enc) := by
          show PyData.tuple _ = _
          rw [List.map_append]
        rw [List.map_set, List.map_set, e]
      · rcases List.mem_or_eq_of_mem_set hr with hr | rfl
        · exact (hrs r hr).1
        · refine ⟨by rw [List.length_append]; omega, fun v hv => ?_⟩
          rcases List.mem_append.mp hv with hv | hv
          · exact k0.1.2 v hv
          · exact hrow.2 v hv
    · walk_at "f"
      exact ⟨rows, zs, _, rfl, rfl, hz, fun r hr => (hrs r hr).1⟩
  · rintro ρ' M' ⟨rows, zs, y3, rfl, rfl, hz, hrs⟩
    refine ws_freeze (i := 4) (a := D) (ds := rows.map encR) rfl (hLD _ _) ?_
    obtain ⟨M1, e⟩ : ∃ M1, del (um (um M D (.lst ((rows.map encR).map .dat))) p (.lst zs)) D = um M1 p (.lst zs) := ⟨_, (um_id (by rw [del_ne hne]; exact um_same)).symm⟩
    rw [e]
    clear e
    show WS K _ [some sc, some (.ref p), some (lsm Val.enc vals), y3, some (lsm encR rows), none, none, none, none, none] (um M1 p (.lst zs)) _
    refine ws_seq (ws_forD (xs := vals) (enc := Val.enc) (M1 := um M1 p (.lst zs)) (by walk_at "f"; exact ⟨rfl, rfl⟩)
      (fun _ ρ' M' => ∃ y5 y6, ρ' = [some sc, some (.ref p), some (lsm Val.enc vals), y3, some (lsm encR rows), y5, y6, none, none, none] ∧ M' = um M1 p (.lst zs)) ⟨none, none, rfl, rfl⟩ ?_ ?_)
    · rintro pre v post ρ' M' hx ⟨y5, y6, rfl, rfl⟩
      refine wg_name ?_
      refine ws_forD (xs := vals) (enc := Val.enc) (M1 := um M1 p (.lst zs)) (by walk_at "f"; exact ⟨rfl, rfl⟩)
        (fun _ ρ' M' => ∃ y6, ρ' = [some sc, some (.ref p), some (lsm Val.enc vals), y3, some (lsm encR rows), some (.dat v.enc), y6, none, none, none] ∧ M' = um M1 p (.lst zs)) ⟨y6, rfl, rfl⟩ ?_ ?_
      · rintro pre2 v2 post2 ρ' M' hx2 ⟨y6, rfl, rfl⟩
        have k1 := hv v (mem_of hx)
        have k2 := hv v2 (mem_of hx2)
        have r1 : okR [v] := ⟨by simp, fun u hu => by rw [List.mem_singleton.mp hu]; exact k1⟩
        have r2 : okR [v2] := ⟨by simp, fun u hu => by rw [List.mem_singleton.mp hu]; exact k2⟩
        refine wg_name ?_
        walk_at "f"
        refine ⟨v, rfl, ?_⟩
        walk_at "f"
        refine ⟨v2, rfl, ?_⟩
        walk_at "f"
        refine ⟨[v], [v2], rfl, r1, r2, ?_⟩
        walk_at "f"
        refine ⟨_, _, _, rfl, ?_, ?_, ok_vkey v v2, ?_, ?_, ?_, ?_⟩
        · exact okD_shaped (n := 2) (okD_mkT (by simp) (okAll_cons okD_int (okAll_cons (Val.okD k1) rfl))) (by decide)
        · exact okD_shaped (n := 2) (okD_mkT (by simp) (okAll_cons okD_int (okAll_cons (Val.okD k2) rfl))) (by decide)
        · refine (lt_vkey v v2).trans (Eq.trans ?_ (ordR_lt [v] [v2]))
          show vLt v v2 = if v = v2 then rLt [] [] else vLt v v2
          by_cases e : v = v2
          · subst e; rw [if_pos rfl, vLt_irr]; rfl
          · rw [if_neg e]
        · refine (eqv_vkey v v2).trans (Eq.trans ?_ (ordR_eq [v] [v2]))
          exact decide_eq_decide.mpr ⟨fun e => by rw [e], fun e => (List.cons.inj e).1⟩
        · refine (gt_vkey v v2).trans (Eq.trans ?_ (ordR_gt [v] [v2]))
          show vLt v2 v = if v2 = v then rLt [] [] else vLt v2 v
          by_cases e : v2 = v
          · subst e; rw [if_pos rfl, vLt_irr]; rfl
          · rw [if_neg e]
        walk_at "f"
        exact ⟨_, rfl, rfl⟩
      · rintro ρ' M' ⟨y6, rfl, rfl⟩
        exact ⟨_, y6, rfl, rfl⟩
    rintro ρ' M' ⟨y5, y6, rfl, rfl⟩
    refine ws_seq (ws_forD (xs := rows) (enc := encR) (M1 := um M1 p (.lst zs)) (by walk_at "f"; exact ⟨rfl, rfl⟩)
      (fun _ ρ' M' => ∃ y5 y6 y7, ρ' = [some sc, some (.ref p), some (lsm Val.enc vals), y3, some (lsm encR rows), y5, y6, y7, none, none] ∧ M' = um M1 p (.lst zs)) ⟨y5, y6, none, rfl, rfl⟩ ?_ ?_)
    · rintro pre v post ρ' M' hx ⟨y5, y6, y7, rfl, rfl⟩
      refine wg_name ?_
      refine ws_forD (xs := rows) (enc := encR) (M1 := um M1 p (.lst zs)) (by walk_at "f"; exact ⟨rfl, rfl⟩)
        (fun _ ρ' M' => ∃ y6 y7, ρ' = [some sc, some (.ref p), some (lsm Val.enc vals), y3, some (lsm encR rows), some (.dat (encR v)), y6, y7, none, none] ∧ M' = um M1 p (.lst zs)) ⟨y6, y7, rfl, rfl⟩ ?_ ?_
      · rintro pre2 v2 post2 ρ' M' hx2 ⟨y6, y7, rfl, rfl⟩
        have k1 := hrs v (mem_of hx)
        have k2 := hrs v2 (mem_of hx2)
        have l1 := k1.1
        have l2 := k2.1
        refine wg_name ?_
        walk_at "f"
        refine ⟨v, v2, rfl, k1, k2, ?_⟩
        walk_at "f"
        refine ⟨v, rfl, by omega, ?_⟩
        walk_at "f"
        refine ⟨v2, rfl, by omega, ?_⟩
        walk_at "f"
        refine ⟨_, _, _, rfl, okD_shaped (rkey_ok k1) (by decide), okD_shaped (rkey_ok k2) (by decide), ok_rkey v v2, ?_, ?_, ?_, ?_⟩
        · exact (lt_rkey v v2).trans (ordR_lt v v2)
        · exact (eqv_rkey v v2).trans (ordR_eq v v2)
        · exact (gt_rkey v v2).trans (ordR_gt v v2)
        walk_at "f"
        refine ⟨v, v2, rfl, k1, k2, ?_⟩
        walk_at "f"
        refine ⟨.bool (decide (ordR v v2 = 0)), by rw [ordR_eq], okD_bool, ?_⟩
        walk_at "f"
        exact ⟨_, _, rfl, rfl⟩
      · rintro ρ' M' ⟨y6, y7, rfl, rfl⟩
        exact ⟨_, y6, y7, rfl, rfl⟩
    rintro ρ' M' ⟨y5, y6, y7, rfl, rfl⟩
    refine ws_seq (ws_set (w_lstM ?_))
    walk_at "g"
    intro p2 hp2
    have hne2 : p ≠ p2 := fun e => by rw [← e, um_same] at hp2; cases hp2
    have hL2 : ∀ z L, (um (um M1 p2 L) p z) p2 = some L := fun z L => by rw [um_ne hne2.symm]; exact um_same
    rw [um_comm hne2]
    refine ws_seq (ws_forRn ?_)
    walk_at "f"
    refine a_next hz (by decide) (by decide) fun n zs n0 n1 hz => ?_
    walk_at "f"
    refine ⟨n, rfl, by omega, by omega, fun i ρ' M' => ∃ (ks : List Key) (zs : List Sl) (y3 y9 : Option Sl), ρ' = [some sc, some (.ref p), some (lsm Val.enc vals), y3, some (lsm encR rows), y5, y6, y7, some (.ref p2), y9] ∧
      M' = um (um M1 p2 (.lst ((ks.map Key.enc).map .dat))) p (.lst zs) ∧ DrawL zs ∧ ks.length = i ∧ ∀ k ∈ ks, k.ok, ⟨[], zs, _, _, rfl, rfl, hz, rfl, fun _ h => nomatch h⟩, ?_, ?_⟩
    · rintro i ρ' M' hi ⟨ks, zs, y3, y9, rfl, rfl, hz, hln, hk⟩
      refine wg_name ?_
      walk_at "f"
      refine a_gen0 hz rfl fun d zs hP hz => ?_
      obtain ⟨it, rfl, hit⟩ := hP
      walk_at "f"
      refine ⟨it, rfl, ?_⟩
      walk_at "f"
      refine ⟨it, rfl, ?_⟩
      walk_at "f"
      refine ⟨(keyOf it).enc, rfl, kenc_ok (key_ok hit), ?_⟩
      walk_at "f"
      refine w_bm ?_
      walk_at "f"
      refine ⟨ty_lst (lsv_ref (hL2 _ _)), ?_⟩
      walk_at "f"
      refine ⟨it, rfl, ?_⟩
      walk_at "f"
      refine wm_append (hL2 _ _) (by rw [List.length_map, List.length_map]; omega) ?_
      rw [um_swap hne2]
      refine ⟨ks ++ [keyOf it], zs, _, _, rfl, by rw [List.map_append, List.map_append]; rfl, hz, by rw [List.length_append, hln]; rfl, fun k hk' => ?_⟩
      rcases List.mem_append.mp hk' with h | h
      · exact hk k h
      · rw [List.mem_singleton.mp h]; exact key_ok hit
    rintro ρ' M' ⟨ks, zs, y3, y9, rfl, rfl, hz, hln, hk⟩
    refine ws_freeze (i := 8) (a := p2) (ds := ks.map Key.enc) rfl (hL2 _ _) ?_
    generalize del (um (um M1 p2 (.lst ((ks.map Key.enc).map .dat))) p (.lst zs)) p2 = M2
    show WS K _ [some sc, some (.ref p), some (lsm Val.enc vals), y3, some (lsm encR rows), y5, y6, y7, some (lsm Key.enc ks), y9] M2 _
    refine ws_seq (ws_forD (xs := ks) (enc := Key.enc) (M1 := M2) (by walk_at "f"; exact ⟨rfl, rfl⟩)
      (fun _ ρ' M' => ∃ y5 y6, ρ' = [some sc, some (.ref p), some (lsm Val.enc vals), y3, some (lsm encR rows), y5, y6, y7, some (lsm Key.enc ks), y9] ∧ M' = M2) ⟨y5, y6, rfl, rfl⟩ ?_ ?_)
    · rintro pre v post ρ' M' hx ⟨y5, y6, rfl, rfl⟩
      refine wg_name ?_
      refine ws_forD (xs := ks) (enc := Key.enc) (M1 := M') (by walk_at "f"; exact ⟨rfl, rfl⟩)
        (fun _ ρ' M2 => ∃ y6, ρ' = [some sc, some (.ref p), some (lsm Val.enc vals), y3, some (lsm encR rows), some (.dat v.enc), y6, y7, some (lsm Key.enc ks), y9] ∧ M2 = M') ⟨y6, rfl, rfl⟩ ?_ ?_
      · rintro pre2 v2 post2 ρ' M' hx2 ⟨y6, rfl, rfl⟩
        have k1 := hk v (mem_of hx)
        have k2 := hk v2 (mem_of hx2)
        have l1 := k1.2.1
        have l2 := k2.2.1
        refine wg_name ?_
        walk_at "f"
        refine ⟨v, rfl, by omega, ?_⟩
        walk_at "f"
        refine ⟨v2, rfl, by omega, ?_⟩
        walk_at "f"
        refine ⟨v, v2, rfl, k1, k2, ?_⟩
        walk_at "f"
        refine ⟨_, _, _, rfl, okD_shaped (kord_ok k1) (by decide), okD_shaped (kord_ok k2) (by decide), ok_kord v v2, lt_kord v v2, eq_kord v v2, gt_kord v v2, ?_⟩
        walk_at "f"
        exact ⟨_, rfl, rfl⟩
      · rintro ρ' M' ⟨y6, rfl, rfl⟩
        exact ⟨_, y6, rfl, rfl⟩
    rintro ρ' M' ⟨y5, y6, rfl, rfl⟩
    walk_at "f"
    exact q _
end
theorem all_mk {l : PySem.W.OpenLaw} {w : World} {K : PySem.W.Frag} {h : Heap} {mg : Str → Option Value} {fa f0 f1 f2 f3 f4 f5 f6 f7 f8 f9 f10 f11 f12 f13 f14 f15 f16 f17 f18 f19 f20 f21 u0 : Addr} (X : K.In h) (G : h.Ns mainGlobals mg) (hfa : mg "law" = some (.ref fa))
    {od0 an0 od1 an1 od2 an2 od3 an3 od4 an4 od5 an5 od6 an6 od7 an7 od8 an8 od9 an9 od10 an10 od11 an11 od12 an12 od13 an13 od14 an14 od15 an15 od16 an16 od17 an17 od18 an18 od19 an19 od20 an20 od21 an21 : Option Addr} {sl0 sl1 sl2 sl3 sl4 sl5 sl6 sl7 sl8 sl9 sl10 sl11 sl12 sl13 sl14 sl15 sl16 sl17 sl18 sl19 sl20 sl21 : Array (Option Value)} {oc0 kV0 dc0 pm0 cd0 ct0 oc1 kV1 dc1 pm1 cd1 ct1 oc2 kV2 dc2 pm2 cd2 ct2 oc3 kV3 dc3 pm3 cd3 ct3 oc4 kV4 dc4 pm4 cd4 ct4 oc5 kV5 dc5 pm5 cd5 ct5 oc6 kV6 dc6 pm6 cd6 ct6 oc7 kV7 dc7 pm7 cd7 ct7 oc8 kV8 dc8 pm8 cd8 ct8 oc9 kV9 dc9 pm9 cd9 ct9 oc10 kV10 dc10 pm10 cd10 ct10 oc11 kV11 dc11 pm11 cd11 ct11 oc12 kV12 dc12 pm12 cd12 ct12 oc13 kV13 dc13 pm13 cd13 ct13 oc14 kV14 dc14 pm14 cd14 ct14 oc15 kV15 dc15 pm15 cd15 ct15 oc16 kV16 dc16 pm16 cd16 ct16 oc17 kV17 dc17 pm17 cd17 ct17 oc18 kV18 dc18 pm18 cd18 ct18 oc19 kV19 dc19 pm19 cd19 ct19 oc20 kV20 dc20 pm20 cd20 ct20 oc21 kV21 dc21 pm21 cd21 ct21 : Value}
    (a0 : PySem.W.nsIn K mainGlobals "value_key" = some (some (.ref f0))) (l0 : K.lookup f0 = some ⟨oc0, od0, .func (PySem.W.fnOf "value_key" "value_key" (defArgs s_value_key) (defBody s_value_key) (defScope s_value_key) .none kV0 dc0 pm0 an0 cd0 ct0), sl0⟩) (c_0 : PySem.W.codeIn K cd0 "value_key" = true) (k0 : PySem.W.keepIn K (.ref f0) = true)
    (a1 : PySem.W.nsIn K mainGlobals "row_key" = some (some (.ref f1))) (l1 : K.lookup f1 = some ⟨oc1, od1, .func (PySem.W.fnOf "row_key" "row_key" (defArgs s_row_key) (defBody s_row_key) (defScope s_row_key) .none kV1 dc1 pm1 an1 cd1 ct1), sl1⟩) (c_1 : PySem.W.codeIn K cd1 "row_key" = true) (k1 : PySem.W.keepIn K (.ref f1) = true)
    (a2 : PySem.W.nsIn K mainGlobals "same_row" = some (some (.ref f2))) (l2 : K.lookup f2 = some ⟨oc2, od2, .func (PySem.W.fnOf "same_row" "same_row" (defArgs s_same_row) (defBody s_same_row) (defScope s_same_row) .none kV2 dc2 pm2 an2 cd2 ct2), sl2⟩) (c_2 : PySem.W.codeIn K cd2 "same_row" = true) (k2 : PySem.W.keepIn K (.ref f2) = true)
    (a3 : PySem.W.nsIn K mainGlobals "key_of" = some (some (.ref f3))) (l3 : K.lookup f3 = some ⟨oc3, od3, .func (PySem.W.fnOf "key_of" "key_of" (defArgs s_key_of) (defBody s_key_of) (defScope s_key_of) .none kV3 dc3 pm3 an3 cd3 ct3), sl3⟩) (c_3 : PySem.W.codeIn K cd3 "key_of" = true) (k3 : PySem.W.keepIn K (.ref f3) = true)
    (a4 : PySem.W.nsIn K mainGlobals "key_order" = some (some (.ref f4))) (l4 : K.lookup f4 = some ⟨oc4, od4, .func (PySem.W.fnOf "key_order" "key_order" (defArgs s_key_order) (defBody s_key_order) (defScope s_key_order) .none kV4 dc4 pm4 an4 cd4 ct4), sl4⟩) (c_4 : PySem.W.codeIn K cd4 "key_order" = true) (k4 : PySem.W.keepIn K (.ref f4) = true)
    (a5 : PySem.W.nsIn K mainGlobals "_law_next" = some (some (.ref f5))) (l5 : K.lookup f5 = some ⟨oc5, od5, .func (PySem.W.fnOf "_law_next" "_law_next" (defArgs s_law_next) (defBody s_law_next) (defScope s_law_next) .none kV5 dc5 pm5 an5 cd5 ct5), sl5⟩) (c_5 : PySem.W.codeIn K cd5 "_law_next" = true) (k5 : PySem.W.keepIn K (.ref f5) = true)
    (a6 : PySem.W.nsIn K mainGlobals "_law_same" = some (some (.ref f6))) (l6 : K.lookup f6 = some ⟨oc6, od6, .func (PySem.W.fnOf "_law_same" "_law_same" (defArgs s_law_same) (defBody s_law_same) (defScope s_law_same) .none kV6 dc6 pm6 an6 cd6 ct6), sl6⟩) (c_6 : PySem.W.codeIn K cd6 "_law_same" = true) (k6 : PySem.W.keepIn K (.ref f6) = true)
    (a7 : PySem.W.nsIn K mainGlobals "_law_characters" = some (some (.ref f7))) (l7 : K.lookup f7 = some ⟨oc7, od7, .func (PySem.W.fnOf "_law_characters" "_law_characters" (defArgs s_law_characters) (defBody s_law_characters) (defScope s_law_characters) .none kV7 dc7 pm7 an7 cd7 ct7), sl7⟩) (c_7 : PySem.W.codeIn K cd7 "_law_characters" = true) (k7 : PySem.W.keepIn K (.ref f7) = true)
    (a8 : PySem.W.nsIn K mainGlobals "_law_value" = some (some (.ref f8))) (l8 : K.lookup f8 = some ⟨oc8, od8, .func (PySem.W.fnOf "_law_value" "_law_value" (defArgs s_law_value) (defBody s_law_value) (defScope s_law_value) .none kV8 dc8 pm8 an8 cd8 ct8), sl8⟩) (c_8 : PySem.W.codeIn K cd8 "_law_value" = true) (k8 : PySem.W.keepIn K (.ref f8) = true)
    (a9 : PySem.W.nsIn K mainGlobals "_law_row" = some (some (.ref f9))) (l9 : K.lookup f9 = some ⟨oc9, od9, .func (PySem.W.fnOf "_law_row" "_law_row" (defArgs s_law_row) (defBody s_law_row) (defScope s_law_row) .none kV9 dc9 pm9 an9 cd9 ct9), sl9⟩) (c_9 : PySem.W.codeIn K cd9 "_law_row" = true) (k9 : PySem.W.keepIn K (.ref f9) = true)
    (a10 : PySem.W.nsIn K mainGlobals "_law_name" = some (some (.ref f10))) (l10 : K.lookup f10 = some ⟨oc10, od10, .func (PySem.W.fnOf "_law_name" "_law_name" (defArgs s_law_name) (defBody s_law_name) (defScope s_law_name) .none kV10 dc10 pm10 an10 cd10 ct10), sl10⟩) (c_10 : PySem.W.codeIn K cd10 "_law_name" = true) (k10 : PySem.W.keepIn K (.ref f10) = true)
    (a11 : PySem.W.nsIn K mainGlobals "_law_term" = some (some (.ref f11))) (l11 : K.lookup f11 = some ⟨oc11, od11, .func (PySem.W.fnOf "_law_term" "_law_term" (defArgs s_law_term) (defBody s_law_term) (defScope s_law_term) .none kV11 dc11 pm11 an11 cd11 ct11), sl11⟩) (c_11 : PySem.W.codeIn K cd11 "_law_term" = true) (k11 : PySem.W.keepIn K (.ref f11) = true)
    (a12 : PySem.W.nsIn K mainGlobals "_law_terms" = some (some (.ref f12))) (l12 : K.lookup f12 = some ⟨oc12, od12, .func (PySem.W.fnOf "_law_terms" "_law_terms" (defArgs s_law_terms) (defBody s_law_terms) (defScope s_law_terms) .none kV12 dc12 pm12 an12 cd12 ct12), sl12⟩) (c_12 : PySem.W.codeIn K cd12 "_law_terms" = true) (k12 : PySem.W.keepIn K (.ref f12) = true)
    (a13 : PySem.W.nsIn K mainGlobals "_law_literal" = some (some (.ref f13))) (l13 : K.lookup f13 = some ⟨oc13, od13, .func (PySem.W.fnOf "_law_literal" "_law_literal" (defArgs s_law_literal) (defBody s_law_literal) (defScope s_law_literal) .none kV13 dc13 pm13 an13 cd13 ct13), sl13⟩) (c_13 : PySem.W.codeIn K cd13 "_law_literal" = true) (k13 : PySem.W.keepIn K (.ref f13) = true)
    (a14 : PySem.W.nsIn K mainGlobals "_law_body" = some (some (.ref f14))) (l14 : K.lookup f14 = some ⟨oc14, od14, .func (PySem.W.fnOf "_law_body" "_law_body" (defArgs s_law_body) (defBody s_law_body) (defScope s_law_body) .none kV14 dc14 pm14 an14 cd14 ct14), sl14⟩) (c_14 : PySem.W.codeIn K cd14 "_law_body" = true) (k14 : PySem.W.keepIn K (.ref f14) = true)
    (a15 : PySem.W.nsIn K mainGlobals "_law_item" = some (some (.ref f15))) (l15 : K.lookup f15 = some ⟨oc15, od15, .func (PySem.W.fnOf "_law_item" "_law_item" (defArgs s_law_item) (defBody s_law_item) (defScope s_law_item) .none kV15 dc15 pm15 an15 cd15 ct15), sl15⟩) (c_15 : PySem.W.codeIn K cd15 "_law_item" = true) (k15 : PySem.W.keepIn K (.ref f15) = true)
    (a16 : PySem.W.nsIn K mainGlobals "_law_before" = some (some (.ref f16))) (l16 : K.lookup f16 = some ⟨oc16, od16, .func (PySem.W.fnOf "_law_before" "_law_before" (defArgs s_law_before) (defBody s_law_before) (defScope s_law_before) .none kV16 dc16 pm16 an16 cd16 ct16), sl16⟩) (c_16 : PySem.W.codeIn K cd16 "_law_before" = true) (k16 : PySem.W.keepIn K (.ref f16) = true)
    (a17 : PySem.W.nsIn K mainGlobals "_law_order" = some (some (.ref f17))) (l17 : K.lookup f17 = some ⟨oc17, od17, .func (PySem.W.fnOf "_law_order" "_law_order" (defArgs s_law_order) (defBody s_law_order) (defScope s_law_order) .none kV17 dc17 pm17 an17 cd17 ct17), sl17⟩) (c_17 : PySem.W.codeIn K cd17 "_law_order" = true) (k17 : PySem.W.keepIn K (.ref f17) = true)
    (a18 : PySem.W.nsIn K mainGlobals "_law_key" = some (some (.ref f18))) (l18 : K.lookup f18 = some ⟨oc18, od18, .func (PySem.W.fnOf "_law_key" "_law_key" (defArgs s_law_key) (defBody s_law_key) (defScope s_law_key) .none kV18 dc18 pm18 an18 cd18 ct18), sl18⟩) (c_18 : PySem.W.codeIn K cd18 "_law_key" = true) (k18 : PySem.W.keepIn K (.ref f18) = true)
    (a19 : PySem.W.nsIn K mainGlobals "_law_key_order" = some (some (.ref f19))) (l19 : K.lookup f19 = some ⟨oc19, od19, .func (PySem.W.fnOf "_law_key_order" "_law_key_order" (defArgs s_law_key_order) (defBody s_law_key_order) (defScope s_law_key_order) .none kV19 dc19 pm19 an19 cd19 ct19), sl19⟩) (c_19 : PySem.W.codeIn K cd19 "_law_key_order" = true) (k19 : PySem.W.keepIn K (.ref f19) = true)
    (a20 : PySem.W.nsIn K mainGlobals "_law_agrees" = some (some (.ref f20))) (l20 : K.lookup f20 = some ⟨oc20, od20, .func (PySem.W.fnOf "_law_agrees" "_law_agrees" (defArgs s_law_agrees) (defBody s_law_agrees) (defScope s_law_agrees) .none kV20 dc20 pm20 an20 cd20 ct20), sl20⟩) (c_20 : PySem.W.codeIn K cd20 "_law_agrees" = true) (k20 : PySem.W.keepIn K (.ref f20) = true)
    (a21 : PySem.W.nsIn K mainGlobals "law" = some (some (.ref f21))) (l21 : K.lookup f21 = some ⟨oc21, od21, .func (PySem.W.fnOf "law" "law" (defArgs s_law) (defBody s_law) (defScope s_law) .none kV21 dc21 pm21 an21 cd21 ct21), sl21⟩) (c_21 : PySem.W.codeIn K cd21 "law" = true) (k21 : PySem.W.keepIn K (.ref f21) = true)
    (z0 : PySem.W.nsIn K mainGlobals "bool" = some none)
    (z1 : PySem.W.nsIn K mainGlobals "int" = some none)
    (z2 : PySem.W.nsIn K mainGlobals "isinstance" = some none)
    (z3 : PySem.W.nsIn K mainGlobals "len" = some none)
    (z4 : PySem.W.nsIn K mainGlobals "list" = some none)
    (z5 : PySem.W.nsIn K mainGlobals "min" = some none)
    (z6 : PySem.W.nsIn K mainGlobals "range" = some none)
    (z7 : PySem.W.nsIn K mainGlobals "str" = some none)
    (z8 : PySem.W.nsIn K mainGlobals "tuple" = some none)
    {uo0 : Obj} (v0 : PySem.W.nsIn K mainGlobals "WORDS" = some (some (.ref u0))) (vl0 : K.lookup u0 = some uo0) (vo0 : uo0.cls = .type "tuple" ∧ uo0.dict = none ∧ ∃ its n, uo0.data = .seq its n ∧ its.size ≤ sizeLine ∧ Vals [.str "relation", .str "fact", .str "rule", .str "denial"] its.toList)
    : ∃ fd : FuncData, (∀ (s : Shared) (v : Value), BindsTo s fd ⟨[v], []⟩ [("_law_script", v)]) ∧ ∀ base : Heap, K.In base → base.Ns mainGlobals mg → FnOk l.prog w K mg base CX0 8 fa fd ["_law_script"] (Ab.scriptA K) := by
  have e := hfa.symm.trans (PySem.W.mg_of X G a21)
  cases e
  have F0 := fun_mk (st := s_value_key) l0 c_0 k0
  have b0 := F0.binds (ps := ["value"]) fun _ _ _ _ _ _ us hl => match us, hl with | [_], _ => rfl
  have F1 := fun_mk (st := s_row_key) l1 c_1 k1
  have b1 := F1.binds (ps := ["row"]) fun _ _ _ _ _ _ us hl => match us, hl with | [_], _ => rfl
  have F2 := fun_mk (st := s_same_row) l2 c_2 k2
  have b2 := F2.binds (ps := ["first", "second"]) fun _ _ _ _ _ _ us hl => match us, hl with | [_, _], _ => rfl
  have F3 := fun_mk (st := s_key_of) l3 c_3 k3
  have b3 := F3.binds (ps := ["item"]) fun _ _ _ _ _ _ us hl => match us, hl with | [_], _ => rfl
  have F4 := fun_mk (st := s_key_order) l4 c_4 k4
  have b4 := F4.binds (ps := ["key"]) fun _ _ _ _ _ _ us hl => match us, hl with | [_], _ => rfl
  have F5 := fun_mk (st := s_law_next) l5 c_5 k5
  have b5 := F5.binds (ps := ["_law_state", "_law_limit"]) fun _ _ _ _ _ _ us hl => match us, hl with | [_, _], _ => rfl
  have F6 := fun_mk (st := s_law_same) l6 c_6 k6
  have b6 := F6.binds (ps := ["_law_actual", "_law_expected"]) fun _ _ _ _ _ _ us hl => match us, hl with | [_, _], _ => rfl
  have F7 := fun_mk (st := s_law_characters) l7 c_7 k7
  have b7 := F7.binds (ps := []) fun _ _ _ _ _ _ us hl => match us, hl with | [], _ => rfl
  have F8 := fun_mk (st := s_law_value) l8 c_8 k8
  have b8 := F8.binds (ps := ["_law_state"]) fun _ _ _ _ _ _ us hl => match us, hl with | [_], _ => rfl
  have F9 := fun_mk (st := s_law_row) l9 c_9 k9
  have b9 := F9.binds (ps := ["_law_state", "_law_width"]) fun _ _ _ _ _ _ us hl => match us, hl with | [_, _], _ => rfl
  have F10 := fun_mk (st := s_law_name) l10 c_10 k10
  have b10 := F10.binds (ps := ["_law_state"]) fun _ _ _ _ _ _ us hl => match us, hl with | [_], _ => rfl
  have F11 := fun_mk (st := s_law_term) l11 c_11 k11
  have b11 := F11.binds (ps := ["_law_state"]) fun _ _ _ _ _ _ us hl => match us, hl with | [_], _ => rfl
  have F12 := fun_mk (st := s_law_terms) l12 c_12 k12
  have b12 := F12.binds (ps := ["_law_state"]) fun _ _ _ _ _ _ us hl => match us, hl with | [_], _ => rfl
  have F13 := fun_mk (st := s_law_literal) l13 c_13 k13
  have b13 := F13.binds (ps := ["_law_state"]) fun _ _ _ _ _ _ us hl => match us, hl with | [_], _ => rfl
  have F14 := fun_mk (st := s_law_body) l14 c_14 k14
  have b14 := F14.binds (ps := ["_law_state"]) fun _ _ _ _ _ _ us hl => match us, hl with | [_], _ => rfl
  have F15 := fun_mk (st := s_law_item) l15 c_15 k15
  have b15 := F15.binds (ps := ["_law_state"]) fun _ _ _ _ _ _ us hl => match us, hl with | [_], _ => rfl
  have F16 := fun_mk (st := s_law_before) l16 c_16 k16
  have b16 := F16.binds (ps := ["_law_first", "_law_second"]) fun _ _ _ _ _ _ us hl => match us, hl with | [_, _], _ => rfl
  have F17 := fun_mk (st := s_law_order) l17 c_17 k17
  have b17 := F17.binds (ps := ["_law_first", "_law_second"]) fun _ _ _ _ _ _ us hl => match us, hl with | [_, _], _ => rfl
  have F18 := fun_mk (st := s_law_key) l18 c_18 k18
  have b18 := F18.binds (ps := ["_law_item_here"]) fun _ _ _ _ _ _ us hl => match us, hl with | [_], _ => rfl
  have F19 := fun_mk (st := s_law_key_order) l19 c_19 k19
  have b19 := F19.binds (ps := ["_law_first", "_law_second"]) fun _ _ _ _ _ _ us hl => match us, hl with | [_, _], _ => rfl
  have F20 := fun_mk (st := s_law_agrees) l20 c_20 k20
  have b20 := F20.binds (ps := ["_law_left", "_law_right", "_law_order_here"]) fun _ _ _ _ _ _ us hl => match us, hl with | [_, _, _], _ => rfl
  have F21 := fun_mk (st := s_law) l21 c_21 k21
  have b21 := F21.binds (ps := ["_law_script"]) fun _ _ _ _ _ _ us hl => match us, hl with | [_], _ => rfl
  have T : Txt K mg ⟨f0, f1, f2, f3, f4, f5, f6, f7, f8, f9, f10, f11, f12, f13, f14, f15, f16, f17, f18, f19, f20, fa, u0⟩ ⟨_, _, _, _, _, _, _, _, _, _, _, _, _, _, _, _, _, _, _, _, _, _⟩ := ⟨F0, PySem.W.mg_of X G a0, b0, F1, PySem.W.mg_of X G a1, b1, F2, PySem.W.mg_of X G a2, b2, F3, PySem.W.mg_of X G a3, b3, F4, PySem.W.mg_of X G a4, b4, F5, PySem.W.mg_of X G a5, b5, F6, PySem.W.mg_of X G a6, b6, F7, PySem.W.mg_of X G a7, b7, F8, PySem.W.mg_of X G a8, b8, F9, PySem.W.mg_of X G a9, b9, F10, PySem.W.mg_of X G a10, b10, F11, PySem.W.mg_of X G a11, b11, F12, PySem.W.mg_of X G a12, b12, F13, PySem.W.mg_of X G a13, b13, F14, PySem.W.mg_of X G a14, b14, F15, PySem.W.mg_of X G a15, b15, F16, PySem.W.mg_of X G a16, b16, F17, PySem.W.mg_of X G a17, b17, F18, PySem.W.mg_of X G a18, b18, F19, PySem.W.mg_of X G a19, b19, F20, PySem.W.mg_of X G a20, b20, F21, PySem.W.mg_of X G a21, b21, PySem.W.mg_none_of X G z0, PySem.W.mg_none_of X G z1, PySem.W.mg_none_of X G z2, PySem.W.mg_none_of X G z3, PySem.W.mg_none_of X G z4, PySem.W.mg_none_of X G z5, PySem.W.mg_none_of X G z6, PySem.W.mg_none_of X G z7, PySem.W.mg_none_of X G z8, PySem.W.mg_of X G v0, let ⟨x1, x2, its, n, x3, x4, x5⟩ := vo0; ⟨⟨uo0, vl0, x1, x2⟩, fun _ => .inr ⟨uo0, its, n, vl0, x1, x3, x4, x5⟩⟩⟩
  exact ⟨_, fun s v => .of_eq rfl, fun base _ _ => ok_law T⟩
end K01
open PySem PySem.W PyProof.Rows
set_option maxRecDepth 100000 in
set_option maxHeartbeats 0 in
theorem PySem.Challenge.cw_rulestead_k01_values_rows_and_keys_holds : PySem.Challenge.rw_rulestead_k01_values_rows_and_keys.Holds := by
  w_on; o_law; k_head; (case hw => w_witness2)
  k_fill
  refine L2.walk_ofB (l := PySem.Challenge.rw_rulestead_k01_values_rows_and_keys) (n := 63) (k := 8) (x := "_law_script") (CX := fun _ => L2.CX0) (sp := fun w => Ab.scriptA _) rfl (by decide) rfl ⟨rfl, by decide, by decide⟩ (fun w h Y => PySem.W.kIn_of Y) ?F (fun _ H a ns hl hb hO hS => Ab.script_in hl hb hS) (fun _ _ _ _ _ h => h)
  case F =>
    intro w mg fa h KX G hmg
    refine' K01.all_mk KX G hmg ?a0 ?l0 ?c_0 ?k0 ?a1 ?l1 ?c_1 ?k1 ?a2 ?l2 ?c_2 ?k2 ?a3 ?l3 ?c_3 ?k3 ?a4 ?l4 ?c_4 ?k4 ?a5 ?l5 ?c_5 ?k5 ?a6 ?l6 ?c_6 ?k6 ?a7 ?l7 ?c_7 ?k7 ?a8 ?l8 ?c_8 ?k8 ?a9 ?l9 ?c_9 ?k9 ?a10 ?l10 ?c_10 ?k10 ?a11 ?l11 ?c_11 ?k11 ?a12 ?l12 ?c_12 ?k12 ?a13 ?l13 ?c_13 ?k13 ?a14 ?l14 ?c_14 ?k14 ?a15 ?l15 ?c_15 ?k15 ?a16 ?l16 ?c_16 ?k16 ?a17 ?l17 ?c_17 ?k17 ?a18 ?l18 ?c_18 ?k18 ?a19 ?l19 ?c_19 ?k19 ?a20 ?l20 ?c_20 ?k20 ?a21 ?l21 ?c_21 ?k21 ?z0 ?z1 ?z2 ?z3 ?z4 ?z5 ?z6 ?z7 ?z8 ?v0 ?vl0 ?vo0
    (case a0 => k_is)
    (case l0 => k_is)
    (case c_0 => k_is)
    (case k0 => k_is)
    (case a1 => k_is)
    (case l1 => k_is)
    (case c_1 => k_is)
    (case k1 => k_is)
    (case a2 => k_is)
    (case l2 => k_is)
    (case c_2 => k_is)
    (case k2 => k_is)
    (case a3 => k_is)
    (case l3 => k_is)
    (case c_3 => k_is)
    (case k3 => k_is)
    (case a4 => k_is)
    (case l4 => k_is)
    (case c_4 => k_is)
    (case k4 => k_is)
    (case a5 => k_is)
    (case l5 => k_is)
    (case c_5 => k_is)
    (case k5 => k_is)
    (case a6 => k_is)
    (case l6 => k_is)
    (case c_6 => k_is)
    (case k6 => k_is)
    (case a7 => k_is)
    (case l7 => k_is)
    (case c_7 => k_is)
    (case k7 => k_is)
    (case a8 => k_is)
    (case l8 => k_is)
    (case c_8 => k_is)
    (case k8 => k_is)
    (case a9 => k_is)
    (case l9 => k_is)
    (case c_9 => k_is)
    (case k9 => k_is)
    (case a10 => k_is)
    (case l10 => k_is)
    (case c_10 => k_is)
    (case k10 => k_is)
    (case a11 => k_is)
    (case l11 => k_is)
    (case c_11 => k_is)
    (case k11 => k_is)
    (case a12 => k_is)
    (case l12 => k_is)
    (case c_12 => k_is)
    (case k12 => k_is)
    (case a13 => k_is)
    (case l13 => k_is)
    (case c_13 => k_is)
    (case k13 => k_is)
    (case a14 => k_is)
    (case l14 => k_is)
    (case c_14 => k_is)
    (case k14 => k_is)
    (case a15 => k_is)
    (case l15 => k_is)
    (case c_15 => k_is)
    (case k15 => k_is)
    (case a16 => k_is)
    (case l16 => k_is)
    (case c_16 => k_is)
    (case k16 => k_is)
    (case a17 => k_is)
    (case l17 => k_is)
    (case c_17 => k_is)
    (case k17 => k_is)
    (case a18 => k_is)
    (case l18 => k_is)
    (case c_18 => k_is)
    (case k18 => k_is)
    (case a19 => k_is)
    (case l19 => k_is)
    (case c_19 => k_is)
    (case k19 => k_is)
    (case a20 => k_is)
    (case l20 => k_is)
    (case c_20 => k_is)
    (case k20 => k_is)
    (case a21 => k_is)
    (case l21 => k_is)
    (case c_21 => k_is)
    (case k21 => k_is)
    (case z0 => k_is)
    (case z1 => k_is)
    (case z2 => k_is)
    (case z3 => k_is)
    (case z4 => k_is)
    (case z5 => k_is)
    (case z6 => k_is)
    (case z7 => k_is)
    (case z8 => k_is)
    (case v0 => k_is)
    (case vl0 => k_is)
    (case vo0 => exact ⟨rfl, rfl, _, _, rfl, by decide, .cons ⟨_, rfl⟩ (.cons ⟨_, rfl⟩ (.cons ⟨_, rfl⟩ (.cons ⟨_, rfl⟩ (.nil))))⟩)


