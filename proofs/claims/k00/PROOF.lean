import PyProof.Rows.All
import Wide.All
import OpenK.AllK
import Wide.FinOn
import HandS.ForMost
import HandS.ForExc
import HandS.IsInst
import HandS.Wide
import HandS.RaiseMore
import HandS.FStr
import HandS.CallSlots
import HandS.TupAny
import HandS.Deep
import HandS.ExcField
import HandS.Flow
import HandS.Style
import KE.KExcSuper
import PyProof.ExcBaseAll.IndexError
import HandS.Ends
import HandS.EndBits
import KE.KStateDown
import HandS.Head0
import HandS.Head1
import HandS.Head2
import HandS.HeadHook1
import HandS.HeadHook2
import PyProof.StrLawsRepr
import PyProof.Rows.RegStrFacts
import PyProof.FitsInt
import PySem.Challenge.RW_huebill_k00_integers_names_and_fractions
set_option Elab.async false
set_option linter.all false
set_option maxRecDepth 100000
set_option maxHeartbeats 0
namespace HB
open PySem L2

/-! ### deep data, the store of owned objects, results -/
inductive D where
  | non | bl (b : Bool) | int (i : Int) | str (x : Str) | tup (ds : List D) | lst (ds : List D)
  | dct (kvs : List (D × D)) | obj (c : Str) (fs : List (Str × D)) | ref (i : Nat) | scr (ns : List Int)
inductive MO where
  | lst (ds : List D) | dct (kvs : List (D × D)) | ins (c : Str) (fs : List (Str × D)) | gone
abbrev M := List MO
structure Exc where
  name : Str
  fs : List (Str × D)
inductive R (α : Type) where
  | ok (a : α) (m : M) | ex (c : Exc) (m : M) | no
def R.bind {α β : Type} (r : R α) (k : α → M → R β) : R β := match r with
  | .ok a m => k a m
  | .ex c m => .ex c m
  | .no => .no

def keyD : Key → D
  | .inl i => .int i
  | .inr x => .str x

/-! ### representation -/
section
variable (K : PySem.W.Frag) (mg : Str → Option Value) (rho : List Addr) (F : Hp)
mutual
inductive Rp : V → D → Prop
  | non : Rp .non .non
  | bl {b} : Rp (.bl b) (.bl b)
  | int {i} : Rp (.int i) (.int i)
  | str {x} : Rp (.str x) (.str x)
  | tup {a vs ds} : SqT K F a vs → RpL vs ds → Rp (.ref a) (.tup ds)
  | lst {a vs ds} : F a = some (.lst vs) → RpL vs ds → Rp (.ref a) (.lst ds)
  | dK {a kvs ds} : F a = some (.dK kvs) → RpK kvs ds → Rp (.ref a) (.dct ds)
  | dT {a kvs ds} : F a = some (.dT kvs) → RpT kvs ds → Rp (.ref a) (.dct ds)
  | obj {a C dx fs gs c} : F a = some (.ins C dx fs) → mg c = some (.ref C) → RpF fs gs → Rp (.ref a) (.obj c gs)
  | ref {i a} : rho[i]? = some a → Rp (.ref a) (.ref i)
  | scr {a ns} : SqL K F a (ns.map V.int) → Rp (.ref a) (.scr ns)
inductive RpL : List V → List D → Prop
  | nil : RpL [] []
  | cons {v d vs ds} : Rp v d → RpL vs ds → RpL (v :: vs) (d :: ds)
inductive RpF : List (Str × V) → List (Str × D) → Prop
  | nil : RpF [] []
  | cons {n v d vs ds} : Rp v d → RpF vs ds → RpF ((n, v) :: vs) ((n, d) :: ds)
inductive RpK : List (Key × V) → List (D × D) → Prop
  | nil : RpK [] []
  | cons {k v d vs ds} : Rp v d → RpK vs ds → RpK ((k, v) :: vs) ((keyD k, d) :: ds)
inductive RpT : List (List Key × V) → List (D × D) → Prop
  | nil : RpT [] []
  | cons {k v d vs ds} : Rp v d → RpT vs ds → RpT ((k, v) :: vs) ((.tup (k.map keyD), d) :: ds)
end
/-- what stands at an owned address -/
def RpM (H : Hp) (a : Addr) : MO → Prop
  | .lst ds => F a = none ∧ ∃ vs, H a = some (.lst vs) ∧ RpL K mg rho F vs ds
  | .dct kvs => F a = none ∧ ((∃ ks, H a = some (.dK ks) ∧ RpK K mg rho F ks kvs) ∨ ∃ ks, H a = some (.dT ks) ∧ RpT K mg rho F ks kvs)
  | .ins c gs => F a = none ∧ ∃ C dx fs, H a = some (.ins C dx fs) ∧ mg c = some (.ref C) ∧ RpF K mg rho F fs gs
  | .gone => True
structure Abs (H : Hp) (m : M) : Prop where
  ex : Same F H
  len : rho.length = m.length
  nd : rho.Nodup
  own : ∀ (i : Nat) a o, rho[i]? = some a → m[i]? = some o → RpM K mg rho F H a o
  all : ∀ a ∈ rho, ∃ o, H a = some o
inductive RpX : Exc → Value → Option Addr → Prop
  | bare {n C} : mg n = some (.ref C) → RpX ⟨n, []⟩ (.ref C) none
  | own {n C d fs gs} : mg n = some (.ref C) → F d = some (.xd fs) → RpF K mg rho F fs gs → RpX ⟨n, gs⟩ (.ref C) (some d)
def RpEnv (σ : L2.St) (env : List (Option D)) : Prop := σ.length = env.length ∧ ∀ (i : Nat) d, env[i]? = some (some d) → ∃ v, σ[i]? = some (some v) ∧ Rp K mg rho F v d
end

/-- from one state to a later one -/
structure Step (rho : List Addr) (F H : Hp) (rho' : List Addr) (F' H' : Hp) : Prop where
  pre : ∃ r1, rho' = rho ++ r1 ∧ ∀ a ∈ r1, H a = none
  ex : Same F F'
  dom : ∀ a o, H a = some o → ∃ o', H' a = some o'
  old : ∀ a o, H a = some o → a ∉ rho → H' a = some o ∧ F' a = F a

section
variable {K : PySem.W.Frag} {mg : Str → Option Value} {rho rho' rho2 : List Addr} {F F' F2 H H' H2 : Hp}
theorem Step.refl : Step rho F H rho F H := ⟨⟨[], by simp, by simp⟩, Same.refl F, fun _ o h => ⟨o, h⟩, fun _ _ h _ => ⟨h, rfl⟩⟩
theorem Step.trans (a : Step rho F H rho' F' H') (b : Step rho' F' H' rho2 F2 H2) : Step rho F H rho2 F2 H2 := by
  obtain ⟨r1, e1, h1⟩ := a.pre
  obtain ⟨r2, e2, h2⟩ := b.pre
  have nn : ∀ c o, H c = some o → c ∉ rho → c ∉ rho' := fun c o hc hn hm => by
    rw [e1] at hm
    rcases List.mem_append.mp hm with z | z
    · exact hn z
    · rw [h1 c z] at hc; cases hc
  refine ⟨⟨r1 ++ r2, by rw [e2, e1, List.append_assoc], fun c hc => ?_⟩, a.ex.trans b.ex, fun c o hc => ?_, fun c o hc hn => ?_⟩
  · rcases List.mem_append.mp hc with z | z
    · exact h1 c z
    · have q := h2 c z
      cases e : H c with
      | none => rfl
      | some o =>
        obtain ⟨o', e'⟩ := a.dom c o e
        rw [e'] at q; cases q
  · obtain ⟨o', q1⟩ := a.dom c o hc
    exact b.dom c o' q1
  · obtain ⟨q1, q2⟩ := a.old c o hc hn
    obtain ⟨q3, q4⟩ := b.old c o q1 (nn c o hc hn)
    exact ⟨q3, q4.trans q2⟩
theorem Step.ix (a : Step rho F H rho' F' H') {i : Nat} {x : Addr} (h : rho[i]? = some x) : rho'[i]? = some x := by
  obtain ⟨r1, e1, _⟩ := a.pre
  rw [e1, List.getElem?_append_left (List.getElem?_eq_some_iff.mp h).1]
  exact h
theorem sqT_mono {a : Addr} {xs : List V} (e : Same F F') (h : SqT K F a xs) : SqT K F' a xs := by
  rcases h with (h | ⟨o, h⟩) | h
  · exact .inl (.inl (e _ _ h))
  · exact .inl (.inr ⟨o, e _ _ h⟩)
  · exact .inr h
/-- a representation goes on: more owned objects, more that stands still -/
structure Onto (rho : List Addr) (F : Hp) (rho' : List Addr) (F' : Hp) : Prop where
  ix : ∀ {i : Nat} {x : Addr}, rho[i]? = some x → rho'[i]? = some x
  ex : Same F F'
theorem Step.onto (a : Step rho F H rho' F' H') : Onto rho F rho' F' := ⟨a.ix, a.ex⟩
mutual
theorem Rp.mono (s : Onto rho F rho' F') : ∀ {v : V} {d : D}, Rp K mg rho F v d → Rp K mg rho' F' v d
  | _, _, .non => .non
  | _, _, .bl => .bl
  | _, _, .int => .int
  | _, _, .str => .str
  | _, _, .tup h r => .tup (sqT_mono s.ex h) (RpL.mono s r)
  | _, _, .lst h r => .lst (s.ex _ _ h) (RpL.mono s r)
  | _, _, .dK h r => .dK (s.ex _ _ h) (RpK.mono s r)
  | _, _, .dT h r => .dT (s.ex _ _ h) (RpT.mono s r)
  | _, _, .obj h c r => .obj (s.ex _ _ h) c (RpF.mono s r)
  | _, _, .ref h => .ref (s.ix h)
  | _, _, .scr h => .scr (s.ex.seq h)
theorem RpL.mono (s : Onto rho F rho' F') : ∀ {v : List V} {d : List D}, RpL K mg rho F v d → RpL K mg rho' F' v d
  | _, _, .nil => .nil
  | _, _, .cons h r => .cons (Rp.mono s h) (RpL.mono s r)
theorem RpF.mono (s : Onto rho F rho' F') : ∀ {v : List (Str × V)} {d : List (Str × D)}, RpF K mg rho F v d → RpF K mg rho' F' v d
  | _, _, .nil => .nil
  | _, _, .cons h r => .cons (Rp.mono s h) (RpF.mono s r)
theorem RpK.mono (s : Onto rho F rho' F') : ∀ {v : List (Key × V)} {d : List (D × D)}, RpK K mg rho F v d → RpK K mg rho' F' v d
  | _, _, .nil => .nil
  | _, _, .cons h r => .cons (Rp.mono s h) (RpK.mono s r)
theorem RpT.mono (s : Onto rho F rho' F') : ∀ {v : List (List Key × V)} {d : List (D × D)}, RpT K mg rho F v d → RpT K mg rho' F' v d
  | _, _, .nil => .nil
  | _, _, .cons h r => .cons (Rp.mono s h) (RpT.mono s r)
end
theorem RpEnv.mono (s : Onto rho F rho' F') {σ : L2.St} {env : List (Option D)} (h : RpEnv K mg rho F σ env) : RpEnv K mg rho' F' σ env :=
  ⟨h.1, fun i d e => let ⟨v, q, r⟩ := h.2 i d e; ⟨v, q, r.mono s⟩⟩
theorem RpEnv.set {σ : L2.St} {env : List (Option D)} (h : RpEnv K mg rho F σ env) {v : V} {d : D} (r : Rp K mg rho F v d) (i : Nat) : RpEnv K mg rho F (σ.set i (some v)) (env.set i (some d)) := by
  refine ⟨by simp [h.1], fun j e hj => ?_⟩
  by_cases q : i = j
  · subst q
    by_cases hi : i < env.length
    · rw [List.getElem?_set_self hi] at hj
      cases hj
      exact ⟨v, List.getElem?_set_self (by rw [h.1]; exact hi), r⟩
    · rw [List.getElem?_eq_none (by simpa using hi)] at hj; cases hj
  · rw [List.getElem?_set_ne q] at hj ⊢
    exact h.2 j e hj
theorem RpEnv.unset {σ : L2.St} {env : List (Option D)} (h : RpEnv K mg rho F σ env) (i : Nat) : RpEnv K mg rho F (σ.set i none) (env.set i none) := by
  refine ⟨by simp [h.1], fun j e hj => ?_⟩
  by_cases q : i = j
  · subst q
    by_cases hi : i < env.length
    · rw [List.getElem?_set_self hi] at hj
      cases hj
    · rw [List.getElem?_eq_none (by simpa using hi)] at hj; cases hj
  · rw [List.getElem?_set_ne q] at hj ⊢
    exact h.2 j e hj
def wipeD (env : List (Option D)) : List Nat → List (Option D)
  | [] => env
  | v :: vs => (wipeD env vs).set v none
theorem RpEnv.wipe {σ : L2.St} {env : List (Option D)} (h : RpEnv K mg rho F σ env) : ∀ vs : List Nat, RpEnv K mg rho F (L2.wipe σ vs) (wipeD env vs)
  | [] => h
  | v :: vs => (RpEnv.wipe h vs).unset v

/-! ### what is allotted -/
/-- a new object that stands still -/
theorem Abs.fresh {m : M} {p : Addr} {o : HO} (A : Abs K mg rho F H m) (np : H p = none) :
    Step rho F H rho (upd F p o) (upd H p o) ∧ Abs K mg rho (upd F p o) (upd H p o) m := by
  have nF : F p = none := by
    cases e : F p with
    | none => rfl
    | some u => rw [A.ex p u e] at np; cases np
  have sF : Same F (upd F p o) := fun b u h => by rw [upd_ne (ne_of_none h nF)]; exact h
  have st : Step rho F H rho (upd F p o) (upd H p o) := by
    refine ⟨⟨[], by simp, by simp⟩, sF, fun a u h => ⟨u, ?_⟩, fun a u h _ => ?_⟩
    · rw [upd_ne (ne_of_none h np)]; exact h
    · have ne : a ≠ p := ne_of_none h np
      rw [upd_ne ne, upd_ne ne]; exact ⟨h, rfl⟩
  refine ⟨st, ⟨fun b u h => ?_, A.len, A.nd, fun i a x hi hm => ?_, fun a ha => let ⟨u, hu⟩ := A.all a ha; st.dom a u hu⟩⟩
  · by_cases e : b = p
    · subst e; rw [upd_same] at h ⊢; exact h
    · rw [upd_ne e] at h ⊢; exact A.ex b u h
  · have q := A.own i a x hi hm
    cases x with
    | gone => trivial
    | lst ds =>
      obtain ⟨f0, vs, h0, r⟩ := q
      have ne : a ≠ p := ne_of_none h0 np
      exact ⟨by rw [upd_ne ne]; exact f0, vs, by rw [upd_ne ne]; exact h0, r.mono st.onto⟩
    | dct kvs =>
      obtain ⟨f0, q⟩ := q
      rcases q with ⟨ks, h0, r⟩ | ⟨ks, h0, r⟩
      · have ne : a ≠ p := ne_of_none h0 np
        exact ⟨by rw [upd_ne ne]; exact f0, .inl ⟨ks, by rw [upd_ne ne]; exact h0, r.mono st.onto⟩⟩
      · have ne : a ≠ p := ne_of_none h0 np
        exact ⟨by rw [upd_ne ne]; exact f0, .inr ⟨ks, by rw [upd_ne ne]; exact h0, r.mono st.onto⟩⟩
    | ins c gs =>
      obtain ⟨f0, C, dx, fs, h0, hc, r⟩ := q
      have ne : a ≠ p := ne_of_none h0 np
      exact ⟨by rw [upd_ne ne]; exact f0, C, dx, fs, by rw [upd_ne ne]; exact h0, hc, r.mono st.onto⟩
theorem RpM.mono {a : Addr} {x : MO} (s : Onto rho F rho' F') (h : RpM K mg rho F H a x) (hf : F' a = F a) (hh : ∀ o, H a = some o → H' a = some o) : RpM K mg rho' F' H' a x := by
  cases x with
  | gone => trivial
  | lst ds =>
    obtain ⟨f0, vs, h0, r⟩ := h
    exact ⟨hf.trans f0, vs, hh _ h0, r.mono s⟩
  | dct kvs =>
    obtain ⟨f0, q⟩ := h
    rcases q with ⟨ks, h0, r⟩ | ⟨ks, h0, r⟩
    · exact ⟨hf.trans f0, .inl ⟨ks, hh _ h0, r.mono s⟩⟩
    · exact ⟨hf.trans f0, .inr ⟨ks, hh _ h0, r.mono s⟩⟩
  | ins c gs =>
    obtain ⟨f0, C, dx, fs, h0, hc, r⟩ := h
    exact ⟨hf.trans f0, C, dx, fs, hh _ h0, hc, r.mono s⟩
/-- a new object of our own -/
theorem Abs.notmem {m : M} {p : Addr} (A : Abs K mg rho F H m) (np : H p = none) : p ∉ rho := fun hm => by
  obtain ⟨o, h⟩ := A.all p hm
  rw [np] at h; cases h
theorem Abs.alloc {m : M} {p : Addr} {o : HO} {x : MO} (A : Abs K mg rho F H m) (np : H p = none)
    (hx : RpM K mg (rho ++ [p]) F (upd H p o) p x) :
    Step rho F H (rho ++ [p]) F (upd H p o) ∧ Abs K mg (rho ++ [p]) F (upd H p o) (m ++ [x]) := by
  have st : Step rho F H (rho ++ [p]) F (upd H p o) := by
    refine ⟨⟨[p], rfl, fun a h => by rw [List.mem_singleton.mp h]; exact np⟩, Same.refl F, fun a u h => ⟨u, ?_⟩, fun a u h _ => ⟨?_, rfl⟩⟩
    · rw [upd_ne (ne_of_none h np)]; exact h
    · rw [upd_ne (ne_of_none h np)]; exact h
  have nr : p ∉ rho := A.notmem np
  refine ⟨st, ⟨fun b u h => ?_, by simp [A.len], ?_, fun i a y hi hm => ?_, fun a ha => ?_⟩⟩
  · rw [upd_ne (ne_of_none (A.ex b u h) np)]; exact A.ex b u h
  · rw [List.nodup_append]
    refine ⟨A.nd, by simp, fun a ha b hb => ?_⟩
    rw [List.mem_singleton.mp hb]
    intro e; subst e; exact nr ha
  · by_cases hl : i < rho.length
    · rw [List.getElem?_append_left hl] at hi
      rw [List.getElem?_append_left (by rw [← A.len]; exact hl)] at hm
      refine (A.own i a y hi hm).mono st.onto rfl fun u h => ?_
      rw [upd_ne (ne_of_none h np)]; exact h
    · have hl' : i = rho.length := by
        have := (List.getElem?_eq_some_iff.mp hi).1
        simp at this; omega
      subst hl'
      rw [List.getElem?_append_right (Nat.le_refl _)] at hi
      rw [A.len, List.getElem?_append_right (Nat.le_refl _)] at hm
      simp at hi hm
      subst hi; subst hm
      exact hx
  · rcases List.mem_append.mp ha with z | z
    · obtain ⟨u, hu⟩ := A.all a z
      exact st.dom a u hu
    · rw [List.mem_singleton.mp z]
      exact ⟨o, upd_same⟩
/-- one of our own objects changes -/
theorem Abs.write {m : M} {i : Nat} {p : Addr} {o : HO} {x y : MO} (A : Abs K mg rho F H m) (hi : rho[i]? = some p) (hm : m[i]? = some x) (nF : F p = none) (hp : ∃ u, H p = some u)
    (hy : RpM K mg rho F (upd H p o) p y) : Step rho F H rho F (upd H p o) ∧ Abs K mg rho F (upd H p o) (m.set i y) := by
  have hmem : p ∈ rho := List.mem_of_getElem? hi
  have st : Step rho F H rho F (upd H p o) := by
    refine ⟨⟨[], by simp, by simp⟩, Same.refl F, fun a u h => ?_, fun a u h hn => ⟨?_, rfl⟩⟩
    · by_cases e : a = p
      · subst e; exact ⟨o, upd_same⟩
      · exact ⟨u, by rw [upd_ne e]; exact h⟩
    · rw [upd_ne (fun (e : a = p) => hn (by rw [e]; exact hmem))]; exact h
  refine ⟨st, ⟨fun b u h => ?_, by simp [A.len], A.nd, fun j a z hj hz => ?_, fun a ha => let ⟨u, hu⟩ := A.all a ha; st.dom a u hu⟩⟩
  · rw [upd_ne (ne_of_none h nF)]; exact A.ex b u h
  · by_cases e : i = j
    · subst e
      rw [hi] at hj; cases hj
      have hl : i < m.length := (List.getElem?_eq_some_iff.mp hm).1
      rw [List.getElem?_set_self hl] at hz; cases hz
      exact hy
    · rw [List.getElem?_set_ne e] at hz
      have ne : a ≠ p := fun q => by
        subst q
        have h1 := List.getElem?_eq_some_iff.mp hi
        have h2 := List.getElem?_eq_some_iff.mp hj
        exact e ((List.getElem_inj A.nd).mp (h1.2.trans h2.2.symm))
      refine (A.own j a z hj hz).mono ⟨fun h => h, Same.refl F⟩ rfl fun u h => ?_
      rw [upd_ne ne]; exact h
/-- one of our own objects stands still from now on -/
theorem Abs.freeze {m : M} {i : Nat} {p : Addr} {o : HO} {x : MO} (A : Abs K mg rho F H m) (hi : rho[i]? = some p) (hm : m[i]? = some x) (nF : F p = none) (hp : H p = some o) :
    Step rho F H rho (upd F p o) H ∧ Abs K mg rho (upd F p o) H (m.set i .gone) := by
  have hmem : p ∈ rho := List.mem_of_getElem? hi
  have sF : Same F (upd F p o) := fun b u h => by rw [upd_ne (ne_of_none h nF)]; exact h
  have st : Step rho F H rho (upd F p o) H := by
    refine ⟨⟨[], by simp, by simp⟩, sF, fun a u h => ⟨u, h⟩, fun a u h hn => ⟨h, ?_⟩⟩
    rw [upd_ne (fun (e : a = p) => hn (by rw [e]; exact hmem))]
  refine ⟨st, ⟨fun b u h => ?_, by simp [A.len], A.nd, fun j a z hj hz => ?_, fun a ha => let ⟨u, hu⟩ := A.all a ha; st.dom a u hu⟩⟩
  · by_cases e : b = p
    · subst e; rw [upd_same] at h; rw [← h]; exact hp
    · rw [upd_ne e] at h; exact A.ex b u h
  · by_cases e : i = j
    · subst e
      have hl : i < m.length := (List.getElem?_eq_some_iff.mp hm).1
      rw [List.getElem?_set_self hl] at hz; cases hz
      trivial
    · rw [List.getElem?_set_ne e] at hz
      have ne : a ≠ p := fun q => by
        subst q
        have h1 := List.getElem?_eq_some_iff.mp hi
        have h2 := List.getElem?_eq_some_iff.mp hj
        exact e ((List.getElem_inj A.nd).mp (h1.2.trans h2.2.symm))
      exact (A.own j a z hj hz).mono st.onto (upd_ne ne) fun u h => h
end

/-! ### readings: what a result asks -/
section
variable (K : PySem.W.Frag) (mg : Str → Option Value) (W : WX) (σ : L2.St)
def RdE {α β : Type} (rel : List Addr → Hp → β → α → Prop) (rho : List Addr) (F H : Hp) (Q : β → Hp → Prop) : R α → Prop
  | .ok d m => ∀ v rho' F' H', Step rho F H rho' F' H' → Abs K mg rho' F' H' m → rel rho' F' v d → Q v H'
  | .ex c m => ∀ cls dx rho' F' H', Step rho F H rho' F' H' → Abs K mg rho' F' H' m → RpX K mg rho' F' c cls dx → W cls dx σ H'
  | .no => False
end
section
variable {K : PySem.W.Frag} {mg : Str → Option Value} {W : WX} {σ : L2.St} {rho rho' rho2 : List Addr} {F F' F2 H H' H2 : Hp} {α β γ δ : Type} {rel : List Addr → Hp → β → α → Prop} {rel2 : List Addr → Hp → δ → γ → Prop}
theorem RdE.step {Q : β → Hp → Prop} {r : R α} (h : RdE K mg W σ rel rho F H Q r) (s : Step rho F H rho' F' H') : RdE K mg W σ rel rho' F' H' Q r := by
  cases r with
  | ok d m => exact fun v r2 F2 H2 s2 => h v r2 F2 H2 (s.trans s2)
  | ex c m => exact fun cls dx r2 F2 H2 s2 => h cls dx r2 F2 H2 (s.trans s2)
  | no => exact h
theorem RdE.bind {Q : β → Hp → Prop} {Q' : δ → Hp → Prop} {r : R γ} {k : γ → M → R α} (h : RdE K mg W σ rel rho F H Q (r.bind k))
    (f : ∀ d m v rho' F' H', Step rho F H rho' F' H' → Abs K mg rho' F' H' m → rel2 rho' F' v d → RdE K mg W σ rel rho' F' H' Q (k d m) → Q' v H') : RdE K mg W σ rel2 rho F H Q' r := by
  cases r with
  | ok d m => exact fun v r2 F2 H2 s A r => f d m v r2 F2 H2 s A r (RdE.step (show RdE K mg W σ rel rho F H Q (k d m) from h) s)
  | ex c m => exact h
  | no => exact h
theorem RdE.mono {Q Q' : β → Hp → Prop} {r : R α} (h : RdE K mg W σ rel rho F H Q r) (f : ∀ v H, Q v H → Q' v H) : RdE K mg W σ rel rho F H Q' r := by
  cases r with
  | ok d m => exact fun v r2 F2 H2 s A r => f _ _ (h v r2 F2 H2 s A r)
  | ex c m => exact h
  | no => exact h
end
abbrev Env := List (Option D)
abbrev SE := Env → M → R D
abbrev SB := Env → M → R Bool
abbrev SA := Env → M → R (List D)
section
variable (X : Cx) (W : WX)
abbrev relD (K : PySem.W.Frag) (mg : Str → Option Value) : List Addr → Hp → V → D → Prop := fun rho F v d => Rp K mg rho F v d
abbrev relB : List Addr → Hp → Bool → Bool → Prop := fun _ _ v d => v = d
abbrev relL (K : PySem.W.Frag) (mg : Str → Option Value) : List Addr → Hp → List V → List D → Prop := fun rho F v d => RpL K mg rho F v d
def tE (se : SE) : TE := fun σ H Q => ∃ rho F env m, Abs X.K X.mg rho F H m ∧ RpEnv X.K X.mg rho F σ env ∧ RdE X.K X.mg W σ (relD X.K X.mg) rho F H Q (se env m)
def tT (se : SB) : TT := fun σ H Q => ∃ rho F env m, Abs X.K X.mg rho F H m ∧ RpEnv X.K X.mg rho F σ env ∧ RdE X.K X.mg W σ relB rho F H Q (se env m)
def tA (se : SA) : TA := fun σ H Q => ∃ rho F env m, Abs X.K X.mg rho F H m ∧ RpEnv X.K X.mg rho F σ env ∧ RdE X.K X.mg W σ (relL X.K X.mg) rho F H Q (se env m)
end
theorem PE.imp {X : Cx} {e : Expr} {t t' : TE} (h : PE X e t) (f : ∀ σ H Q, t' σ H Q → t σ H Q) : PE X e t' := ⟨fun pins s σ H Q I q => h.run pins s σ H Q I (f σ H Q q)⟩
theorem PT.imp {X : Cx} {e : Expr} {t t' : TT} (h : PT X e t) (f : ∀ σ H Q, t' σ H Q → t σ H Q) : PT X e t' := ⟨fun pins s σ H Q I q => h.run pins s σ H Q I (f σ H Q q)⟩
theorem PA.imp {X : Cx} {e : List Expr} {t t' : TA} (h : PA X e t) (f : ∀ σ H Q, t' σ H Q → t σ H Q) : PA X e t' := ⟨fun pos pins s σ H Q I q => h.run pos pins s σ H Q I (f σ H Q q)⟩
end HB
namespace HB
open PySem L2

/-! ### looking at data -/
def viewL (d : D) (m : M) : Option (List D) := match d with
  | .lst ds => some ds
  | .ref i => match m[i]? with
    | some (.lst ds) => some ds
    | _ => none
  | _ => none
/-- any list that may be read -/
def viewS (d : D) (m : M) : Option (List D) := match d with
  | .scr ns => some (ns.map D.int)
  | d => viewL d m
def viewQ (d : D) (m : M) : Option (List D) := match d with
  | .tup ds => some ds
  | d => viewS d m
section
variable {K : PySem.W.Frag} {mg : Str → Option Value} {rho : List Addr} {F H : Hp} {m : M} {x : V} {d : D} {ds : List D}
theorem Rp.viewL (A : Abs K mg rho F H m) (r : Rp K mg rho F x d) (h : viewL d m = some ds) : ∃ p vs, x = .ref p ∧ H p = some (.lst vs) ∧ RpL K mg rho F vs ds := by
  unfold HB.viewL at h
  split at h
  · cases h
    cases r with
    | lst hp hr => exact ⟨_, _, rfl, A.ex _ _ hp, hr⟩
  · split at h
    · rename_i hm
      cases h
      cases r with
      | ref hi =>
        obtain ⟨_, vs, h0, r⟩ := A.own _ _ _ hi hm
        exact ⟨_, vs, rfl, h0, r⟩
    · cases h
  · cases h
theorem RpL.ints (ns : List Int) : RpL K mg rho F (ns.map V.int) (ns.map D.int) := by
  induction ns with
  | nil => exact .nil
  | cons a r ih => exact .cons .int ih
theorem Rp.viewS (A : Abs K mg rho F H m) (r : Rp K mg rho F x d) (h : viewS d m = some ds) : ∃ p vs, x = .ref p ∧ SqL K H p vs ∧ RpL K mg rho F vs ds := by
  unfold HB.viewS at h
  split at h
  · cases h
    cases r with
    | scr hs => exact ⟨_, _, rfl, A.ex.seq hs, RpL.ints _⟩
  · obtain ⟨p, vs, e, hp, hr⟩ := r.viewL A h
    exact ⟨p, vs, e, SqL.of hp, hr⟩
theorem Rp.tupH (A : Abs K mg rho F H m) (r : Rp K mg rho F x (.tup ds)) : ∃ p vs, x = .ref p ∧ SqT K H p vs ∧ RpL K mg rho F vs ds := by
  cases r with
  | tup hs hr => exact ⟨_, _, rfl, sqT_mono A.ex hs, hr⟩
theorem Rp.viewQ (A : Abs K mg rho F H m) (r : Rp K mg rho F x d) (h : viewQ d m = some ds) : ∃ p vs, x = .ref p ∧ (SqL K H p vs ∨ SqT K H p vs) ∧ RpL K mg rho F vs ds := by
  unfold HB.viewQ at h
  split at h
  · cases h
    obtain ⟨p, vs, e, hp, hr⟩ := r.tupH A
    exact ⟨p, vs, e, .inr hp, hr⟩
  · obtain ⟨p, vs, e, hp, hr⟩ := r.viewS A h
    exact ⟨p, vs, e, .inl hp, hr⟩
theorem RpL.length {vs : List V} {ds : List D} (r : RpL K mg rho F vs ds) : vs.length = ds.length := by
  induction ds generalizing vs with
  | nil => cases r; rfl
  | cons d ds ih => cases r with | cons h t => simp [ih t]
theorem RpL.append {vs ws : List V} {ds es : List D} (r : RpL K mg rho F vs ds) (q : RpL K mg rho F ws es) : RpL K mg rho F (vs ++ ws) (ds ++ es) := by
  induction ds generalizing vs with
  | nil => cases r; exact q
  | cons d ds ih => cases r with | cons h t => exact .cons h (ih t)
theorem RpL.get {vs : List V} {ds : List D} (r : RpL K mg rho F vs ds) : ∀ {i : Nat} {d : D}, ds[i]? = some d → ∃ v, vs[i]? = some v ∧ Rp K mg rho F v d := by
  induction ds generalizing vs with
  | nil => intro i d h; simp at h
  | cons e ds ih =>
    cases r with
    | cons h t =>
      intro i d hd
      cases i with
      | zero => simp at hd; subst hd; exact ⟨_, rfl, h⟩
      | succ i => obtain ⟨v, q1, q2⟩ := ih t (i := i) (d := d) (by simpa using hd); exact ⟨v, by simpa using q1, q2⟩
theorem RpL.get' {vs : List V} {ds : List D} (r : RpL K mg rho F vs ds) : ∀ {i : Nat} {v : V}, vs[i]? = some v → ∃ d, ds[i]? = some d ∧ Rp K mg rho F v d := by
  induction ds generalizing vs with
  | nil => cases r; intro i d h; simp at h
  | cons e ds ih =>
    cases r with
    | cons h t =>
      intro i d hd
      cases i with
      | zero => simp at hd; subst hd; exact ⟨_, rfl, h⟩
      | succ i => obtain ⟨v, q1, q2⟩ := ih t (i := i) (v := d) (by simpa using hd); exact ⟨v, by simpa using q1, q2⟩
theorem RpL.set {vs : List V} {ds : List D} (r : RpL K mg rho F vs ds) {v : V} {d : D} (h : Rp K mg rho F v d) : ∀ i : Nat, RpL K mg rho F (vs.set i v) (ds.set i d) := by
  induction ds generalizing vs with
  | nil => cases r; intro i; exact .nil
  | cons e ds ih =>
    cases r with
    | cons h0 t =>
      intro i
      cases i with
      | zero => exact .cons h t
      | succ i => exact .cons h0 (ih t i)
theorem RpL.take {vs : List V} {ds : List D} (r : RpL K mg rho F vs ds) : ∀ n : Nat, RpL K mg rho F (vs.take n) (ds.take n) := by
  induction ds generalizing vs with
  | nil => cases r; intro n; simp; exact .nil
  | cons e ds ih =>
    cases r with
    | cons h0 t =>
      intro n
      cases n with
      | zero => exact .nil
      | succ n => exact .cons h0 (ih t n)
theorem RpL.drop {vs : List V} {ds : List D} (r : RpL K mg rho F vs ds) : ∀ n : Nat, RpL K mg rho F (vs.drop n) (ds.drop n) := by
  induction ds generalizing vs with
  | nil => cases r; intro n; simp; exact .nil
  | cons e ds ih =>
    cases r with
    | cons h0 t =>
      intro n
      cases n with
      | zero => exact .cons h0 t
      | succ n => exact ih t n
theorem RpL.eraseIdx {vs : List V} {ds : List D} (r : RpL K mg rho F vs ds) : ∀ n : Nat, RpL K mg rho F (vs.eraseIdx n) (ds.eraseIdx n) := by
  induction ds generalizing vs with
  | nil => cases r; intro n; exact .nil
  | cons e ds ih =>
    cases r with
    | cons h0 t =>
      intro n
      cases n with
      | zero => exact t
      | succ n => exact .cons h0 (ih t n)
theorem RpL.strs {vs : List V} {xs : List Str} (r : RpL K mg rho F vs (xs.map D.str)) : vs = xs.map V.str := by
  induction xs generalizing vs with
  | nil => cases r; rfl
  | cons x xs ih => cases r with | cons h t => cases h; rw [ih t]; rfl
theorem RpL.intsE {vs : List V} {xs : List Int} (r : RpL K mg rho F vs (xs.map D.int)) : vs = xs.map V.int := by
  induction xs generalizing vs with
  | nil => cases r; rfl
  | cons x xs ih => cases r with | cons h t => cases h; rw [ih t]; rfl
theorem RpL.bls {vs : List V} {xs : List Bool} (r : RpL K mg rho F vs (xs.map D.bl)) : vs = xs.map V.bl := by
  induction xs generalizing vs with
  | nil => cases r; rfl
  | cons x xs ih => cases r with | cons h t => cases h; rw [ih t]; rfl
end
/-- all ints, all texts, all bools -/
def asInts : List D → Option (List Int)
  | [] => some []
  | .int i :: r => (asInts r).map (i :: ·)
  | _ :: _ => none
def asStrs : List D → Option (List Str)
  | [] => some []
  | .str i :: r => (asStrs r).map (i :: ·)
  | _ :: _ => none
def asBls : List D → Option (List Bool)
  | [] => some []
  | .bl i :: r => (asBls r).map (i :: ·)
  | _ :: _ => none
theorem asInts_eq : ∀ {ds : List D} {ns : List Int}, asInts ds = some ns → ds = ns.map D.int
  | [], _, h => by simp [asInts] at h; subst h; rfl
  | .int i :: r, ns, h => by
    simp only [asInts, Option.map_eq_some_iff] at h
    obtain ⟨a, h1, rfl⟩ := h
    rw [asInts_eq h1]; rfl
theorem asStrs_eq : ∀ {ds : List D} {ns : List Str}, asStrs ds = some ns → ds = ns.map D.str
  | [], _, h => by simp [asStrs] at h; subst h; rfl
  | .str i :: r, ns, h => by
    simp only [asStrs, Option.map_eq_some_iff] at h
    obtain ⟨a, h1, rfl⟩ := h
    rw [asStrs_eq h1]; rfl
theorem asBls_eq : ∀ {ds : List D} {ns : List Bool}, asBls ds = some ns → ds = ns.map D.bl
  | [], _, h => by simp [asBls] at h; subst h; rfl
  | .bl i :: r, ns, h => by
    simp only [asBls, Option.map_eq_some_iff] at h
    obtain ⟨a, h1, rfl⟩ := h
    rw [asBls_eq h1]; rfl
theorem asInts_map (ns : List Int) : asInts (ns.map D.int) = some ns := by
  induction ns with
  | nil => rfl
  | cons a r ih => simp [asInts, ih]
theorem asStrs_map (ns : List Str) : asStrs (ns.map D.str) = some ns := by
  induction ns with
  | nil => rfl
  | cons a r ih => simp [asStrs, ih]
theorem asBls_map (ns : List Bool) : asBls (ns.map D.bl) = some ns := by
  induction ns with
  | nil => rfl
  | cons a r ih => simp [asBls, ih]

/-! ### operators by data -/
/-- no exception comes of it -/
abbrev RdO (K : PySem.W.Frag) (mg : Str → Option Value) (rho : List Addr) (F H : Hp) (Q : VK) (r : R D) : Prop := RdE K mg (fun _ _ _ _ => False) [] (relD K mg) rho F H Q r
def OpD (X : Cx) (f : Value → Value → Sem Value) (g : D → D → M → R D) : Prop :=
  OpR X f (fun x y H Q => ∃ rho F m d e, Abs X.K X.mg rho F H m ∧ Rp X.K X.mg rho F x d ∧ Rp X.K X.mg rho F y e ∧ RdO X.K X.mg rho F H Q (g d e m))
theorem OpR.imp {X : Cx} {f : Value → Value → Sem Value} {r r' : R2} (h : OpR X f r) (k : ∀ x y H Q, r' x y H Q → r x y H Q) : OpR X f r' := fun pins s σ H x y v u Q I r1 r2 q => h pins s σ H x y v u Q I r1 r2 (k _ _ _ _ q)
section
variable {K : PySem.W.Frag} {mg : Str → Option Value} {rho : List Addr} {F H : Hp} {m : M} {Q : VK}
/-- a value that is no object: it is there -/
theorem RdO.here {d : D} {v : V} (h : RdO K mg rho F H Q (.ok d m)) (A : Abs K mg rho F H m) (r : Rp K mg rho F v d) : Q v H := h v rho F H Step.refl A r
theorem RdO.newT {ds : List D} {vs : List V} {p : Addr} (h : RdO K mg rho F H Q (.ok (.tup ds) m)) (A : Abs K mg rho F H m) (r : RpL K mg rho F vs ds) (np : H p = none) : Q (.ref p) (upd H p (.tup vs)) := by
  obtain ⟨st, A'⟩ := A.fresh (o := .tup vs) np
  exact h _ _ _ _ st A' (.tup (SqT.of upd_same) (r.mono st.onto))
theorem RdO.newL {ds : List D} {vs : List V} {p : Addr} (h : RdO K mg rho F H Q (.ok (.lst ds) m)) (A : Abs K mg rho F H m) (r : RpL K mg rho F vs ds) (np : H p = none) : Q (.ref p) (upd H p (.lst vs)) := by
  obtain ⟨st, A'⟩ := A.fresh (o := .lst vs) np
  exact h _ _ _ _ st A' (.lst upd_same (r.mono st.onto))
end
def addD (d e : D) (m : M) : R D := match d, e with
  | .int i, .int j => .ok (.int (i + j)) m
  | .str x, .str y => if x.length + y.length ≤ sizeLine then .ok (.str (x ++ y)) m else .no
  | .tup xs, .tup ys => if xs.length + ys.length ≤ sizeLine then .ok (.tup (xs ++ ys)) m else .no
  | d, e => match viewL d m, viewL e m with
    | some xs, some ys => if xs.length + ys.length ≤ sizeLine then .ok (.lst (xs ++ ys)) m else .no
    | _, _ => .no
def subD (d e : D) (m : M) : R D := match d, e with
  | .int i, .int j => .ok (.int (i - j)) m
  | _, _ => .no
def mulD (d e : D) (m : M) : R D := match d, e with
  | .int i, .int j => if i.natAbs.log2 + j.natAbs.log2 < 1000000 then .ok (.int (i * j)) m else .no
  | _, _ => .no
def fdivD (d e : D) (m : M) : R D := match d, e with
  | .int i, .int j => if j ≠ 0 ∧ j.natAbs.log2 < 9000 then .ok (.int (i.fdiv j)) m else .no
  | _, _ => .no
def modD (d e : D) (m : M) : R D := match d, e with
  | .int i, .int j => if j ≠ 0 then .ok (.int (i.fmod j)) m else .no
  | _, _ => .no
def powD (d e : D) (m : M) : R D := match d, e with
  | .int i, .int j => if 0 ≤ j ∧ (Builtin.Int.intBits i : Int) * j ≤ 2 ^ 27 then .ok (.int (i ^ j.toNat)) m else .no
  | _, _ => .no
section
variable {X : Cx}
theorem op_fdivA : OpR X (binaryOp .FloorDiv) (rI (fun _ j => j ≠ 0 ∧ j.natAbs.log2 < 9000) fun i j => .int (i.fdiv j)) :=
  opI fun _ _ _ _ _ _ _ hc q => PyProof.Rows.floordiv_int hc.1 q (.inl (PyProof.noPylong_of_log2 hc.2))
theorem op_powA : OpR X (binaryOp .Pow) (rI (fun i j => 0 ≤ j ∧ (Builtin.Int.intBits i : Int) * j ≤ 2 ^ 27) fun i j => .int (i ^ j.toNat)) :=
  opI fun _ _ _ _ _ _ _ hc q => PyProof.Rows.pow_int hc.1 hc.2 q
theorem od_sub : OpD X (binaryOp .Sub) subD := OpR.imp op_sub (by
  rintro x y H Q ⟨rho, F, m, d, e, A, r1, r2, h⟩
  unfold subD at h
  split at h
  · cases r1; cases r2; exact ⟨_, _, rfl, rfl, h.here A .int⟩
  · exact h.elim)
theorem od_mul : OpD X (binaryOp .Mult) mulD := OpR.imp op_mulW (by
  rintro x y H Q ⟨rho, F, m, d, e, A, r1, r2, h⟩
  unfold mulD at h
  split at h
  · split at h
    · rename_i hc
      cases r1; cases r2; exact ⟨_, _, rfl, rfl, hc, h.here A .int⟩
    · exact h.elim
  · exact h.elim)
theorem od_fdiv : OpD X (binaryOp .FloorDiv) fdivD := OpR.imp op_fdivA (by
  rintro x y H Q ⟨rho, F, m, d, e, A, r1, r2, h⟩
  unfold fdivD at h
  split at h
  · split at h
    · rename_i hc
      cases r1; cases r2; exact ⟨_, _, rfl, rfl, hc, h.here A .int⟩
    · exact h.elim
  · exact h.elim)
theorem od_mod : OpD X (binaryOp .Mod) modD := OpR.imp op_modN (by
  rintro x y H Q ⟨rho, F, m, d, e, A, r1, r2, h⟩
  unfold modD at h
  split at h
  · split at h
    · rename_i hc
      cases r1; cases r2; exact ⟨_, _, rfl, rfl, hc, h.here A .int⟩
    · exact h.elim
  · exact h.elim)
theorem od_pow : OpD X (binaryOp .Pow) powD := OpR.imp op_powA (by
  rintro x y H Q ⟨rho, F, m, d, e, A, r1, r2, h⟩
  unfold powD at h
  split at h
  · split at h
    · rename_i hc
      cases r1; cases r2; exact ⟨_, _, rfl, rfl, hc, h.here A .int⟩
    · exact h.elim
  · exact h.elim)
theorem od_add : OpD X (binaryOp .Add) addD := OpR.imp (op_add.or (op_add_str.or (op_catA.or op_cat))) (by
  rintro x y H Q ⟨rho, F, m, d, e, A, r1, r2, h⟩
  unfold addD at h
  split at h
  · cases r1; cases r2; exact .inl ⟨_, _, rfl, rfl, h.here A .int⟩
  · split at h
    · rename_i hc
      cases r1; cases r2; exact .inr (.inl ⟨_, _, rfl, rfl, hc, h.here A .str⟩)
    · exact h.elim
  · split at h
    · rename_i hc
      obtain ⟨p, vs, rfl, hp, q1⟩ := r1.tupH A
      obtain ⟨q, ws, rfl, hq, q2⟩ := r2.tupH A
      refine .inr (.inr (.inl ⟨p, q, vs, ws, rfl, rfl, hp, hq, by rw [q1.length, q2.length]; exact hc, fun e => ?_, fun e1 e2 => ?_, fun e1 e2 r nr => h.newT A (q1.append q2) nr⟩))
      · subst e; cases q1; exact h.here A r2
      · subst e2; cases q2; rw [List.append_nil] at h; exact h.here A r1
    · exact h.elim
  · split at h
    · split at h
      · rename_i h1 h2 hc
        obtain ⟨p, vs, rfl, hp, q1⟩ := r1.viewL A h1
        obtain ⟨q, ws, rfl, hq, q2⟩ := r2.viewL A h2
        exact .inr (.inr (.inr ⟨p, q, vs, ws, rfl, rfl, hp, hq, by rw [q1.length, q2.length]; exact hc, fun r nr => h.newL A (q1.append q2) nr⟩))
      · exact h.elim
    · exact h.elim)
end
end HB
namespace HB
open PySem L2

/-! ### data without objects, as the library's -/
mutual
def py : D → Option PyData
  | .non => some .none
  | .bl b => some (.bool b)
  | .int i => some (.int i)
  | .str x => some (.str x)
  | .tup ds => (pyL ds).map .tuple
  | .lst ds => (pyL ds).map .list
  | .dct _ => none
  | .obj _ _ => none
  | .ref _ => none
  | .scr _ => none
def pyL : List D → Option (List PyData)
  | [] => some []
  | d :: ds => match py d, pyL ds with
    | some p, some q => some (p :: q)
    | _, _ => none
end
/-- the same, a list of our own at the top -/
def pyT (d : D) (m : M) : Option PyData := match d with
  | .ref i => match m[i]? with
    | some (.lst ds) => (pyL ds).map .list
    | _ => none
  | d => py d
section
variable {K : PySem.W.Frag} {mg : Str → Option Value} {rho : List Addr} {F H : Hp}
mutual
theorem dp_of (e : Same F H) : ∀ (d : D) {x : V} {p : PyData}, Rp K mg rho F x d → py d = some p → Dp K H x p
  | .non, _, _, r, h => by cases r; simp [py] at h; subst h; exact .non
  | .bl b, _, _, r, h => by cases r; simp [py] at h; subst h; exact .bl b
  | .int i, _, _, r, h => by cases r; simp [py] at h; subst h; exact .int i
  | .str x, _, _, r, h => by cases r; simp [py] at h; subst h; exact .str x
  | .tup ds, _, _, r, h => by
    simp only [py, Option.map_eq_some_iff] at h
    obtain ⟨ps, h1, rfl⟩ := h
    cases r with
    | tup hs hr => exact .tup (sqT_mono e hs) (dpL_of e ds hr h1)
  | .lst ds, _, _, r, h => by
    simp only [py, Option.map_eq_some_iff] at h
    obtain ⟨ps, h1, rfl⟩ := h
    cases r with
    | lst hs hr => exact .lst (SqL.of (e _ _ hs)) (dpL_of e ds hr h1)
  | .dct _, _, _, _, h => by simp [py] at h
  | .obj _ _, _, _, _, h => by simp [py] at h
  | .ref _, _, _, _, h => by simp [py] at h
  | .scr _, _, _, _, h => by simp [py] at h
theorem dpL_of (e : Same F H) : ∀ (ds : List D) {xs : List V} {ps : List PyData}, RpL K mg rho F xs ds → pyL ds = some ps → DpAll K H xs ps
  | [], _, _, r, h => by cases r; simp [pyL] at h; subst h; exact .nil
  | d :: ds, _, _, r, h => by
    simp only [pyL] at h
    split at h
    · rename_i p q h1 h2
      cases h
      cases r with
      | cons r1 r2 => exact .cons (dp_of e d r1 h1) (dpL_of e ds r2 h2)
    · cases h
end
theorem dp_top {m : M} {d : D} {x : V} {p : PyData} (A : Abs K mg rho F H m) (r : Rp K mg rho F x d) (h : pyT d m = some p) : Dp K H x p := by
  unfold pyT at h
  split at h
  · split at h
    · rename_i hm
      simp only [Option.map_eq_some_iff] at h
      obtain ⟨ps, h1, rfl⟩ := h
      cases r with
      | ref hi =>
        obtain ⟨_, vs, h0, r⟩ := A.own _ _ _ hi hm
        exact .lst (SqL.of h0) (dpL_of A.ex _ r h1)
    · cases h
  · exact dp_of A.ex d r h
end

/-- == -/
def eqB (d e : D) (m : M) : R Bool := match d, e with
  | .int i, .int j => .ok (decide (i = j)) m
  | .str x, .str y => .ok (decide (x = y)) m
  | .bl x, .bl y => .ok (decide (x = y)) m
  | d, e => match pyT d m, pyT e m with
    | some p, some q => if SeqAt.shaped p = true ∧ SeqAt.shaped q = true then .ok (PyData.eqv p q) m else .no
    | _, _ => .no
def blR (r : R Bool) : R D := match r with
  | .ok b m => .ok (.bl b) m
  | .ex c m => .ex c m
  | .no => .no
def notR (r : R Bool) : R Bool := match r with
  | .ok b m => .ok (!b) m
  | .ex c m => .ex c m
  | .no => .no
def eqD (d e : D) (m : M) : R D := blR (eqB d e m)
def neD (d e : D) (m : M) : R D := blR (notR (eqB d e m))
section
variable {X : Cx}
theorem rp_bl {K : PySem.W.Frag} {mg : Str → Option Value} {rho : List Addr} {F : Hp} {b c : Bool} (h : b = c) : Rp K mg rho F (.bl b) (.bl c) := by subst h; exact .bl
theorem od_eq (hu : X.A.units + 64 < cLine) : OpD X (compareOp .Eq) eqD := OpR.imp (op_eq.or (op_eqD hu)) (by
  rintro x y H Q ⟨rho, F, m, d, e, A, r1, r2, h⟩
  unfold eqD eqB at h
  split at h
  · cases r1; cases r2; exact .inl ⟨rfl, h.here A (rp_bl (by simp))⟩
  · cases r1; cases r2; exact .inl ⟨rfl, h.here A (rp_bl (by simp))⟩
  · cases r1; cases r2; exact .inl ⟨rfl, h.here A (rp_bl (by simp))⟩
  · split at h
    · split at h
      · rename_i h1 h2 hc
        exact .inr ⟨_, _, dp_top A r1 h1, dp_top A r2 h2, hc.1, hc.2, h.here A .bl⟩
      · exact h.elim
    · exact h.elim)
theorem od_ne (hu : X.A.units + 64 < cLine) : OpD X (compareOp .NotEq) neD := OpR.imp (op_ne.or (op_neD hu)) (by
  rintro x y H Q ⟨rho, F, m, d, e, A, r1, r2, h⟩
  unfold neD eqB at h
  split at h
  · cases r1; cases r2; exact .inl ⟨rfl, h.here A (rp_bl (by simp))⟩
  · cases r1; cases r2; exact .inl ⟨rfl, h.here A (rp_bl (by simp))⟩
  · cases r1; cases r2; exact .inl ⟨rfl, h.here A (rp_bl (by simp))⟩
  · split at h
    · split at h
      · rename_i h1 h2 hc
        exact .inr ⟨_, _, dp_top A r1 h1, dp_top A r2 h2, hc.1, hc.2, h.here A .bl⟩
      · exact h.elim
    · exact h.elim)
/-! ### < <= > >= -/
def ltD (d e : D) (m : M) : R D := match d, e with
  | .int i, .int j => .ok (.bl (decide (i < j))) m
  | .str x, .str y => .ok (.bl (decide (x.cps.toList < y.cps.toList))) m
  | _, _ => .no
def leD (d e : D) (m : M) : R D := match d, e with
  | .int i, .int j => .ok (.bl (decide (i ≤ j))) m
  | .str x, .str y => .ok (.bl (!decide (y.cps.toList < x.cps.toList))) m
  | _, _ => .no
def gtD (d e : D) (m : M) : R D := ltD e d m
def geD (d e : D) (m : M) : R D := leD e d m
theorem od_lt : OpD X (compareOp .Lt) ltD := OpR.imp (op_lt.or op_lt_str) (by
  rintro x y H Q ⟨rho, F, m, d, e, A, r1, r2, h⟩
  unfold ltD at h
  split at h
  · cases r1; cases r2; exact .inl ⟨_, _, rfl, rfl, h.here A .bl⟩
  · cases r1; cases r2; exact .inr ⟨_, _, rfl, rfl, h.here A .bl⟩
  · exact h.elim)
theorem od_le : OpD X (compareOp .LtE) leD := OpR.imp (op_le.or op_le_str) (by
  rintro x y H Q ⟨rho, F, m, d, e, A, r1, r2, h⟩
  unfold leD at h
  split at h
  · cases r1; cases r2; exact .inl ⟨_, _, rfl, rfl, h.here A .bl⟩
  · cases r1; cases r2; exact .inr ⟨_, _, rfl, rfl, h.here A .bl⟩
  · exact h.elim)
theorem od_gt : OpD X (compareOp .Gt) gtD := OpR.imp (op_gt.or op_gt_str) (by
  rintro x y H Q ⟨rho, F, m, d, e, A, r1, r2, h⟩
  unfold gtD ltD at h
  split at h
  · cases r1; cases r2; exact .inl ⟨_, _, rfl, rfl, h.here A .bl⟩
  · cases r1; cases r2; exact .inr ⟨_, _, rfl, rfl, h.here A .bl⟩
  · exact h.elim)
theorem od_ge : OpD X (compareOp .GtE) geD := OpR.imp (op_ge.or op_ge_str) (by
  rintro x y H Q ⟨rho, F, m, d, e, A, r1, r2, h⟩
  unfold geD leD at h
  split at h
  · cases r1; cases r2; exact .inl ⟨_, _, rfl, rfl, h.here A .bl⟩
  · cases r1; cases r2; exact .inr ⟨_, _, rfl, rfl, h.here A .bl⟩
  · exact h.elim)
/-! ### is None -/
def isND (d e : D) (m : M) : R D := match e with
  | .non => match d with
    | .non => .ok (.bl true) m
    | _ => .ok (.bl false) m
  | _ => .no
def notND (d e : D) (m : M) : R D := match e with
  | .non => match d with
    | .non => .ok (.bl false) m
    | _ => .ok (.bl true) m
  | _ => .no
theorem rp_non {K : PySem.W.Frag} {mg : Str → Option Value} {rho : List Addr} {F : Hp} {x : V} {d : D} (r : Rp K mg rho F x d) (h : d ≠ .non) : x ≠ .non := by
  cases r <;> first | exact absurd rfl h | (intro z; cases z)
theorem od_isN : OpD X (compareOp .Is) isND := OpR.imp op_isN (by
  rintro x y H Q ⟨rho, F, m, d, e, A, r1, r2, h⟩
  unfold isND at h
  split at h
  · cases r2
    split at h
    · cases r1; exact ⟨rfl, h.here A (rp_bl (by simp))⟩
    · rename_i hd
      exact ⟨rfl, h.here A (rp_bl (decide_eq_false (rp_non r1 hd)))⟩
  · exact h.elim)
theorem od_notN : OpD X (compareOp .IsNot) notND := OpR.imp op_notN (by
  rintro x y H Q ⟨rho, F, m, d, e, A, r1, r2, h⟩
  unfold notND at h
  split at h
  · cases r2
    split at h
    · cases r1; exact ⟨rfl, h.here A (rp_bl (by simp))⟩
    · rename_i hd
      exact ⟨rfl, h.here A (rp_bl (by rw [decide_eq_false (rp_non r1 hd)]; rfl))⟩
  · exact h.elim)
end
/-! ### in -/
def flatD : D → Bool
  | .non => true | .bl _ => true | .int _ => true | .str _ => true | _ => false
def eqF : D → D → Bool
  | .non, .non => true
  | .bl a, .bl b => a == b
  | .bl a, .int b => (if a then 1 else 0) == b
  | .int a, .bl b => a == (if b then 1 else 0)
  | .int a, .int b => a == b
  | .str a, .str b => a == b
  | _, _ => false
def inB (d e : D) (m : M) : R Bool := match e with
  | .str y => match d with
    | .str x => .ok (!(Builtin.Str.occurrences y x 0 y.length 1).isEmpty) m
    | _ => .no
  | e => match viewQ e m with
    | some ds => if flatD d && ds.all flatD then .ok (ds.any fun y => eqF y d) m else
      match pyT d m, pyT e m with
      | some p, some (.list q) => if SeqAt.shaped p = true ∧ SeqAt.shaped (.list q) = true then .ok (q.any fun z => PyData.eqv z p) m else .no
      | _, _ => .no
    | none => .no
def inD (d e : D) (m : M) : R D := blR (inB d e m)
def notInD (d e : D) (m : M) : R D := blR (notR (inB d e m))
section
variable {K : PySem.W.Frag} {mg : Str → Option Value} {rho : List Addr} {F H : Hp}
theorem flat_of {x : V} {d : D} (r : Rp K mg rho F x d) (h : flatD d = true) : flatV x = true := by
  cases r <;> first | rfl | cases h
theorem eqF_of {x y : V} {d e : D} (r : Rp K mg rho F x d) (q : Rp K mg rho F y e) (h : flatD d = true) (h' : flatD e = true) : eqV x y = eqF d e := by
  cases r <;> cases q <;> first | rfl | (simp [flatD] at h; done) | (simp [flatD] at h'; done)
theorem flatL_of {xs : List V} {ds : List D} (r : RpL K mg rho F xs ds) (h : ds.all flatD = true) : xs.all flatV = true := by
  induction ds generalizing xs with
  | nil => cases r; rfl
  | cons d ds ih =>
    simp only [List.all_cons, Bool.and_eq_true] at h
    cases r with
    | cons r1 r2 => simp only [List.all_cons, Bool.and_eq_true]; exact ⟨flat_of r1 h.1, ih r2 h.2⟩
theorem inV_of {x : V} {d : D} {xs : List V} {ds : List D} (r : Rp K mg rho F x d) (rs : RpL K mg rho F xs ds) (h : flatD d = true) (hs : ds.all flatD = true) : inV x xs = ds.any fun y => eqF y d := by
  unfold inV
  induction ds generalizing xs with
  | nil => cases rs; rfl
  | cons e ds ih =>
    simp only [List.all_cons, Bool.and_eq_true] at hs
    cases rs with
    | cons r1 r2 => simp only [List.any_cons]; rw [eqF_of r1 r hs.1 h, ih r2 hs.2]
end
section
variable {X : Cx}
theorem od_in (hu : X.A.units + 65 < cLine) : OpD X (compareOp .In) inD := OpR.imp (op_in_str.or (op_in_seq.or (op_inD hu))) (by
  rintro x y H Q ⟨rho, F, m, d, e, A, r1, r2, h⟩
  unfold inD inB at h
  split at h
  · split at h
    · cases r1; cases r2; exact .inl ⟨_, _, rfl, rfl, h.here A .bl⟩
    · exact h.elim
  · split at h
    · rename_i ds hv
      obtain ⟨p, vs, rfl, hp, q1⟩ := r2.viewQ A hv
      split at h
      · rename_i hc
        simp only [Bool.and_eq_true] at hc
        refine .inr (.inl ⟨p, vs, rfl, hp, flat_of r1 hc.1, flatL_of q1 hc.2, ?_⟩)
        exact h.here A (rp_bl (by rw [if_neg Bool.false_ne_true]; exact inV_of r1 q1 hc.1 hc.2))
      · split at h
        · split at h
          · rename_i h1 h2 hc
            exact .inr (.inr ⟨_, _, dp_top A r1 h1, dp_top A r2 h2, hc.1, hc.2, h.here A .bl⟩)
          · exact h.elim
        · exact h.elim
    · exact h.elim)
theorem od_notIn (hu : X.A.units + 65 < cLine) : OpD X (compareOp .NotIn) notInD := OpR.imp (op_notin_str.or (op_notIn_seq.or (op_notInD hu))) (by
  rintro x y H Q ⟨rho, F, m, d, e, A, r1, r2, h⟩
  unfold notInD inB at h
  split at h
  · split at h
    · cases r1; cases r2; exact .inl ⟨_, _, rfl, rfl, h.here A .bl⟩
    · exact h.elim
  · split at h
    · rename_i ds hv
      obtain ⟨p, vs, rfl, hp, q1⟩ := r2.viewQ A hv
      split at h
      · rename_i hc
        simp only [Bool.and_eq_true] at hc
        refine .inr (.inl ⟨p, vs, rfl, hp, flat_of r1 hc.1, flatL_of q1 hc.2, ?_⟩)
        exact h.here A (rp_bl (by rw [if_pos rfl, inV_of r1 q1 hc.1 hc.2]))
      · split at h
        · split at h
          · rename_i h1 h2 hc
            exact .inr (.inr ⟨_, _, dp_top A r1 h1, dp_top A r2 h2, hc.1, hc.2, h.here A .bl⟩)
          · exact h.elim
        · exact h.elim
    · exact h.elim)
end
end HB
namespace HB
open PySem L2

/-! ### repr -/
mutual
def pyR : D → Option PyData
  | .non => some .none
  | .bl b => some (.bool b)
  | .int i => some (.int i)
  | .str x => some (.str x)
  | .tup ds => (pyRL ds).map .tuple
  | .lst ds => (pyRL ds).map .list
  | .dct kvs => (pyRK kvs).map .dict
  | .obj _ _ => none
  | .ref _ => none
  | .scr _ => none
def pyRL : List D → Option (List PyData)
  | [] => some []
  | d :: ds => match pyR d, pyRL ds with
    | some p, some q => some (p :: q)
    | _, _ => none
def pyRK : List (D × D) → Option (List (PyData × PyData))
  | [] => some []
  | (k, d) :: ds => match pyR k, pyR d, pyRK ds with
    | some p, some q, some r => some ((p, q) :: r)
    | _, _, _ => none
end
def pyRT (d : D) (m : M) : Option PyData := match d with
  | .ref i => match m[i]? with
    | some (.lst ds) => (pyRL ds).map .list
    | some (.dct ds) => (pyRK ds).map .dict
    | _ => none
  | d => pyR d
def keyP : Key → PyData
  | .inl i => .int i
  | .inr x => .str x
theorem pyR_key (k : Key) : pyR (keyD k) = some (keyP k) := by cases k <;> rfl
theorem pyRL_keys : ∀ ks : List Key, pyRL (ks.map keyD) = some (ks.map keyP)
  | [] => rfl
  | k :: ks => by simp [pyRL, pyR_key, pyRL_keys ks]
section
variable {X : Cx} {pins : List (Addr × Obj)} {σ : L2.St} {H : Hp} {s : Shared} {K : PySem.W.Frag} {mg : Str → Option Value} {rho : List Addr} {F : Hp}
theorem reads_key {h : Heap} {k : Key} {v : Value} (e : keyIs k v = true) : Reads h v (keyP k) [] := by
  rcases keyIs_shape e with ⟨i, t, rfl, rfl⟩ | ⟨x, t, rfl, rfl⟩
  · exact .int i t
  · exact .str x t
theorem reads_tkey (I : Inv X pins σ H s) {a : Addr} {k : List Key} (h : H a = some (.tup (k.map kV))) : Reads s.heap (.ref a) (.tuple (k.map keyP)) [] := by
  obtain ⟨its, rv, ⟨o, ho, hc, n, hd⟩, _⟩ := I.tuple (SqT.of h)
  refine .tuple ho hc hd ?_
  have all : ∀ (k : List Key) (us : List Value), Vals (k.map kV) us → ReadsAll s.heap us (k.map keyP) [] := by
    intro k
    induction k with
    | nil => intro us r; cases r; exact .nil
    | cons x k ih =>
      intro us r
      cases r with
      | cons r1 r2 =>
        refine ReadsAll.cons (as := []) (bs := []) ?_ (ih _ r2)
        cases x with
        | inl i => obtain ⟨t, rfl⟩ := r1; exact .int i t
        | inr x => obtain ⟨t, rfl⟩ := r1; exact .str x t
  exact all k its (by simpa using rv)
/-- the addresses of what was read are tracked -/
def Trk (H : Hp) (as : List Addr) : Prop := ∀ b ∈ as, ∃ o, H b = some o
theorem Trk.app {as bs : List Addr} (h : Trk H as) (h' : Trk H bs) : Trk H (as ++ bs) := fun b hb => by
  rcases List.mem_append.mp hb with z | z
  · exact h b z
  · exact h' b z
mutual
theorem reads_of (I : Inv X pins σ H s) (e : Same F H) : ∀ (d : D) {x : V} {p : PyData} {u : Value}, Rp X.K mg rho F x d → pyR d = some p → RelV x u → ∃ as, Reads s.heap u p as ∧ Trk H as
  | .non, _, _, _, r, h, q => by cases r; cases h; cases q; exact ⟨_, .none, nofun⟩
  | .bl b, _, _, _, r, h, q => by cases r; cases h; cases q; exact ⟨_, .bool b, nofun⟩
  | .int i, _, _, _, r, h, q => by cases r; cases h; obtain ⟨t, rfl⟩ := q; exact ⟨_, .int i t, nofun⟩
  | .str x, _, _, _, r, h, q => by cases r; cases h; obtain ⟨t, rfl⟩ := q; exact ⟨_, .str x t, nofun⟩
  | .tup ds, _, _, _, r, h, q => by
    simp only [pyR, Option.map_eq_some_iff] at h
    obtain ⟨ps, h1, rfl⟩ := h
    cases r with
    | tup hs hr =>
      cases q
      obtain ⟨its, rv, ⟨o, ho, hc, n, hd⟩, _⟩ := I.tuple (sqT_mono e hs)
      obtain ⟨as, hr, ha⟩ := readsL_of I e ds hr h1 rv
      exact ⟨_, .tuple ho hc hd hr, ha⟩
  | .lst ds, _, _, _, r, h, q => by
    simp only [pyR, Option.map_eq_some_iff] at h
    obtain ⟨ps, h1, rfl⟩ := h
    cases r with
    | lst hs hr =>
      cases q
      obtain ⟨its, rv, ⟨o, n, ho, hc, _, hd⟩, _⟩ := I.list (SqL.of (e _ _ hs))
      obtain ⟨as, hr, ha⟩ := readsL_of I e ds hr h1 rv
      refine ⟨_, .list ho hc hd hr, fun b hb => ?_⟩
      rcases List.mem_cons.mp hb with z | z
      · rw [z]; exact ⟨_, e _ _ hs⟩
      · exact ha b z
  | .dct kvs, _, _, _, r, h, q => by
    simp only [pyR, Option.map_eq_some_iff] at h
    obtain ⟨ps, h1, rfl⟩ := h
    cases r with
    | dK hs hr =>
      cases q
      obtain ⟨_, _, vs, kv, o, es, ep, ho, hx, hd, _, hp, _⟩ := (show ObjOk X.prog X.w H s.heap _ (.dK _) from I.hok _ _ (e _ _ hs))
      obtain ⟨as, q1, q2, ha⟩ := readsK_of I e kvs hr h1 kv hp
      refine ⟨_, .dict ho hx.1 hd q1 q2, fun b hb => ?_⟩
      simp only [List.append_nil, List.cons_append, List.mem_cons, List.nil_append] at hb
      rcases hb with z | z
      · rw [z]; exact ⟨_, e _ _ hs⟩
      · exact ha b z
    | dT hs hr =>
      cases q
      obtain ⟨_, _, xs, kv, o, es, ep, ho, hx, hd, hes, _⟩ := (show ObjOk X.prog X.w H s.heap _ (.dT _) from I.hok _ _ (e _ _ hs))
      obtain ⟨as, q1, q2, ha⟩ := readsT_of I e kvs hr h1 kv hes
      refine ⟨_, .dict ho hx.1 hd q1 q2, fun b hb => ?_⟩
      simp only [List.append_nil, List.cons_append, List.mem_cons, List.nil_append] at hb
      rcases hb with z | z
      · rw [z]; exact ⟨_, e _ _ hs⟩
      · exact ha b z
  | .obj _ _, _, _, _, _, h, _ => by cases h
  | .ref _, _, _, _, _, h, _ => by cases h
  | .scr _, _, _, _, _, h, _ => by cases h
theorem readsL_of (I : Inv X pins σ H s) (e : Same F H) : ∀ (ds : List D) {xs : List V} {ps : List PyData} {us : List Value}, RpL X.K mg rho F xs ds → pyRL ds = some ps → Vals xs us → ∃ as, ReadsAll s.heap us ps as ∧ Trk H as
  | [], _, _, _, r, h, q => by cases r; cases h; cases q; exact ⟨_, .nil, nofun⟩
  | d :: ds, _, _, _, r, h, q => by
    simp only [pyRL] at h
    split at h
    · rename_i h1 h2
      cases h
      cases r with
      | cons r1 r2 =>
        cases q with
        | cons q1 q2 =>
          obtain ⟨as, a1, t1⟩ := reads_of I e d r1 h1 q1
          obtain ⟨bs, a2, t2⟩ := readsL_of I e ds r2 h2 q2
          exact ⟨_, .cons a1 a2, t1.app t2⟩
    · cases h
theorem readsK_of (I : Inv X pins σ H s) (e : Same F H) : ∀ (ds : List (D × D)) {xs : List (Key × V)} {ps : List (PyData × PyData)} {us : List (Key × Value)} {es : List DictEntry}, RpK X.K mg rho F xs ds → pyRK ds = some ps → KV xs us → Pairs (mixKind X.prog X.w) es us →
    ∃ as, ReadsAll s.heap (es.map (·.key)) (ps.map (·.1)) [] ∧ ReadsAll s.heap (es.map (·.val)) (ps.map (·.2)) as ∧ Trk H as
  | [], _, _, _, _, r, h, q, z => by cases r; cases h; cases q; cases z; exact ⟨_, .nil, .nil, nofun⟩
  | (k, d) :: ds, _, _, _, _, r, h, q, z => by
    simp only [pyRK] at h
    split at h
    · rename_i h0 h1 h2
      cases h
      cases r with
      | cons r1 r2 =>
        rw [pyR_key] at h0
        cases h0
        cases q with
        | cons q1 q2 =>
          cases z with
          | cons z1 z2 z3 =>
            obtain ⟨e1, e2⟩ := q1
            rename_i ent _
            rw [← z2] at e2
            obtain ⟨as, a1, t1⟩ := reads_of I e d r1 h1 e2
            obtain ⟨bs, b0, b1, t2⟩ := readsK_of I e ds r2 h2 q2 z3
            refine ⟨_, ReadsAll.cons (as := []) (bs := []) (reads_key ?_) b0, .cons a1 b1, t1.app t2⟩
            rw [mixKind_is, ← e1] at z1
            exact z1
    · cases h
theorem readsT_of (I : Inv X pins σ H s) (e : Same F H) : ∀ (ds : List (D × D)) {xs : List (List Key × V)} {ps : List (PyData × PyData)} {us : List (List Key × Addr × Value)} {es : List DictEntry}, RpT X.K mg rho F xs ds → pyRK ds = some ps →
    Paired (fun (p : List Key × V) (q : List Key × Addr × Value) => p.1 = q.1 ∧ H q.2.1 = some (.tup (p.1.map kV)) ∧ RelV p.2 q.2.2) xs us → es = us.map (entryOfKey (tupleKind (mixKind X.prog X.w))) →
    ∃ as, ReadsAll s.heap (es.map (·.key)) (ps.map (·.1)) [] ∧ ReadsAll s.heap (es.map (·.val)) (ps.map (·.2)) as ∧ Trk H as
  | [], _, _, _, _, r, h, q, z => by cases r; cases h; cases q; subst z; exact ⟨_, .nil, .nil, nofun⟩
  | (k, d) :: ds, _, _, _, _, r, h, q, z => by
    simp only [pyRK] at h
    split at h
    · rename_i h0 h1 h2
      cases h
      cases r with
      | cons r1 r2 =>
        simp only [pyR, pyRL_keys, Option.map_some, Option.some.injEq] at h0
        subst h0
        cases q with
        | cons q1 q2 =>
          subst z
          obtain ⟨e1, e2, e3⟩ := q1
          obtain ⟨as, a1, t1⟩ := reads_of I e d r1 h1 e3
          obtain ⟨bs, b0, b1, t2⟩ := readsT_of I e ds r2 h2 q2 rfl
          exact ⟨_, ReadsAll.cons (as := []) (bs := []) (reads_tkey I e2) b0, .cons a1 b1, t1.app t2⟩
    · cases h
end
theorem reads_top (I : Inv X pins σ H s) {m : M} {d : D} {x : V} {p : PyData} {u : Value} (A : Abs X.K mg rho F H m) (r : Rp X.K mg rho F x d) (h : pyRT d m = some p) (q : RelV x u) : ∃ as, Reads s.heap u p as ∧ Trk H as := by
  unfold pyRT at h
  split at h
  · split at h
    · rename_i hm
      simp only [Option.map_eq_some_iff] at h
      obtain ⟨ps, h1, rfl⟩ := h
      cases r with
      | ref hi =>
        obtain ⟨_, vs, h0, r⟩ := A.own _ _ _ hi hm
        cases q
        obtain ⟨its, rv, ⟨o, n, ho, hc, _, hd⟩, _⟩ := I.list (SqL.of h0)
        obtain ⟨as, hr, ha⟩ := readsL_of I A.ex _ r h1 rv
        refine ⟨_, .list ho hc hd hr, fun b hb => ?_⟩
        rcases List.mem_cons.mp hb with z | z
        · rw [z]; exact ⟨_, h0⟩
        · exact ha b z
    · rename_i hm
      simp only [Option.map_eq_some_iff] at h
      obtain ⟨ps, h1, rfl⟩ := h
      cases r with
      | ref hi =>
        obtain ⟨_, ⟨ks, h0, r⟩ | ⟨ks, h0, r⟩⟩ := A.own _ _ _ hi hm
        · cases q
          obtain ⟨_, _, vs, kv, o, es, ep, ho, hx, hd, _, hp, _⟩ := (show ObjOk X.prog X.w H s.heap _ (.dK _) from I.hok _ _ h0)
          obtain ⟨as, q1, q2, ha⟩ := readsK_of I A.ex _ r h1 kv hp
          refine ⟨_, .dict ho hx.1 hd q1 q2, fun b hb => ?_⟩
          simp only [List.append_nil, List.cons_append, List.mem_cons, List.nil_append] at hb
          rcases hb with z | z
          · rw [z]; exact ⟨_, h0⟩
          · exact ha b z
        · cases q
          obtain ⟨_, _, xs, kv, o, es, ep, ho, hx, hd, hes, _⟩ := (show ObjOk X.prog X.w H s.heap _ (.dT _) from I.hok _ _ h0)
          obtain ⟨as, q1, q2, ha⟩ := readsT_of I A.ex _ r h1 kv hes
          refine ⟨_, .dict ho hx.1 hd q1 q2, fun b hb => ?_⟩
          simp only [List.append_nil, List.cons_append, List.mem_cons, List.nil_append] at hb
          rcases hb with z | z
          · rw [z]; exact ⟨_, h0⟩
          · exact ha b z
    · cases h
  · exact reads_of I A.ex d r h q
end
/-! ### calls of built-ins by data -/
def CallD (X : Cx) (f : Value) (g : List D → M → R D) : Prop :=
  CallR X f (fun xs H Q => ∃ rho F m ds, Abs X.K X.mg rho F H m ∧ RpL X.K X.mg rho F xs ds ∧ RdO X.K X.mg rho F H Q (g ds m))
def reprD (ds : List D) (m : M) : R D := match ds with
  | [d] => match pyRT d m with
    | some p => if p.showable = true ∧ p.depth ≤ 64 ∧ p.shown.length ≤ sizeLine then .ok (.str p.shown) m else .no
    | none => .no
  | _ => .no
section
variable {X : Cx}
theorem cd_repr (hg : X.A.guards = some []) (hu : X.A.units + 130 < cLine) (hb : ∃ o, X.base.get? sysModules = some o) : CallD X (.builtin "repr") reprD := by
  rintro pins s σ H xs us Q I r ⟨rho, F, m, ds, A, rr, h⟩
  unfold reprD at h
  split at h
  · split at h
    · split at h
      · rename_i d p hp hc
        obtain ⟨h1, h2, h3⟩ := hc
        cases rr with
        | cons rr1 rr2 =>
          cases rr2
          obtain ⟨u, rfl, ru⟩ := Vals.one r
          obtain ⟨as, rd, tk⟩ := reads_top I A rr1 hp ru
          have sm : sysModules ∉ as := fun z => by
            obtain ⟨o, q⟩ := tk _ z
            obtain ⟨ob, hob⟩ := hb
            rw [(I.bs _ _ hob).2] at q; cases q
          have fin : ∀ (h' : Heap) (u : Tok) (tk : Nat), (∀ b o, s.heap.get? b = some o → h'.get? b = some o) → EP X pins σ Q (.str p.shown u) { s with heap := h', toks := tk } := fun h' u tk k =>
            ⟨.str _, H, I.kept (t' := tk) k, ⟨_, rfl⟩, h.here A .str⟩
          cases rd with
          | none => exact PySem.P.repr_of_none (fin s.heap _ _ fun _ _ e => e)
          | bool b => exact PySem.P.repr_of_bool (fin s.heap _ _ fun _ _ e => e)
          | int i t => exact PySem.P.repr_of_int (by simpa [PyData.showable] using h1) (fin s.heap _ _ fun _ _ e => e)
          | str x t => exact PySem.P.repr_of_str (fin s.heap _ _ fun _ _ e => e) h3
          | list a1 a2 a3 a4 => exact repr_of_reads' (.list a1 a2 a3 a4) h1 (fun _ => sm) hg (by omega) (fun _ _ e => e) fin h3
          | tuple a1 a2 a3 a4 => exact repr_of_reads' (.tuple a1 a2 a3 a4) h1 (fun _ => sm) hg (by omega) (fun _ _ e => e) fin h3
          | dict a1 a2 a3 a4 a5 => exact repr_of_reads' (.dict a1 a2 a3 a4 a5) h1 (fun _ => sm) hg (by omega) (fun _ _ e => e) fin h3
      · exact h.elim
    · exact h.elim
  · exact h.elim
end
end HB
namespace HB
open PySem L2

theorem CallR.imp {X : Cx} {f : Value} {r r' : List V → Hp → VK → Prop} (h : CallR X f r) (k : ∀ xs H Q, r' xs H Q → r xs H Q) : CallR X f r' := fun pins s σ H xs us Q I r1 q => h pins s σ H xs us Q I r1 (k _ _ _ q)
section
variable {K : PySem.W.Frag} {mg : Str → Option Value} {rho : List Addr} {F H : Hp} {m : M} {Q : VK}
theorem RdO.newLM {ds : List D} {vs : List V} {p : Addr} (h : RdO K mg rho F H Q (.ok (.ref m.length) (m ++ [.lst ds]))) (A : Abs K mg rho F H m) (r : RpL K mg rho F vs ds) (np : H p = none) : Q (.ref p) (upd H p (.lst vs)) := by
  have on : Onto rho F (rho ++ [p]) F := ⟨fun {i x} h => by rw [List.getElem?_append_left (List.getElem?_eq_some_iff.mp h).1]; exact h, Same.refl F⟩
  have nF : F p = none := by
    cases e : F p with
    | none => rfl
    | some u => rw [A.ex p u e] at np; cases np
  obtain ⟨st, A'⟩ := A.alloc (o := .lst vs) (x := .lst ds) np ⟨nF, vs, upd_same, r.mono on⟩
  refine h _ _ _ _ st A' (.ref ?_)
  rw [← A.len, List.getElem?_append_right (Nat.le_refl _)]
  simp
end
/-! ### truth -/
def truthB (d : D) (m : M) : R Bool := match d with
  | .non => .ok false m
  | .bl b => .ok b m
  | .int i => .ok (i != 0) m
  | .str y => if y.length ≤ sizeLine then .ok ((y.length : Int) != 0) m else .no
  | d => match viewQ d m with
    | some ds => .ok (!ds.isEmpty) m
    | none => .no
section
variable {K : PySem.W.Frag} {mg : Str → Option Value} {rho : List Addr} {F H : Hp} {m : M}
theorem RpL.isEmpty {vs : List V} {ds : List D} (r : RpL K mg rho F vs ds) : vs.isEmpty = ds.isEmpty := by cases r <;> rfl
theorem truth_of {x : V} {d : D} {b : Bool} {m' : M} (A : Abs K mg rho F H m) (r : Rp K mg rho F x d) (h : truthB d m = .ok b m') : TruV K x H b ∧ m' = m := by
  unfold truthB at h
  split at h
  · cases r; cases h; exact ⟨rfl, rfl⟩
  · cases r; cases h; exact ⟨rfl, rfl⟩
  · cases r; cases h; exact ⟨rfl, rfl⟩
  · split at h
    · rename_i hc
      cases r; cases h; exact ⟨⟨hc, rfl⟩, rfl⟩
    · cases h
  · split at h
    · rename_i ds hv
      obtain ⟨p, vs, rfl, hp, q1⟩ := r.viewQ A hv
      cases h
      refine ⟨?_, rfl⟩
      rcases hp with hp | hp
      · exact .inl ⟨vs, hp, by rw [q1.isEmpty]⟩
      · exact .inr (.inl ⟨vs, hp, by rw [q1.isEmpty]⟩)
    · cases h
theorem truth_noex {d : D} {m m' : M} {c : Exc} : truthB d m ≠ .ex c m' := by
  unfold truthB
  intro h
  split at h <;> (try split at h) <;> cases h
end
/-! ### built-in functions -/
def absD (ds : List D) (m : M) : R D := match ds with
  | [.int i] => .ok (.int (if i < 0 then -i else i)) m
  | _ => .no
def maxI : List Int → Int
  | [] => 0
  | [a] => a
  | a :: r => let b := maxI r; if b > a then b else a
def minI : List Int → Int
  | [] => 0
  | [a] => a
  | a :: r => let b := minI r; if b < a then b else a
theorem maxI_spec : ∀ {ns : List Int}, ns ≠ [] → maxI ns ∈ ns ∧ ∀ y ∈ ns, y ≤ maxI ns
  | [], h => absurd rfl h
  | [a], _ => by simp [maxI]
  | a :: b :: r, _ => by
    obtain ⟨h1, h2⟩ := maxI_spec (ns := b :: r) (by simp)
    simp only [maxI]
    split
    · refine ⟨List.mem_cons_of_mem _ h1, fun y hy => ?_⟩
      rcases List.mem_cons.mp hy with e | e
      · subst e; omega
      · exact h2 y e
    · refine ⟨List.mem_cons_self, fun y hy => ?_⟩
      rcases List.mem_cons.mp hy with e | e
      · subst e; omega
      · have := h2 y e; omega
theorem minI_spec : ∀ {ns : List Int}, ns ≠ [] → minI ns ∈ ns ∧ ∀ y ∈ ns, minI ns ≤ y
  | [], h => absurd rfl h
  | [a], _ => by simp [minI]
  | a :: b :: r, _ => by
    obtain ⟨h1, h2⟩ := minI_spec (ns := b :: r) (by simp)
    simp only [minI]
    split
    · refine ⟨List.mem_cons_of_mem _ h1, fun y hy => ?_⟩
      rcases List.mem_cons.mp hy with e | e
      · subst e; omega
      · exact h2 y e
    · refine ⟨List.mem_cons_self, fun y hy => ?_⟩
      rcases List.mem_cons.mp hy with e | e
      · subst e; omega
      · have := h2 y e; omega
def maxD (ds : List D) (m : M) : R D := match ds with
  | [.int i, .int j] => .ok (.int (if j > i then j else i)) m
  | [d] => match (viewS d m).bind asInts with
    | some (n :: ns) => .ok (.int (maxI (n :: ns))) m
    | _ => .no
  | _ => .no
def minD (ds : List D) (m : M) : R D := match ds with
  | [.int i, .int j] => .ok (.int (if j < i then j else i)) m
  | [d] => match (viewS d m).bind asInts with
    | some (n :: ns) => .ok (.int (minI (n :: ns))) m
    | _ => .no
  | _ => .no
def sumD (ds : List D) (m : M) : R D := match ds with
  | [d] => match (viewS d m).bind asInts with
    | some ns => .ok (.int ns.sum) m
    | _ => .no
  | _ => .no
def intD (ds : List D) (m : M) : R D := match ds with
  | [.int i] => .ok (.int i) m
  | [.bl b] => .ok (.int (if b then 1 else 0)) m
  | _ => .no
def strD (ds : List D) (m : M) : R D := match ds with
  | [.int i] => if i.natAbs.log2 < 1920 then .ok (.str (toString i)) m else .no
  | [.str x] => .ok (.str x) m
  | _ => .no
def lenD (ds : List D) (m : M) : R D := match ds with
  | [.str x] => if x.length ≤ sizeLine then .ok (.int x.length) m else .no
  | [d] => match viewQ d m with
    | some xs => .ok (.int xs.length) m
    | none => .no
  | _ => .no
def allD (ds : List D) (m : M) : R D := match ds with
  | [d] => match (viewS d m).bind asBls with
    | some bs => .ok (.bl (bs.all id)) m
    | _ => .no
  | _ => .no
def anyD (ds : List D) (m : M) : R D := match ds with
  | [d] => match (viewS d m).bind asBls with
    | some bs => .ok (.bl (bs.any id)) m
    | _ => .no
  | _ => .no
def tupleD (ds : List D) (m : M) : R D := match ds with
  | [.tup xs] => .ok (.tup xs) m
  | [d] => match viewS d m with
    | some xs => .ok (.tup xs) m
    | none => .no
  | _ => .no
def listD (ds : List D) (m : M) : R D := match ds with
  | [d] => match viewQ d m with
    | some xs => .ok (.lst xs) m
    | none => .no
  | _ => .no
/-- a list of our own -/
def listMD (ds : List D) (m : M) : R D := match ds with
  | [d] => match viewQ d m with
    | some xs => .ok (.ref m.length) (m ++ [.lst xs])
    | none => .no
  | _ => .no
section
variable {X : Cx}
theorem bind_view {α : Type} {d : D} {m : M} {f : List D → Option α} {a : α} (h : (viewS d m).bind f = some a) : ∃ ds, viewS d m = some ds ∧ f ds = some a := by
  cases e : viewS d m with
  | none => rw [e] at h; cases h
  | some ds => rw [e] at h; exact ⟨ds, rfl, h⟩
theorem cd_abs : CallD X (.builtin "abs") absD := CallR.imp call_abs (by
  rintro xs H Q ⟨rho, F, m, ds, A, r, h⟩
  unfold absD at h
  split at h
  · cases r with | cons r1 r2 => cases r1; cases r2; exact ⟨_, rfl, h.here A .int⟩
  · exact h.elim)
theorem cd_max (hc : X.calm = true) : CallD X (.builtin "max") maxD := CallR.imp ((call_max2 hc).or (cr_max hc)) (by
  rintro xs H Q ⟨rho, F, m, ds, A, r, h⟩
  unfold maxD at h
  split at h
  · cases r with | cons r1 r2 => cases r2 with | cons r2 r3 => cases r1; cases r2; cases r3; exact .inl ⟨_, _, rfl, h.here A .int⟩
  · split at h
    · rename_i d n ns hv
      obtain ⟨ds, h1, h2⟩ := bind_view hv
      have e := asInts_eq h2
      subst e
      cases r with
      | cons r1 r2 =>
        cases r2
        obtain ⟨p, vs, rfl, hp, q1⟩ := r1.viewS A h1
        have e := q1.intsE
        subst e
        refine .inr ⟨p, _, rfl, hp, by simp, fun k hk hle => ?_⟩
        obtain ⟨g1, g2⟩ := maxI_spec (ns := n :: ns) (by simp)
        have : k = maxI (n :: ns) := by have := hle _ g1; have := g2 _ hk; omega
        rw [this]
        exact h.here A .int
    · exact h.elim
  · exact h.elim)
theorem cd_min (hc : X.calm = true) : CallD X (.builtin "min") minD := CallR.imp ((call_min2 hc).or (cr_min hc)) (by
  rintro xs H Q ⟨rho, F, m, ds, A, r, h⟩
  unfold minD at h
  split at h
  · cases r with | cons r1 r2 => cases r2 with | cons r2 r3 => cases r1; cases r2; cases r3; exact .inl ⟨_, _, rfl, h.here A .int⟩
  · split at h
    · rename_i d n ns hv
      obtain ⟨ds, h1, h2⟩ := bind_view hv
      have e := asInts_eq h2
      subst e
      cases r with
      | cons r1 r2 =>
        cases r2
        obtain ⟨p, vs, rfl, hp, q1⟩ := r1.viewS A h1
        have e := q1.intsE
        subst e
        refine .inr ⟨p, _, rfl, hp, by simp, fun k hk hle => ?_⟩
        obtain ⟨g1, g2⟩ := minI_spec (ns := n :: ns) (by simp)
        have : k = minI (n :: ns) := by have := hle _ g1; have := g2 _ hk; omega
        rw [this]
        exact h.here A .int
    · exact h.elim
  · exact h.elim)
theorem cd_sum (hc : X.calm = true) : CallD X (.builtin "sum") sumD := CallR.imp (cr_sum hc) (by
  rintro xs H Q ⟨rho, F, m, ds, A, r, h⟩
  unfold sumD at h
  split at h
  · split at h
    · rename_i d ns hv
      obtain ⟨ds, h1, h2⟩ := bind_view hv
      have e := asInts_eq h2
      subst e
      cases r with
      | cons r1 r2 =>
        cases r2
        obtain ⟨p, vs, rfl, hp, q1⟩ := r1.viewS A h1
        have e := q1.intsE
        subst e
        exact ⟨p, _, rfl, hp, h.here A .int⟩
    · exact h.elim
  · exact h.elim)
theorem cd_int : CallD X (.type "int") intD := CallR.imp call_int1 (by
  rintro xs H Q ⟨rho, F, m, ds, A, r, h⟩
  unfold intD at h
  split at h
  · cases r with | cons r1 r2 => cases r1; cases r2; exact .inl ⟨_, rfl, h.here A .int⟩
  · cases r with | cons r1 r2 => cases r1; cases r2; exact .inr ⟨_, rfl, h.here A .int⟩
  · exact h.elim)
theorem cd_str : CallD X (.type "str") strD := CallR.imp (call_str_int.or SkE.call_str_str) (by
  rintro xs H Q ⟨rho, F, m, ds, A, r, h⟩
  unfold strD at h
  split at h
  · split at h
    · rename_i hc
      cases r with | cons r1 r2 => cases r1; cases r2; exact .inl ⟨_, rfl, hc, h.here A .str⟩
    · exact h.elim
  · cases r with | cons r1 r2 => cases r1; cases r2; exact .inr ⟨_, rfl, h.here A .str⟩
  · exact h.elim)
theorem cd_len : CallD X (.builtin "len") lenD := CallR.imp call_len (by
  rintro xs H Q ⟨rho, F, m, ds, A, r, h⟩
  unfold lenD at h
  split at h
  · split at h
    · rename_i hc
      cases r with | cons r1 r2 => cases r1; cases r2; exact ⟨_, _, rfl, ⟨hc, rfl⟩, h.here A .int⟩
    · exact h.elim
  · split at h
    · rename_i d _ xs hv
      cases r with
      | cons r1 r2 =>
        cases r2
        obtain ⟨p, vs, rfl, hp, q1⟩ := r1.viewQ A hv
        refine ⟨_, vs.length, rfl, ?_, ?_⟩
        · rcases hp with hp | hp
          · exact .inl ⟨vs, hp, rfl⟩
          · exact .inr ⟨vs, hp, rfl⟩
        · rw [q1.length]; exact h.here A .int
    · exact h.elim
  · exact h.elim)
theorem cd_all (hc : X.calm = true) : CallD X (.builtin "all") allD := CallR.imp (cr_all hc) (by
  rintro xs H Q ⟨rho, F, m, ds, A, r, h⟩
  unfold allD at h
  split at h
  · split at h
    · rename_i d ns hv
      obtain ⟨ds, h1, h2⟩ := bind_view hv
      have e := asBls_eq h2
      subst e
      cases r with
      | cons r1 r2 =>
        cases r2
        obtain ⟨p, vs, rfl, hp, q1⟩ := r1.viewS A h1
        have e := q1.bls
        subst e
        exact ⟨p, _, rfl, hp, h.here A .bl⟩
    · exact h.elim
  · exact h.elim)
theorem cd_any (hc : X.calm = true) : CallD X (.builtin "any") anyD := CallR.imp (cr_any hc) (by
  rintro xs H Q ⟨rho, F, m, ds, A, r, h⟩
  unfold anyD at h
  split at h
  · split at h
    · rename_i d ns hv
      obtain ⟨ds, h1, h2⟩ := bind_view hv
      have e := asBls_eq h2
      subst e
      cases r with
      | cons r1 r2 =>
        cases r2
        obtain ⟨p, vs, rfl, hp, q1⟩ := r1.viewS A h1
        have e := q1.bls
        subst e
        exact ⟨p, _, rfl, hp, h.here A .bl⟩
    · exact h.elim
  · exact h.elim)
theorem cd_tuple : CallD X (.type "tuple") tupleD := CallR.imp call_tuple_of (by
  rintro xs H Q ⟨rho, F, m, ds, A, r, h⟩
  unfold tupleD at h
  split at h
  · cases r with
    | cons r1 r2 =>
      cases r2
      obtain ⟨p, vs, rfl, hp, q1⟩ := r1.tupH A
      exact ⟨p, vs, rfl, .inr ⟨hp, h.here A r1⟩⟩
  · split at h
    · rename_i d _ xs hv
      cases r with
      | cons r1 r2 =>
        cases r2
        obtain ⟨p, vs, rfl, hp, q1⟩ := r1.viewS A hv
        exact ⟨p, vs, rfl, .inl ⟨hp, fun l nl => h.newT A q1 nl⟩⟩
    · exact h.elim
  · exact h.elim)
theorem cd_list : CallD X (.type "list") listD := CallR.imp call_list_of (by
  rintro xs H Q ⟨rho, F, m, ds, A, r, h⟩
  unfold listD at h
  split at h
  · split at h
    · rename_i d xs hv
      cases r with
      | cons r1 r2 =>
        cases r2
        obtain ⟨p, vs, rfl, hp, q1⟩ := r1.viewQ A hv
        exact ⟨p, vs, rfl, hp, fun l nl => h.newL A q1 nl⟩
    · exact h.elim
  · exact h.elim)
theorem cd_listM : CallD X (.type "list") listMD := CallR.imp call_list_of (by
  rintro xs H Q ⟨rho, F, m, ds, A, r, h⟩
  unfold listMD at h
  split at h
  · split at h
    · rename_i d xs hv
      cases r with
      | cons r1 r2 =>
        cases r2
        obtain ⟨p, vs, rfl, hp, q1⟩ := r1.viewQ A hv
        exact ⟨p, vs, rfl, hp, fun l nl => h.newLM A q1 nl⟩
    · exact h.elim
  · exact h.elim)
end
/-! ### isinstance -/
def tyD (d : D) (m : M) : Option String := match d with
  | .non => some "NoneType"
  | .bl _ => some "bool"
  | .int _ => some "int"
  | .str _ => some "str"
  | .tup _ => some "tuple"
  | .lst _ => some "list"
  | .dct _ => some "dict"
  | .ref i => match m[i]? with
    | some (.lst _) => some "list"
    | some (.dct _) => some "dict"
    | _ => none
  | _ => none
theorem ty_of {K : PySem.W.Frag} {mg : Str → Option Value} {rho : List Addr} {F H : Hp} {m : M} {x : V} {d : D} {t : String} (A : Abs K mg rho F H m) (r : Rp K mg rho F x d) (h : tyD d m = some t) : TyX K H x (.type t) := by
  unfold tyD at h
  split at h
  · cases r; cases h; exact .base .non
  · cases r; cases h; exact .base (.bl _)
  · cases r; cases h; exact .base (.int _)
  · cases r; cases h; exact .base (.str _)
  · cases h
    cases r with
    | tup hs hr =>
      rcases sqT_mono A.ex hs with (q | ⟨o, q⟩) | ⟨o, its, n, q, c, _⟩
      · exact .base (.tup q)
      · exact .fTuple q
      · exact .kTuple q c
  · cases h
    cases r with
    | lst hs hr => exact .base (.lst (A.ex _ _ hs))
  · cases h
    cases r with
    | dK hs hr => exact .base (.dK (A.ex _ _ hs))
    | dT hs hr => exact .base (.dT (A.ex _ _ hs))
  · split at h
    · rename_i hm
      cases h
      cases r with
      | ref hi => obtain ⟨_, vs, h0, _⟩ := A.own _ _ _ hi hm; exact .base (.lst h0)
    · rename_i hm
      cases h
      cases r with
      | ref hi => obtain ⟨_, ⟨vs, h0, _⟩ | ⟨vs, h0, _⟩⟩ := A.own _ _ _ hi hm; exact .base (.dK h0); exact .base (.dT h0)
    · cases h
  · cases h
/-- the built-in classes that are asked for, and what is of them -/
def isiB (t c : String) : Bool := t == c || (t == "bool" && c == "int")
end HB
namespace HB
open PySem L2

/-! ### data that tells of no owned object -/
mutual
def noref : D → Bool
  | .non => true
  | .bl _ => true
  | .int _ => true
  | .str _ => true
  | .tup ds => norefL ds
  | .lst ds => norefL ds
  | .dct kvs => norefK kvs
  | .obj _ fs => norefF fs
  | .ref _ => false
  | .scr _ => true
def norefL : List D → Bool
  | [] => true
  | d :: ds => noref d && norefL ds
def norefK : List (D × D) → Bool
  | [] => true
  | (k, d) :: ds => noref k && noref d && norefK ds
def norefF : List (Str × D) → Bool
  | [] => true
  | (_, d) :: ds => noref d && norefF ds
end
def norefM : MO → Bool
  | .lst ds => norefL ds
  | .dct kvs => norefK kvs
  | .ins _ fs => norefF fs
  | .gone => false
section
variable {K : PySem.W.Frag} {mg : Str → Option Value} {rho rho' : List Addr} {F F' H : Hp}
mutual
theorem Rp.free (e : Same F F') : ∀ {d : D} {v : V}, noref d = true → Rp K mg rho F v d → Rp K mg rho' F' v d
  | .non, _, _, r => by cases r; exact .non
  | .bl _, _, _, r => by cases r; exact .bl
  | .int _, _, _, r => by cases r; exact .int
  | .str _, _, _, r => by cases r; exact .str
  | .tup ds, _, h, r => by
    cases r with | tup hs hr => exact .tup (sqT_mono e hs) (RpL.free e (ds := ds) (by simpa [noref] using h) hr)
  | .lst ds, _, h, r => by
    cases r with | lst hs hr => exact .lst (e _ _ hs) (RpL.free e (ds := ds) (by simpa [noref] using h) hr)
  | .dct kvs, _, h, r => by
    cases r with
    | dK hs hr => exact .dK (e _ _ hs) (RpK.free e (ds := kvs) (by simpa [noref] using h) hr)
    | dT hs hr => exact .dT (e _ _ hs) (RpT.free e (ds := kvs) (by simpa [noref] using h) hr)
  | .obj c fs, _, h, r => by
    cases r with | obj hs hc hr => exact .obj (e _ _ hs) hc (RpF.free e (ds := fs) (by simpa [noref] using h) hr)
  | .ref _, _, h, _ => by simp [noref] at h
  | .scr _, _, _, r => by cases r with | scr hs => exact .scr (e.seq hs)
theorem RpL.free (e : Same F F') : ∀ {ds : List D} {vs : List V}, norefL ds = true → RpL K mg rho F vs ds → RpL K mg rho' F' vs ds
  | [], _, _, r => by cases r; exact .nil
  | d :: ds, _, h, r => by
    simp only [norefL, Bool.and_eq_true] at h
    cases r with | cons r1 r2 => exact .cons (Rp.free e h.1 r1) (RpL.free e h.2 r2)
theorem RpK.free (e : Same F F') : ∀ {ds : List (D × D)} {vs : List (Key × V)}, norefK ds = true → RpK K mg rho F vs ds → RpK K mg rho' F' vs ds
  | [], _, _, r => by cases r; exact .nil
  | (k, d) :: ds, _, h, r => by
    simp only [norefK, Bool.and_eq_true] at h
    cases r with | cons r1 r2 => exact .cons (Rp.free e h.1.2 r1) (RpK.free e h.2 r2)
theorem RpT.free (e : Same F F') : ∀ {ds : List (D × D)} {vs : List (List Key × V)}, norefK ds = true → RpT K mg rho F vs ds → RpT K mg rho' F' vs ds
  | [], _, _, r => by cases r; exact .nil
  | (k, d) :: ds, _, h, r => by
    simp only [norefK, Bool.and_eq_true] at h
    cases r with | cons r1 r2 => exact .cons (Rp.free e h.1.2 r1) (RpT.free e h.2 r2)
theorem RpF.free (e : Same F F') : ∀ {ds : List (Str × D)} {vs : List (Str × V)}, norefF ds = true → RpF K mg rho F vs ds → RpF K mg rho' F' vs ds
  | [], _, _, r => by cases r; exact .nil
  | (k, d) :: ds, _, h, r => by
    simp only [norefF, Bool.and_eq_true] at h
    cases r with | cons r1 r2 => exact .cons (Rp.free e h.1 r1) (RpF.free e h.2 r2)
end
theorem RpM.free {H' : Hp} {a : Addr} {x : MO} (h : RpM K mg rho F H a x) (n : norefM x = true) (e : Same F F') (hf : F' a = F a) (hh : ∀ o, H a = some o → H' a = some o) : RpM K mg rho' F' H' a x := by
  cases x with
  | gone => trivial
  | lst ds =>
    obtain ⟨f0, vs, h0, r⟩ := h
    exact ⟨hf.trans f0, vs, hh _ h0, r.free e n⟩
  | dct kvs =>
    obtain ⟨f0, q⟩ := h
    rcases q with ⟨ks, h0, r⟩ | ⟨ks, h0, r⟩
    · exact ⟨hf.trans f0, .inl ⟨ks, hh _ h0, r.free e n⟩⟩
    · exact ⟨hf.trans f0, .inr ⟨ks, hh _ h0, r.free e n⟩⟩
  | ins c gs =>
    obtain ⟨f0, C, dx, fs, h0, hc, r⟩ := h
    exact ⟨hf.trans f0, C, dx, fs, hh _ h0, hc, r.free e n⟩
end

/-! ### calling a def: only the owned objects that are handed over go with it -/
abbrev Sem := List D → M → R D
/-- the owned objects among the arguments, in order -/
def refsOf : List D → List Nat
  | [] => []
  | .ref i :: ds => i :: refsOf ds
  | _ :: ds => refsOf ds
/-- the arguments as the callee sees them, from its k-th owned object on -/
def seen (k : Nat) : List D → List D
  | [] => []
  | .ref _ :: ds => .ref k :: seen (k + 1) ds
  | d :: ds => d :: seen k ds
def isRef : D → Bool
  | .ref _ => true
  | _ => false
/-- what is handed over -/
def hand (m : M) : List Nat → Option M
  | [] => some []
  | i :: is => match m[i]?, hand m is with
    | some o, some r => if norefM o then some (o :: r) else none
    | _, _ => none
/-- what comes back -/
def back (m : M) : List Nat → M → Option M
  | [], _ => some m
  | i :: is, o :: r => if norefM o then (back m is r).map (·.set i o) else none
  | _ :: _, [] => none
def nodupB : List Nat → Bool
  | [] => true
  | a :: r => !r.contains a && nodupB r
def callD (sem : Sem) (ds : List D) (m : M) : R D :=
  if ds.all (fun d => isRef d || noref d) && nodupB (refsOf ds) then
    match hand m (refsOf ds) with
    | some mc => match sem (seen 0 ds) mc with
      | .ok d m2 => match back m (refsOf ds) m2 with
        | some m' => match d with
          | .ref j => match (refsOf ds)[j]? with
            | some i => .ok (.ref i) m'
            | none => match m2[j]? with
              | some o => if norefM o then .ok (.ref m'.length) (m' ++ [o]) else .no
              | none => .no
          | d => if noref d then .ok d m' else .no
        | none => .no
      | .ex c m2 => match back m (refsOf ds) m2 with
        | some m' => if norefF c.fs then .ex c m' else .no
        | none => .no
      | .no => .no
    | none => .no
  else .no
section
variable {K : PySem.W.Frag} {mg : Str → Option Value} {rho rho' : List Addr} {F F' H H' : Hp} {m m2 m' mc : M}
theorem nodup_of : ∀ {is : List Nat}, nodupB is = true → is.Nodup
  | [], _ => .nil
  | a :: r, h => by
    simp only [nodupB, Bool.and_eq_true, Bool.not_eq_true', List.contains_eq_mem, decide_eq_false_iff_not] at h
    exact List.nodup_cons.mpr ⟨h.1, nodup_of h.2⟩
theorem hand_spec : ∀ {is : List Nat} {mc : M}, hand m is = some mc → mc.length = is.length ∧ ∀ (k i : Nat), is[k]? = some i → ∃ o, m[i]? = some o ∧ mc[k]? = some o ∧ norefM o = true
  | [], _, h => by cases h; exact ⟨rfl, fun k i e => by simp at e⟩
  | i :: is, mc, h => by
    simp only [hand] at h
    split at h
    · rename_i o r h1 h2
      split at h
      · rename_i hn
        cases h
        obtain ⟨l, f⟩ := hand_spec h2
        refine ⟨by simp [l], fun k j e => ?_⟩
        cases k with
        | zero => simp at e; subst e; exact ⟨o, h1, rfl, hn⟩
        | succ k => exact f k j (by simpa using e)
      · cases h
    · cases h
theorem back_spec : ∀ {is : List Nat} {m2 m' : M}, back m is m2 = some m' → is.Nodup → m'.length = m.length ∧ (∀ (i : Nat), i ∉ is → m'[i]? = m[i]?) ∧ ∀ (k i : Nat), is[k]? = some i → i < m.length → ∃ o, m2[k]? = some o ∧ m'[i]? = some o ∧ norefM o = true
  | [], _, _, h, _ => by cases h; exact ⟨rfl, fun _ _ => rfl, fun k i e => by simp at e⟩
  | i :: is, o :: r, m', h, nd => by
    simp only [back] at h
    split at h
    · rename_i hn
      simp only [Option.map_eq_some_iff] at h
      obtain ⟨m1, h1, rfl⟩ := h
      obtain ⟨n1, n2⟩ := List.nodup_cons.mp nd
      obtain ⟨l, f, g⟩ := back_spec h1 n2
      refine ⟨by simp [l], fun j hj => ?_, fun k j e hl => ?_⟩
      · rw [List.getElem?_set_ne (fun e => hj (by rw [e]; exact List.mem_cons_self))]
        exact f j fun z => hj (List.mem_cons_of_mem _ z)
      · cases k with
        | zero =>
          simp at e; subst e
          exact ⟨o, rfl, List.getElem?_set_self (by rw [l]; exact hl), hn⟩
        | succ k =>
          have e' : is[k]? = some j := by simpa using e
          obtain ⟨o', a1, a2, a3⟩ := g k j e' hl
          refine ⟨o', by simpa using a1, ?_, a3⟩
          rw [List.getElem?_set_ne (fun z => n1 (by rw [z]; exact List.mem_of_getElem? e'))]
          exact a2
    · cases h
  | _ :: _, [], _, h, _ => by simp [back] at h
/-- the addresses that are handed over -/
def handR (rho : List Addr) (is : List Nat) : List Addr := is.map fun i => rho.getD i 0
theorem handR_get {is : List Nat} {k i : Nat} {a : Addr} (e : is[k]? = some i) (h : rho[i]? = some a) : (handR rho is)[k]? = some a := by
  unfold handR
  rw [List.getElem?_map, e]
  simp [List.getD, h]
theorem Abs.hand {is : List Nat} (A : Abs K mg rho F H m) (h : hand m is = some mc) (nd : is.Nodup) : Abs K mg (handR rho is) F H mc := by
  obtain ⟨l, f⟩ := hand_spec h
  have at_ : ∀ (k i : Nat), is[k]? = some i → ∃ a, rho[i]? = some a ∧ (handR rho is)[k]? = some a := fun k i e => by
    obtain ⟨o, h1, _⟩ := f k i e
    have hl : i < rho.length := by rw [A.len]; exact (List.getElem?_eq_some_iff.mp h1).1
    exact ⟨rho[i], by simp [hl], handR_get e (by simp [hl])⟩
  have of : ∀ (k : Nat) a, (handR rho is)[k]? = some a → ∃ i, is[k]? = some i ∧ rho[i]? = some a := fun k a e => by
    have hk : k < is.length := by have := (List.getElem?_eq_some_iff.mp e).1; simpa [handR] using this
    have e1 : is[k]? = some is[k] := by simp [hk]
    obtain ⟨b, q1, q2⟩ := at_ k _ e1
    rw [e] at q2; cases q2
    exact ⟨_, e1, q1⟩
  refine ⟨A.ex, by simp [handR, l], ?_, fun k a o e1 e2 => ?_, fun a ha => ?_⟩
  · refine List.pairwise_iff_getElem.mpr fun i j hi hj hij hne => ?_
    have hj' : j < is.length := by simpa [handR] using hj
    have hi' : i < is.length := Nat.lt_trans hij hj'
    obtain ⟨a, q1, q2⟩ := at_ i _ (show is[i]? = some is[i] by simp [hi'])
    obtain ⟨b, p1, p2⟩ := at_ j _ (show is[j]? = some is[j] by simp [hj'])
    have q3 := (List.getElem?_eq_some_iff.mp q2).2
    have p3 := (List.getElem?_eq_some_iff.mp p2).2
    rw [q3, p3] at hne
    subst hne
    have h1 := List.getElem?_eq_some_iff.mp q1
    have h2 := List.getElem?_eq_some_iff.mp p1
    have e3 : is[i] = is[j] := (List.getElem_inj A.nd).mp (h1.2.trans h2.2.symm)
    have := (List.getElem_inj nd).mp e3
    omega
  · obtain ⟨i, q1, q2⟩ := of k a e1
    obtain ⟨o', h1, h2, h3⟩ := f k i q1
    rw [e2] at h2; cases h2
    exact (A.own i a o q2 h1).free h3 (Same.refl F) rfl fun _ z => z
  · obtain ⟨k, hk⟩ := List.mem_iff_getElem?.mp ha
    obtain ⟨i, _, q2⟩ := of k a hk
    exact A.all a (List.mem_of_getElem? q2)
theorem RpL.seen (e : Same F F') : ∀ {ds : List D} {vs : List V} {k : Nat}, (ds.all fun d => isRef d || noref d) = true → (∀ (j i : Nat) a, (refsOf ds)[j]? = some i → rho[i]? = some a → rho'[k + j]? = some a) → RpL K mg rho F vs ds → RpL K mg rho' F' vs (seen k ds)
  | [], _, _, _, _, r => by cases r; exact .nil
  | .ref i :: ds, _, k, h, f, r => by
    simp only [List.all_cons, Bool.and_eq_true] at h
    cases r with
    | cons r1 r2 =>
      cases r1 with
      | ref hi =>
        refine .cons (.ref (by have := f 0 i _ (by simp [refsOf]) hi; simpa using this)) (RpL.seen e h.2 (fun j i' a q1 q2 => ?_) r2)
        have := f (j + 1) i' a (by simp only [refsOf]; simpa using q1) q2
        rw [show k + 1 + j = k + (j + 1) by omega]
        exact this
  | .non :: ds, _, k, h, f, r => by simp only [List.all_cons, Bool.and_eq_true] at h; cases r with | cons r1 r2 => exact .cons (r1.free e h.1) (RpL.seen e h.2 f r2)
  | .bl _ :: ds, _, k, h, f, r => by simp only [List.all_cons, Bool.and_eq_true] at h; cases r with | cons r1 r2 => exact .cons (r1.free e h.1) (RpL.seen e h.2 f r2)
  | .int _ :: ds, _, k, h, f, r => by simp only [List.all_cons, Bool.and_eq_true] at h; cases r with | cons r1 r2 => exact .cons (r1.free e h.1) (RpL.seen e h.2 f r2)
  | .str _ :: ds, _, k, h, f, r => by simp only [List.all_cons, Bool.and_eq_true] at h; cases r with | cons r1 r2 => exact .cons (r1.free e h.1) (RpL.seen e h.2 f r2)
  | .tup _ :: ds, _, k, h, f, r => by simp only [List.all_cons, Bool.and_eq_true] at h; cases r with | cons r1 r2 => exact .cons (r1.free e (by simpa [isRef] using h.1)) (RpL.seen e h.2 f r2)
  | .lst _ :: ds, _, k, h, f, r => by simp only [List.all_cons, Bool.and_eq_true] at h; cases r with | cons r1 r2 => exact .cons (r1.free e (by simpa [isRef] using h.1)) (RpL.seen e h.2 f r2)
  | .dct _ :: ds, _, k, h, f, r => by simp only [List.all_cons, Bool.and_eq_true] at h; cases r with | cons r1 r2 => exact .cons (r1.free e (by simpa [isRef] using h.1)) (RpL.seen e h.2 f r2)
  | .obj _ _ :: ds, _, k, h, f, r => by simp only [List.all_cons, Bool.and_eq_true] at h; cases r with | cons r1 r2 => exact .cons (r1.free e (by simpa [isRef] using h.1)) (RpL.seen e h.2 f r2)
  | .scr _ :: ds, _, k, h, f, r => by simp only [List.all_cons, Bool.and_eq_true] at h; cases r with | cons r1 r2 => exact .cons (r1.free e h.1) (RpL.seen e h.2 f r2)
/-- the caller's state behind the call -/
theorem Abs.back {is : List Nat} (A : Abs K mg rho F H m) (h : HB.hand m is = some mc) (nd : is.Nodup) (st : Step (handR rho is) F H rho' F' H') (A2 : Abs K mg rho' F' H' m2) (hb : back m is m2 = some m') :
    Step rho F H rho F' H' ∧ Abs K mg rho F' H' m' := by
  obtain ⟨l, f⟩ := hand_spec h
  obtain ⟨l2, g1, g2⟩ := back_spec hb nd
  have inr : ∀ (k i : Nat), is[k]? = some i → ∃ a, rho[i]? = some a ∧ (handR rho is)[k]? = some a := fun k i e => by
    obtain ⟨o, h1, _⟩ := f k i e
    have hl : i < rho.length := by rw [A.len]; exact (List.getElem?_eq_some_iff.mp h1).1
    exact ⟨rho[i], by simp [hl], handR_get e (by simp [hl])⟩
  have sub : ∀ a, a ∈ handR rho is → ∃ (k i : Nat), is[k]? = some i ∧ rho[i]? = some a := fun a ha => by
    obtain ⟨k, hk⟩ := List.mem_iff_getElem?.mp ha
    have hk' : k < is.length := by have := (List.getElem?_eq_some_iff.mp hk).1; simpa [handR] using this
    obtain ⟨b, q1, q2⟩ := inr k _ (show is[k]? = some is[k] by simp [hk'])
    rw [hk] at q2; cases q2
    exact ⟨k, _, by simp [hk'], q1⟩
  have s2 : Step rho F H rho F' H' := ⟨⟨[], by simp, by simp⟩, st.ex, st.dom, fun a o ha hn => st.old a o ha fun z => by
    obtain ⟨k, i, _, q⟩ := sub a z
    exact hn (List.mem_of_getElem? q)⟩
  refine ⟨s2, ⟨A2.ex, by rw [l2]; exact A.len, A.nd, fun i a o hi ho => ?_, fun a ha => let ⟨u, hu⟩ := A.all a ha; st.dom a u hu⟩⟩
  by_cases hm : i ∈ is
  · obtain ⟨k, hk⟩ := List.mem_iff_getElem?.mp hm
    have hl : i < m.length := by rw [← A.len]; exact (List.getElem?_eq_some_iff.mp hi).1
    obtain ⟨o', q1, q2, q3⟩ := g2 k i hk hl
    rw [ho] at q2; cases q2
    obtain ⟨b, p1, p2⟩ := inr k i hk
    rw [hi] at p1; cases p1
    exact (A2.own k a o (st.ix p2) q1).free q3 (Same.refl F') rfl fun _ z => z
  · rw [g1 i hm] at ho
    obtain ⟨u, hu⟩ := A.all a (List.mem_of_getElem? hi)
    have na : a ∉ handR rho is := fun z => by
      obtain ⟨k, j, q1, q2⟩ := sub a z
      have h1 := List.getElem?_eq_some_iff.mp hi
      have h2 := List.getElem?_eq_some_iff.mp q2
      have := (List.getElem_inj A.nd).mp (h1.2.trans h2.2.symm)
      exact hm (by rw [this]; exact List.mem_of_getElem? q1)
    obtain ⟨h1, h2⟩ := st.old a u hu na
    exact (A.own i a o hi ho).mono s2.onto h2 fun v hv => by rw [hu] at hv; cases hv; exact h1
theorem RpX.free {c : Exc} {cls : Value} {d : Option Addr} (e : Same F F') (h : norefF c.fs = true) (r : RpX K mg rho F c cls d) : RpX K mg rho' F' c cls d := by
  cases r with
  | bare g => exact .bare g
  | own g hd hr => exact .own g (e _ _ hd) (hr.free e h)
end
/-- a def's promise, by data -/
def spD (K : PySem.W.Frag) (mg : Str → Option Value) (np : Nat) (sem : Sem) : Sp := fun vs H Q E => vs.length = np ∧ ∃ rho F ds m, Abs K mg rho F H m ∧ RpL K mg rho F vs ds ∧
  RdE K mg (fun cls dx _ H' => E cls dx H') [] (relD K mg) rho F H Q (sem ds m)
/-- a call, by data -/
theorem call_data {K : PySem.W.Frag} {mg : Str → Option Value} {rho : List Addr} {F H : Hp} {m : M} {W : WX} {σ : L2.St} {Q : VK} {np : Nat} {sem : Sem} {ds : List D} {vs : List V} (A : Abs K mg rho F H m) (r : RpL K mg rho F vs ds) (hn : ds.length = np)
    (h : RdE K mg W σ (relD K mg) rho F H Q (callD sem ds m)) : spD K mg np sem vs H Q (fun cls dx H' => W cls dx σ H') := by
  unfold callD at h
  split at h
  · rename_i hc
    simp only [Bool.and_eq_true] at hc
    obtain ⟨hc, hnd⟩ := hc
    have nd := nodup_of hnd
    split at h
    · rename_i mc hmc
      refine ⟨by rw [r.length]; exact hn, handR rho (refsOf ds), F, seen 0 ds, mc, A.hand hmc nd, RpL.seen (Same.refl F) hc (fun j i a q1 q2 => by rw [Nat.zero_add]; exact handR_get q1 q2) r, ?_⟩
      cases hs : sem (seen 0 ds) mc with
      | no => rw [hs] at h; exact h
      | ok d m2 =>
        rw [hs] at h
        simp only at h
        intro v rho' F' H' st A2 rv
        split at h
        · rename_i m' hb
          obtain ⟨s2, A3⟩ := A.back hmc nd st A2 hb
          cases d with
          | ref j =>
            simp only at h
            cases rv with
            | ref hj =>
              rename_i a
              split at h
              · rename_i i hi
                refine h _ _ _ _ s2 A3 (.ref ?_)
                obtain ⟨o, h1, _⟩ := (hand_spec hmc).2 j i hi
                have hl : i < rho.length := by rw [A.len]; exact (List.getElem?_eq_some_iff.mp h1).1
                have q := st.ix (handR_get hi (show rho[i]? = some rho[i] by simp [hl]))
                rw [hj] at q
                rw [q]
                simp [hl]
              · rename_i hi
                split at h
                · rename_i o ho
                  split at h
                  · rename_i hno
                    obtain ⟨r1, e1, e2⟩ := st.pre
                    have na : H a = none := by
                      refine e2 a ?_
                      rw [e1, List.getElem?_append_right (by have := List.getElem?_eq_none_iff.mp hi; simpa [handR] using this)] at hj
                      exact List.mem_of_getElem? hj
                    have nr : a ∉ rho := A.notmem na
                    obtain ⟨u, hu⟩ := A2.all a (List.mem_of_getElem? hj)
                    have s3 : Step rho F H (rho ++ [a]) F' H' := ⟨⟨[a], rfl, fun b hb => by rw [List.mem_singleton.mp hb]; exact na⟩, s2.ex, s2.dom, s2.old⟩
                    refine h _ _ _ _ s3 ⟨A3.ex, by simp [A3.len], ?_, fun i b x hb hx => ?_, fun b hb => ?_⟩ (.ref ?_)
                    · rw [List.nodup_append]
                      refine ⟨A3.nd, by simp, fun b hb c hc => ?_⟩
                      rw [List.mem_singleton.mp hc]
                      intro e; subst e; exact nr hb
                    · by_cases hl : i < rho.length
                      · rw [List.getElem?_append_left hl] at hb
                        rw [List.getElem?_append_left (by rw [← A3.len]; exact hl)] at hx
                        exact (A3.own i b x hb hx).mono ⟨fun h => by rw [List.getElem?_append_left (List.getElem?_eq_some_iff.mp h).1]; exact h, Same.refl F'⟩ rfl fun _ z => z
                      · have hl' : i = rho.length := by
                          have := (List.getElem?_eq_some_iff.mp hb).1
                          simp at this; omega
                        subst hl'
                        rw [List.getElem?_append_right (Nat.le_refl _)] at hb
                        rw [A3.len, List.getElem?_append_right (Nat.le_refl _)] at hx
                        simp at hb hx
                        subst hb; subst hx
                        exact (A2.own j _ _ hj ho).free hno (Same.refl F') rfl fun _ z => z
                    · rcases List.mem_append.mp hb with z | z
                      · exact A3.all b z
                      · rw [List.mem_singleton.mp z]; exact ⟨u, hu⟩
                    · rw [← A3.len, List.getElem?_append_right (Nat.le_refl _)]
                      simp
                  · exact h.elim
                · exact h.elim
          | _ =>
            simp only at h
            split at h
            · rename_i hr
              exact h v _ _ _ s2 A3 (rv.free (Same.refl F') hr)
            · exact h.elim
        · exact h.elim
      | ex c m2 =>
        rw [hs] at h
        simp only at h
        intro cls dx rho' F' H' st A2 rx
        split at h
        · rename_i m' hb
          obtain ⟨s2, A3⟩ := A.back hmc nd st A2 hb
          split at h
          · rename_i hr
            exact h cls dx _ _ _ s2 A3 (rx.free (Same.refl F') hr)
          · exact h.elim
        · exact h.elim
    · exact h.elim
  · exact h.elim
end HB
namespace HB
open PySem L2 PySem.Spec PyProof.Rows

/-! ### a def keeps a promise, where no repr is under way -/
def FnG (P : Program) (w : World) (K : PySem.W.Frag) (mg : Str → Option Value) (base : Heap) (k : Nat) (f : Addr) (fd : FuncData) (ps : List Str) (sp : Sp) : Prop :=
  ∀ (B : Around) (fr : List PySem.Env) (s : Shared) (H : Hp) (ag : Args) (us : List Value) (vs : List V) (Q : VK) (E : XK), Room k B → B.guards = some [] →
    Env0 P w K mg base B fr s H → BindsTo s fd ag (ps.zip us) → Vals vs us → vs.length = ps.length → sp vs H Q E → codeAny (model P w) B (.call (.ref f) ag) (CR (L2.CX P w) fr P w H s Q E) s
theorem FnG.mono {P : Program} {w : World} {K : PySem.W.Frag} {mg : Str → Option Value} {base : Heap} {j k : Nat} {f : Addr} {fd : FuncData} {ps : List Str} {sp : Sp} (G : FnG P w K mg base j f fd ps sp) (h : j ≤ k) : FnG P w K mg base k f fd ps sp :=
  fun B fr s H ag us vs Q E hr => G B fr s H ag us vs Q E (hr.mono h)
theorem deeper_guards (B : Around) (e : PySem.Env) : (B.deeper e).guards = B.guards := rfl
theorem in1_guards (B : Around) : B.in1.guards = B.guards := rfl
theorem under_guards (B : Around) (C : Addr) (us : List Value) (kw : List (Str × Value)) : (B.under (.builtin "type.__call__" ⟨.ref C :: us, kw⟩)).guards = B.guards := by
  first | rfl | simp [Around.under, Code.isGuard, guardIds]
/-- a def of the text, by its body -/
theorem fnG_of {P : Program} {w : World} {K : PySem.W.Frag} {mg : Str → Option Value} {base : Heap} {x qual : Str} {st : Stmt} {f : Addr} {fd : FuncData} {N ps : List Str} {k : Nat} {sp : Sp} (Fn : Fun K x qual st f fd) (S : FnScope N ps (defScope st))
    (hb : ∀ (cdv : Value) (B : Around) (fr : List PySem.Env) (s : Shared) (H : Hp) (vs : List V) (Q : VK) (E : XK), Room k (B.deeper (envOfC qual (defScope st) s.heap.objs.size f cdv)) → B.guards = some [] → vs.length = ps.length → sp vs H Q E →
      ∃ t, PSs (cxOf (L2.CX P w) P w K mg base N qual (defScope st) f cdv B fr s H E) (defBody st) t ∧ t { nx := fun _ H' => Q .non H', rt := Q } (L2.start N vs) H) : FnG P w K mg base (k + 1) f fd ps sp := by
  obtain ⟨oc, od, kV, doc, pm, an, cdv, ct, osl, rfl, lk, hcd⟩ := Fn.ex
  intro B fr s H ag us vs Q E room gd env0 bnd rel hl want
  have stay : ∀ b o, base.get? b = some o → s.heap.get? b = some o := fun b o e => (env0.bs b o e).1
  have kin : K.In s.heap := env0.mod.kin.keeps stay
  have kinds : ∀ y ∈ ps.zip us, (defScope st).names.lookup y.1 = some .local ∨
      ((defScope st).names.lookup y.1 = some .cell ∧ ((cellsFrom (s.heap.objs.size + 1) (defScope st).names []).lookup y.1).isSome = true) := by
    rintro ⟨n, v⟩ hy
    have q := S.par n (List.of_mem_zip hy).1
    rcases q with q | q
    · left; exact q
    · right; exact ⟨q, PySem.W.cellsFrom_some _ _ _ (.inl q)⟩
  apply codeAny_call_function room.depth (kin _ _ lk) rfl S.co S.gen rfl
  · exact PySem.W.codeRec_of kin hcd
  · refine bnd _ _ _ _ (wpAny_newFunctionEnv_cells S.kind kinds ?_)
    intro env he s1 ic
    subst he
    constructor
    · exact (env0.mod.nolimit.keeps stay).keeps ic.toInCall.keep
    · apply codeAny_func
      obtain ⟨t, ht, hq⟩ := hb cdv B fr s H vs Q E (room.deeper _) gd hl want
      have J := inv_start (CX := L2.CX P w) (E := E) S room.hd env0 hl rel ic
      refine wpAny_mono (ht.run [] s1 _ H _ J hq) ?_ ?_
      · intro fl s2 hs
        cases fl
        · obtain ⟨σ2, H2, J2, q⟩ := hs
          exact ⟨V.non, H2, J2.os, J2.bare, J2.base, J2.hok, rfl, q⟩
        · obtain ⟨_, _, _, q⟩ := hs
          exact q.elim
        · obtain ⟨_, _, _, q⟩ := hs
          exact q.elim
        · obtain ⟨v, σ2, H2, J2, rv, q⟩ := hs
          exact ⟨v, H2, J2.os, J2.bare, J2.base, J2.hok, rv, q⟩
      · intro e s2 hs
        exact hs
/-! ### calls -/
section
variable {X : Cx} {k : Nat} {f : Addr} {fd : FuncData} {ps : List Str} {sp : Sp} {W : WX} {x : Str} {p pos : Pos}
theorem runG {pins : List (Addr × Obj)} {σ : L2.St} {H : Hp} {s : Shared} {Q : VK} {us : List Value} {vs : List V} {dvs : List V} {ds : List Value} (G : FnG X.prog X.w X.K X.mg X.base k f fd ps sp) (hr : Room k X.A) (hg : X.A.guards = some []) (hb : Binds X.K fd ps ds) (hd : Vals dvs ds) (tk : Takes X W)
    (I : Inv X pins σ H s) (r : Vals vs us) (hl : (vs ++ dvs).length = ps.length) (h : sp (vs ++ dvs) H Q (fun cls d H' => W cls d σ H')) : wpAny (model X.prog X.w) X.A (call (.ref f) us) (EP X pins σ Q) X.xe s := by
  have r2 : Vals (vs ++ dvs) (us ++ ds) := r.append hd
  have go := G X.A X.stack s H ⟨us, []⟩ (us ++ ds) (vs ++ dvs) Q _ hr hg I.env0 (hb s us I.kIn (r2.length ▸ hl)) r2 hl h
  refine wpAny_call (codeAny_mono go ?_)
  rintro (e | fl) s2 hq
  · exact tk e s2 (XE.of_call I (fun cls d H' z => z) hq)
  · cases fl
    case ret u => exact I.after hq
    all_goals exact hq.elim
/-- f(e, ..) -/
theorem peG {e : Expr} {es : List Expr} {t : TA} {dvs : List V} {ds : List Value} (G : FnG X.prog X.w X.K X.mg X.base k f fd ps sp) (hr : Room k X.A) (hgd : X.A.guards = some []) (hg : Gl X x) (hm : X.mg x = some (.ref f)) (hk : PySem.W.keepIn X.K (.ref f) = true) (hb : Binds X.K fd ps ds) (hd : Vals dvs ds) (tk : Takes X W)
    (ha : PA X (e :: es) t) (hdb : (x == ("__debug__" : Str)) = false) (he : starEach (e :: es) X.env = (false, eval e X.env) :: starEach es X.env) (hpl : (backTo pos (starEach es X.env)).any (·.1) = false) :
    PE X (.Call (.Name x p) (e :: es) [] pos) (fun σ H Q => t σ H fun vs H1 => (vs ++ dvs).length = ps.length ∧ sp (vs ++ dvs) H1 Q (fun cls d H' => W cls d σ H')) := by
  constructor
  intro pins s σ H Q I h
  apply wpAny_Call_Name_kw
  refine ld_glob I hg hm ?_ hdb
  refine PySem.W.callWith_K (h₀ := X.base) I.ok.mod.kin hk ?_ he hpl
  refine thn (ha.run pos pins s σ H _ I h) ?_
  rintro us s1 ⟨vs, H1, I1, rv, hl, q⟩
  exact ⟨I1.kIn, runG G hr hgd hb hd tk I1 rv hl q⟩
/-- f() -/
theorem peG0 {dvs : List V} {ds : List Value} (G : FnG X.prog X.w X.K X.mg X.base k f fd ps sp) (hr : Room k X.A) (hgd : X.A.guards = some []) (hg : Gl X x) (hm : X.mg x = some (.ref f)) (hk : PySem.W.keepIn X.K (.ref f) = true) (hb : Binds X.K fd ps ds) (hd : Vals dvs ds) (tk : Takes X W)
    (hdb : (x == ("__debug__" : Str)) = false) : PE X (.Call (.Name x p) [] [] pos) (fun σ H Q => dvs.length = ps.length ∧ sp dvs H Q (fun cls d H' => W cls d σ H')) := by
  constructor
  intro pins s σ H Q I h
  apply wpAny_Call_Name_kw
  refine ld_glob I hg hm ?_ hdb
  exact PySem.W.callWith_K0 I.kIn hk (runG (us := []) (vs := []) G hr hgd hb hd tk I .nil h.1 h.2)
end
end HB
namespace HB
open PySem L2

/-! ### the text without places -/
inductive BOp where
  | add | sub | mul | fdiv | mod | pow
inductive COp where
  | eq | ne | lt | le | gt | ge | isN | notN | inn | notIn
inductive BF where
  | abs | max | min | sum | int | str | len | all | any | tuple | list | listM | repr
inductive G where
  | name (i : Nat) | tup (gs : G) | nil | cons (g gs : G)
inductive T where
  | var (i : Nat) | non | bl (b : Bool) | int (i : Int) | str (x : Str) | gint (x : Str) (i : Int)
  | bin (o : BOp) (a b : T) | neg (a : T) | cmp (o : COp) (a b : T) | chain (o p : COp) (a b c : T)
  | and (a b : T) | or (a b : T) | not (a : T) | ite (c a b : T)
  | tup (es : T) | lst (es : T) | lstM (es : T) | nil | cons (a es : T)
  | ix (a b : T) | sl (a lo hi : T) | noP
  | call (j : Nat) (es : T) | blt (b : BF) (es : T) | isi (a : T) (c : String) | join (a b : T) | popAt (a b : T)
  | dct0 | dctI (k v : Int)
  | rng1 (a : T) | rng2 (a b : T) | lc (own : List (Str × Nat)) (g : G) (it c e : T)
def bopD : BOp → D → D → M → R D
  | .add => addD | .sub => subD | .mul => mulD | .fdiv => fdivD | .mod => modD | .pow => powD
def bopO : BOp → Operator
  | .add => .Add | .sub => .Sub | .mul => .Mult | .fdiv => .FloorDiv | .mod => .Mod | .pow => .Pow
def copD : COp → D → D → M → R D
  | .eq => eqD | .ne => neD | .lt => ltD | .le => leD | .gt => gtD | .ge => geD | .isN => isND | .notN => notND | .inn => inD | .notIn => notInD
def copO : COp → CmpOp
  | .eq => .Eq | .ne => .NotEq | .lt => .Lt | .le => .LtE | .gt => .Gt | .ge => .GtE | .isN => .Is | .notN => .IsNot | .inn => .In | .notIn => .NotIn
def bfD : BF → List D → M → R D
  | .abs => absD | .max => maxD | .min => minD | .sum => sumD | .int => intD | .str => strD | .len => lenD | .all => allD | .any => anyD | .tuple => tupleD | .list => listD | .listM => listMD | .repr => reprD
def bfX : BF → Str
  | .abs => "abs" | .max => "max" | .min => "min" | .sum => "sum" | .int => "int" | .str => "str" | .len => "len" | .all => "all" | .any => "any" | .tuple => "tuple" | .list => "list" | .listM => "list" | .repr => "repr"
def bfV : BF → Value
  | .abs => .builtin "abs" | .max => .builtin "max" | .min => .builtin "min" | .sum => .builtin "sum" | .int => .type "int" | .str => .type "str" | .len => .builtin "len" | .all => .builtin "all" | .any => .builtin "any"
  | .tuple => .type "tuple" | .list => .type "list" | .listM => .type "list" | .repr => .builtin "repr"
/-- names of the built-ins that the text may use -/
def bltAll : List Str := ["abs", "max", "min", "sum", "int", "str", "len", "all", "any", "tuple", "list", "repr", "isinstance", "bool", "dict", "range", "zip", "enumerate", "sorted", "set", "reversed", "iter", "next", "super"]

/-! ### targets -/
mutual
def asgG : G → D → Env → Option Env
  | .name i, d, env => some (env.set i (some d))
  | .tup gs, .tup ds, env => asgGs gs ds env
  | _, _, _ => none
def asgGs : G → List D → Env → Option Env
  | .nil, [], env => some env
  | .cons g gs, d :: ds, env => match asgG g d env with
    | some env2 => asgGs gs ds env2
    | none => none
  | _, _, _ => none
end
def gSlots : G → List Nat
  | .name i => [i]
  | .tup gs => gSlots gs
  | .nil => []
  | .cons g gs => gSlots g ++ gSlots gs
/-! ### what is walked -/
def viewI (d : D) (m : M) : Option (List D) := match d with
  | .tup ds => some ds
  | .lst ds => some ds
  | .scr ns => some (ns.map D.int)
  | .str x => some (x.cps.toList.map fun c => D.str ⟨#[c]⟩)
  | _ => none
def rngD (ds : List D) (m : M) : R D := match ds with
  | [.int j] => if -(2 ^ 62) ≤ j ∧ j < 2 ^ 62 then .ok (.lst ((List.range j.toNat).map fun (i : Nat) => D.int (i : Int))) m else .no
  | [.int i, .int j] => if -(2 ^ 62) ≤ i ∧ i < 2 ^ 62 ∧ -(2 ^ 62) ≤ j ∧ j < 2 ^ 62 then .ok (.lst ((List.range (j - i).toNat).map fun (n : Nat) => D.int (i + (n : Int)))) m else .no
  | _ => .no
def ixD (d e : D) (m : M) : R D := match e with
  | .int i => match d with
    | .str x => if x.length ≤ sizeLine then
        match atI x.cps.toList i with
        | some c => .ok (.str ⟨#[c]⟩) m
        | none => .no
      else .no
    | d => match viewQ d m with
      | some ds => match atI ds i with
        | some e => .ok e m
        | none => .no
      | none => .no
  | _ => .no
def cutD (xs : List D) (lo hi : Option Int) : List D := (xs.drop (HT.sIx xs.length 0 lo)).take (HT.sIx xs.length xs.length hi - HT.sIx xs.length 0 lo)
def slD (d : D) (lo hi : Option Int) (m : M) : R D := match d with
  | .str x => if x.length ≤ sizeLine then .ok (.str (cutS x lo hi)) m else .no
  | .tup ds => .ok (.tup (cutD ds lo hi)) m
  | d => match viewS d m with
    | some ds => .ok (.lst (cutD ds lo hi)) m
    | none => .no
def joinD (d e : D) (m : M) : R D := match d with
  | .str a => match (viewQ e m).bind asStrs with
    | some ys => if (ys.map (·.length)).sum + ys.length * a.length ≤ 16777216 then .ok (.str (Txt.join a ys)) m else .no
    | none => .no
  | _ => .no
def popAtD (d e : D) (m : M) : R D := match d, e with
  | .ref k, .int i => match m[k]? with
    | some (.lst ds) => if -(2 ^ 63) ≤ i ∧ i < 2 ^ 63 then
        match seqIndex? i ds.length with
        | some j => match ds[j]? with
          | some y => .ok y (m.set k (.lst (ds.eraseIdx j)))
          | none => .no
        | none => .no
      else .no
    | _ => .no
  | _, _ => .no
def isiD (d : D) (c : String) (m : M) : R D := match tyD d m with
  | some t => match kitB t c with
    | some b => .ok (.bl b) m
    | none => .no
  | none => .no
/-- the new list of a comprehension -/
def lcGo (step : D → M → R (Option D)) : List D → List D → M → R (List D)
  | [], acc, m => .ok acc m
  | x :: xs, acc, m => match step x m with
    | .ok (some y) m => lcGo step xs (acc ++ [y]) m
    | .ok none m => lcGo step xs acc m
    | _ => .no
def partD (r : R D) (m : M) : R (Option Int) := match r with
  | .ok (.int i) m => .ok (some i) m
  | .ok _ _ => .no
  | .ex c m => .ex c m
  | .no => .no
def isNoP : T → Bool
  | .noP => true
  | _ => false
mutual
def evE (fs : List Sem) : T → Env → M → R D
  | .var i, env, m => match env[i]? with
    | some (some d) => .ok d m
    | _ => .no
  | .non, _, m => .ok .non m
  | .bl b, _, m => .ok (.bl b) m
  | .int i, _, m => .ok (.int i) m
  | .str x, _, m => .ok (.str x) m
  | .gint _ i, _, m => .ok (.int i) m
  | .bin o a b, env, m => (evE fs a env m).bind fun d m => (evE fs b env m).bind fun e m => bopD o d e m
  | .neg a, env, m => (evE fs a env m).bind fun d m => match d with
    | .int i => .ok (.int (-i)) m
    | _ => .no
  | .cmp o a b, env, m => (evE fs a env m).bind fun d m => (evE fs b env m).bind fun e m => copD o d e m
  | .chain o p a b c, env, m => (evE fs a env m).bind fun d m => (evE fs b env m).bind fun e m => (copD o d e m).bind fun t m => match t with
    | .bl true => (evE fs c env m).bind fun g m => copD p e g m
    | .bl false => .ok (.bl false) m
    | _ => .no
  | .and a b, env, m => (evE fs a env m).bind fun d m => (truthB d m).bind fun t m => if t then evE fs b env m else .ok d m
  | .or a b, env, m => (evE fs a env m).bind fun d m => (truthB d m).bind fun t m => if t then .ok d m else evE fs b env m
  | .not a, env, m => (evE fs a env m).bind fun d m => (truthB d m).bind fun t m => .ok (.bl (!t)) m
  | .ite c a b, env, m => (evE fs c env m).bind fun d m => (truthB d m).bind fun t m => if t then evE fs a env m else evE fs b env m
  | .tup es, env, m => (evA fs es env m).bind fun ds m => if ds.length ≤ sizeLine then .ok (.tup ds) m else .no
  | .lst es, env, m => (evA fs es env m).bind fun ds m => if ds.length ≤ sizeLine then .ok (.lst ds) m else .no
  | .lstM es, env, m => (evA fs es env m).bind fun ds m => if ds.length ≤ sizeLine then .ok (.ref m.length) (m ++ [.lst ds]) else .no
  | .nil, _, _ => .no
  | .cons _ _, _, _ => .no
  | .ix a b, env, m => (evE fs a env m).bind fun d m => (evE fs b env m).bind fun e m => ixD d e m
  | .sl a lo hi, env, m => (evE fs a env m).bind fun d m => (if isNoP lo then R.ok none m else partD (evE fs lo env m) m).bind fun l m => (if isNoP hi then R.ok none m else partD (evE fs hi env m) m).bind fun h m => slD d l h m
  | .noP, _, _ => .no
  | .call j es, env, m => (evA fs es env m).bind fun ds m => match fs[j]? with
    | some sem => callD sem ds m
    | none => .no
  | .blt b es, env, m => (evA fs es env m).bind fun ds m => bfD b ds m
  | .isi a c, env, m => (evE fs a env m).bind fun d m => isiD d c m
  | .join a b, env, m => (evE fs a env m).bind fun d m => match d with
    | .str x => (evE fs b env m).bind fun e m => joinD (.str x) e m
    | _ => .no
  | .popAt a b, env, m => (evE fs a env m).bind fun d m => match d with
    | .ref k => match m[k]? with
      | some (.lst _) => (evE fs b env m).bind fun e m => popAtD (.ref k) e m
      | _ => .no
    | _ => .no
  | .dct0, _, m => .ok (.dct []) m
  | .dctI k v, _, m => .ok (.dct [(.int k, .int v)]) m
  | .rng1 a, env, m => (evE fs a env m).bind fun d m => rngD [d] m
  | .rng2 a b, env, m => (evE fs a env m).bind fun d m => (evE fs b env m).bind fun e m => rngD [d, e] m
  | .lc own g it c e, env, m => (evE fs it env m).bind fun d m => match viewI d m with
    | some xs => if xs.length ≤ sizeLine then
        (lcGo (fun x m => match asgG g x (wipeD env (own.map (·.2))) with
          | some env2 => (if isNoP c then R.ok true m else (evE fs c env2 m).bind truthB).bind fun t m => if t then (evE fs e env2 m).bind fun y m => .ok (some y) m else .ok none m
          | none => .no) xs [] m).bind fun ys m => .ok (.lst ys) m
      else .no
    | none => .no
def evA (fs : List Sem) : T → Env → M → R (List D)
  | .nil, _, m => .ok [] m
  | .cons a es, env, m => (evE fs a env m).bind fun d m => (evA fs es env m).bind fun ds m => .ok (d :: ds) m
  | _, _, _ => .no
end
def evT (fs : List Sem) (e : T) (env : Env) (m : M) : R Bool := (evE fs e env m).bind truthB

/-! ### does the text stand there -/
structure Ck where
  N : List Str
  sc : Scope
  raw : Option Scope
  fns : List (Str × Nat)
  gints : List (Str × Int)
  xcs : List (Str × Str)
  xsub : List (Str × Str × Bool)
def visB (sc : Scope) (x : Str) : Bool := match sc.names.lookup x with
  | some .local => true
  | some .cell => true
  | some .free => true
  | _ => false
def okN (x : Str) : Bool := !(x == ("__debug__" : Str)) && !(x == ("__classdict__" : Str)) && decide (x ≠ "__name__")
def glB (sc : Scope) (x : Str) : Bool := decide (sc.names.lookup x = some .globalImplicit) && okN x
def plainB : Expr → Bool
  | .Starred _ _ => false
  | _ => true
def noSliceB : Expr → Bool
  | .Slice _ _ _ _ => false
  | _ => true
def noCall0 : Expr → Bool
  | .Call (.Name _ _) [] [] _ => false
  | _ => true
def noSet : Expr → Bool
  | .Set _ _ _ => false
  | _ => true
def locB (C : Ck) (x : Str) : Bool := match C.sc.names.lookup x with
  | some .local => true
  | some .cell => match C.raw with
    | none => true
    | some s => decide (s.names.lookup x = some .cell)
  | _ => false
mutual
def chkG (C : Ck) : G → Expr → Bool
  | .name i, .Name x _ => decide (C.N[i]? = some x) && locB C x
  | .tup gs, .Tuple es _ _ => chkGs C gs es
  | _, _ => false
def chkGs (C : Ck) : G → List Expr → Bool
  | .nil, [] => true
  | .cons g gs, e :: es => plainB e && chkG C g e && chkGs C gs es
  | _, _ => false
end
def clsNames : List String := ["int", "bool", "str", "tuple", "list", "dict"]
mutual
def chk (C : Ck) : T → Expr → Bool
  | .var i, .Name x _ => decide (C.N[i]? = some x) && visB C.sc x && okN x
  | .non, .Constant .none _ _ => true
  | .bl b, .Constant (.bool c) _ _ => b == c
  | .int i, .Constant (.int j) _ _ => i == j
  | .str x, .Constant (.str y) _ _ => decide (x = y)
  | .gint x i, .Name y _ => decide (x = y) && glB C.sc y && decide ((x, i) ∈ C.gints)
  | .bin o a b, .BinOp p q r _ => decide (q = bopO o) && chk C a p && chk C b r
  | .neg a, .UnaryOp .USub p _ => chk C a p
  | .not a, .UnaryOp .Not p _ => chk C a p
  | .cmp o a b, .Compare p [q] [r] _ => decide (q = copO o) && !(behindInMarks q r) && chk C a p && chk C b r
  | .chain o o2 a b c, .Compare p [q, q2] [r, r2] _ => decide (q = copO o) && decide (q2 = copO o2) && !(behindInMarks q2 r2) && chk C a p && chk C b r && chk C c r2
  | .and a b, .BoolOp .And (p :: q :: rest) pos => chk C a p && (if rest.isEmpty then chk C b q else chk C b (.BoolOp .And (q :: rest) pos))
  | .or a b, .BoolOp .Or (p :: q :: rest) pos => chk C a p && (if rest.isEmpty then chk C b q else chk C b (.BoolOp .Or (q :: rest) pos))
  | .ite c a b, .IfExp p q r _ => chk C c p && chk C a q && chk C b r
  | .tup es, .Tuple ps _ _ => chkA C es ps
  | .lst es, .List ps _ => chkA C es ps
  | .lstM es, .List ps _ => chkA C es ps
  | .ix a b, .Subscript p q _ => noSliceB q && chk C a p && chk C b q
  | .sl a lo hi, .Subscript p (.Slice l h none _) _ => chk C a p && (match l with
        | none => isNoP lo
        | some q => !isNoP lo && chk C lo q) && (match h with
        | none => isNoP hi
        | some q => !isNoP hi && chk C hi q)
  | .call j es, .Call (.Name x _) ps [] _ => decide (C.fns[j]? = some (x, ps.length)) && glB C.sc x && chkA C es ps
  | .blt b es, .Call (.Name x _) (p :: ps) [] _ => decide (x = bfX b) && glB C.sc x && chkA C es (p :: ps)
  | .isi a c, .Call (.Name x _) [p, .Name y _] [] _ => decide (x = "isinstance") && glB C.sc x && plainB p && glB C.sc y && decide (y = Str.ofString c) && decide (c ∈ clsNames) && chk C a p
  | .join a b, .Call (.Attribute p x ap) [q] [] pos => decide (x = "join") && noCall0 p && plainB q && (ap.endLine == pos.line) && chk C a p && chk C b q
  | .popAt a b, .Call (.Attribute p x ap) [q] [] pos => decide (x = "pop") && noCall0 p && plainB q && (ap.endLine == pos.line) && chk C a p && chk C b q
  | .dct0, .Dict [] [] _ => true
  | .dctI k v, .Dict [some (.Constant (.int i) _ _)] [.Constant (.int j) _ _] _ => decide (k = i) && decide (v = j)
  | .lc own g it c e, .ListComp elt [⟨tg, iter, ifs, asy⟩] scope _ => decide (asy = 0) && (match it, iter with
        | .rng1 a, .Call (.Name x _) [p] [] _ => decide (x = "range") && glB C.sc x && plainB p && chk C a p
        | .rng2 a b, .Call (.Name x _) [p, q] [] _ => decide (x = "range") && glB C.sc x && plainB p && plainB q && chk C a p && chk C b q
        | a, p => chk C a p) && noSet iter && blkC C.N C.sc scope own && chkG { C with sc := relS scope C.sc, raw := some scope } g tg && (gSlots g).all (fun i => (own.map (·.2)).contains i) &&
      (match ifs with
        | [] => isNoP c
        | [q] => !isNoP c && chk { C with sc := relS scope C.sc, raw := some scope } c q
        | _ => false) && chk { C with sc := relS scope C.sc, raw := some scope } e elt
  | _, _ => false
def chkA (C : Ck) : T → List Expr → Bool
  | .nil, [] => true
  | .cons a es, p :: ps => plainB p && chk C a p && chkA C es ps
  | _, _ => false
end
def chkI (C : Ck) (it : T) (iter : Expr) : Bool := match it, iter with
  | .rng1 a, .Call (.Name x _) [p] [] _ => decide (x = "range") && glB C.sc x && plainB p && chk C a p
  | .rng2 a b, .Call (.Name x _) [p, q] [] _ => decide (x = "range") && glB C.sc x && plainB p && plainB q && chk C a p && chk C b q
  | a, p => chk C a p
end HB
namespace HB
open PySem L2

/-! ### what stands around -/
def Callee (P : Program) (w : World) (K : PySem.W.Frag) (mg : Str → Option Value) (base : Heap) (k : Nat) (x : Str) (n : Nat) (sem : Sem) : Prop :=
  ∃ (f : Addr) (fd : FuncData) (ps : List Str), mg x = some (.ref f) ∧ PySem.W.keepIn K (.ref f) = true ∧ Binds K fd ps [] ∧ ps.length = n ∧ FnG P w K mg base k f fd ps (spD K mg n sem)
structure GdE (X : Cx) (W : WX) (C : Ck) (fs : List Sem) (k : Nat) : Prop where
  N : X.N = C.N
  sc : X.env.scope = C.sc
  fn : ∀ x, (match C.raw with
    | none => True
    | some s => s.names.lookup x = some .cell) → X.fn x = true
  nd : X.N.Nodup
  calm : X.calm = true
  room : Room k X.A
  gd : X.A.guards = some []
  tk : Takes X W
  fl : C.fns.length ≤ fs.length
  fok : ∀ (j : Nat) x n sem, C.fns[j]? = some (x, n) → fs[j]? = some sem → Callee X.prog X.w X.K X.mg X.base k x n sem
  gi : ∀ x i, (x, i) ∈ C.gints → ∃ t, X.mg x = some (.int i t)
  bs : ∃ o, X.base.get? sysModules = some o
  nob : ∀ x ∈ bltAll, X.mg x = none
theorem RdE.of0 {K : PySem.W.Frag} {mg : Str → Option Value} {W : WX} {σ : L2.St} {rho : List Addr} {F H : Hp} {Q : VK} {r : R D} (h : RdE K mg W σ (relD K mg) rho F H Q r) (n : ∀ c m, r ≠ .ex c m) : RdO K mg rho F H Q r := by
  cases r with
  | ok d m => exact h
  | ex c m => exact absurd rfl (n c m)
  | no => exact h
section
variable {X : Cx} {W : WX}
/-! ### the single steps -/
theorem step_var {i : Nat} {se : SE} (hse : ∀ env m, se env m = match env[i]? with
    | some (some d) => .ok d m
    | _ => .no) : ∀ σ H Q, tE X W se σ H Q → tVar i σ H Q := by
  rintro σ H Q ⟨rho, F, env, m, A, En, h⟩
  rw [hse] at h
  split at h
  · rename_i d e
    obtain ⟨v, hv, r⟩ := En.2 i d e
    exact ⟨v, hv, h v _ _ _ Step.refl A r⟩
  · exact h.elim
theorem step_c {v : V} {d : D} {se : SE} (hse : ∀ env m, se env m = .ok d m) (hr : ∀ rho F, Rp X.K X.mg rho F v d) : ∀ σ H Q, tE X W se σ H Q → tC v σ H Q := by
  rintro σ H Q ⟨rho, F, env, m, A, En, h⟩
  rw [hse] at h
  exact h v _ _ _ Step.refl A (hr rho F)
/-- two operands, then an operator by data that raises nothing -/
theorem step_op {f : Value → Value → PySem.Sem Value} {g : D → D → M → R D} {sa sb : SE} {r : R2} (hr : r = fun x y H Q => ∃ rho F m d e, Abs X.K X.mg rho F H m ∧ Rp X.K X.mg rho F x d ∧ Rp X.K X.mg rho F y e ∧ RdO X.K X.mg rho F H Q (g d e m))
    (nx : ∀ d e m c m', g d e m ≠ .ex c m') :
    ∀ σ H Q, tE X W (fun env m => (sa env m).bind fun d m => (sb env m).bind fun e m => g d e m) σ H Q → tOp r (tE X W sa) (tE X W sb) σ H Q := by
  rintro σ H Q ⟨rho, F, env, m, A, En, h⟩
  refine ⟨rho, F, env, m, A, En, RdE.bind h fun d m1 v r1 F1 H1 s1 A1 q1 h1 => ?_⟩
  refine ⟨r1, F1, env, m1, A1, En.mono s1.onto, RdE.bind h1 fun e m2 u r2 F2 H2 s2 A2 q2 h2 => ?_⟩
  rw [hr]
  exact ⟨r2, F2, m2, d, e, A2, q1.mono s2.onto, q2, h2.of0 fun c m' => nx d e m2 c m'⟩
/-- one operand -/
theorem step_un {g : D → M → R D} {sa : SE} {r : V → Hp → VK → Prop} (hr : ∀ rho F H m d x Q, Abs X.K X.mg rho F H m → Rp X.K X.mg rho F x d → RdE X.K X.mg W [] (relD X.K X.mg) rho F H Q (g d m) → r x H Q) (nx : ∀ d m c m', g d m ≠ .ex c m') :
    ∀ σ H Q, tE X W (fun env m => (sa env m).bind fun d m => g d m) σ H Q → tUn r (tE X W sa) σ H Q := by
  rintro σ H Q ⟨rho, F, env, m, A, En, h⟩
  refine ⟨rho, F, env, m, A, En, RdE.bind h fun d m1 v r1 F1 H1 s1 A1 q1 h1 => ?_⟩
  refine hr r1 F1 H1 m1 d v Q A1 q1 ?_
  cases e : g d m1 with
  | ok d m => rw [e] at h1; exact h1
  | ex c m => exact absurd e (nx _ _ _ _)
  | no => rw [e] at h1; exact h1
theorem truth_m {d : D} {m m' : M} {b : Bool} (h : truthB d m = .ok b m') : m' = m := by
  unfold truthB at h
  split at h
  · cases h; rfl
  · cases h; rfl
  · cases h; rfl
  · split at h <;> cases h; rfl
  · split at h <;> cases h; rfl
/-- a value by its truth -/
theorem step_truth {sa : SE} : ∀ σ H Q, tT X W (fun env m => (sa env m).bind truthB) σ H Q → (tE X W sa) σ H (fun x H1 => ∃ k, TruV X.K x H1 k ∧ Q k H1) := by
  rintro σ H Q ⟨rho, F, env, m, A, En, h⟩
  refine ⟨rho, F, env, m, A, En, RdE.bind h fun d m1 v r1 F1 H1 s1 A1 q1 h1 => ?_⟩
  cases e : truthB d m1 with
  | ok b m2 =>
    rw [e] at h1
    obtain ⟨t1, rfl⟩ := truth_of A1 q1 e
    exact ⟨b, t1, h1 b _ _ _ Step.refl A1 rfl⟩
  | ex c m2 => exact absurd e truth_noex
  | no => rw [e] at h1; exact h1.elim
theorem step_and {sa sb : SE} : ∀ σ H Q, tE X W (fun env m => (sa env m).bind fun d m => (truthB d m).bind fun t m => if t then sb env m else .ok d m) σ H Q → tAndT X.K (tE X W sa) (tE X W sb) σ H Q := by
  rintro σ H Q ⟨rho, F, env, m, A, En, h⟩
  refine ⟨rho, F, env, m, A, En, RdE.bind h fun d m1 v r1 F1 H1 s1 A1 q1 h1 => ?_⟩
  cases e : truthB d m1 with
  | ok b m2 =>
    rw [e] at h1
    obtain ⟨t1, rfl⟩ := truth_of A1 q1 e
    refine ⟨b, t1, ?_⟩
    cases b with
    | true => exact iteT ⟨r1, F1, env, m2, A1, En.mono s1.onto, h1⟩
    | false => exact iteF (h1 v _ _ _ Step.refl A1 q1)
  | ex c m2 => exact absurd e truth_noex
  | no => rw [e] at h1; exact h1.elim
theorem step_or {sa sb : SE} : ∀ σ H Q, tE X W (fun env m => (sa env m).bind fun d m => (truthB d m).bind fun t m => if t then .ok d m else sb env m) σ H Q → tOrT X.K (tE X W sa) (tE X W sb) σ H Q := by
  rintro σ H Q ⟨rho, F, env, m, A, En, h⟩
  refine ⟨rho, F, env, m, A, En, RdE.bind h fun d m1 v r1 F1 H1 s1 A1 q1 h1 => ?_⟩
  cases e : truthB d m1 with
  | ok b m2 =>
    rw [e] at h1
    obtain ⟨t1, rfl⟩ := truth_of A1 q1 e
    refine ⟨b, t1, ?_⟩
    cases b with
    | true => exact iteT (h1 v _ _ _ Step.refl A1 q1)
    | false => exact iteF ⟨r1, F1, env, m2, A1, En.mono s1.onto, h1⟩
  | ex c m2 => exact absurd e truth_noex
  | no => rw [e] at h1; exact h1.elim
theorem step_not {sa : SE} : ∀ σ H Q, tE X W (fun env m => (sa env m).bind fun d m => (truthB d m).bind fun t m => .ok (.bl (!t)) m) σ H Q → tNotT X.K (tE X W sa) σ H Q := by
  rintro σ H Q ⟨rho, F, env, m, A, En, h⟩
  refine ⟨rho, F, env, m, A, En, RdE.bind h fun d m1 v r1 F1 H1 s1 A1 q1 h1 => ?_⟩
  cases e : truthB d m1 with
  | ok b m2 =>
    rw [e] at h1
    obtain ⟨t1, rfl⟩ := truth_of A1 q1 e
    exact ⟨b, t1, h1 _ _ _ _ Step.refl A1 .bl⟩
  | ex c m2 => exact absurd e truth_noex
  | no => rw [e] at h1; exact h1.elim
/-- tests -/
theorem step_andT {sa sb : SE} : ∀ σ H Q, tT X W (fun env m => ((sa env m).bind fun d m => (truthB d m).bind fun t m => if t then sb env m else .ok d m).bind truthB) σ H Q →
    tAnd (tT X W fun env m => (sa env m).bind truthB) (tT X W fun env m => (sb env m).bind truthB) σ H Q := by
  rintro σ H Q ⟨rho, F, env, m, A, En, h⟩
  refine ⟨rho, F, env, m, A, En, ?_⟩
  dsimp only at h ⊢
  cases ea : sa env m with
  | ok d m1 =>
    rw [ea] at h
    show RdE _ _ _ _ _ _ _ _ _ (truthB d m1)
    cases e : truthB d m1 with
    | ok b m2 =>
      have := truth_m e
      subst this
      simp only [R.bind, e] at h
      intro v r1 F1 H1 s1 A1 q1
      subst q1
      cases v with
      | true => exact iteT ⟨r1, F1, env, m2, A1, En.mono s1.onto, RdE.step (show RdE X.K X.mg W σ relB rho F H Q ((sb env m2).bind truthB) from h) s1⟩
      | false =>
        have h' : RdE X.K X.mg W σ relB rho F H Q (truthB d m2) := by simpa [R.bind] using h
        rw [e] at h'
        exact iteF (h' _ _ _ _ s1 A1 rfl)
    | ex c m2 => exact absurd e truth_noex
    | no => simp only [R.bind, e] at h; exact h
  | ex c m1 => rw [ea] at h; exact h
  | no => rw [ea] at h; exact h
theorem step_orT {sa sb : SE} : ∀ σ H Q, tT X W (fun env m => ((sa env m).bind fun d m => (truthB d m).bind fun t m => if t then .ok d m else sb env m).bind truthB) σ H Q →
    tOr (tT X W fun env m => (sa env m).bind truthB) (tT X W fun env m => (sb env m).bind truthB) σ H Q := by
  rintro σ H Q ⟨rho, F, env, m, A, En, h⟩
  refine ⟨rho, F, env, m, A, En, ?_⟩
  dsimp only at h ⊢
  cases ea : sa env m with
  | ok d m1 =>
    rw [ea] at h
    show RdE _ _ _ _ _ _ _ _ _ (truthB d m1)
    cases e : truthB d m1 with
    | ok b m2 =>
      have := truth_m e
      subst this
      simp only [R.bind, e] at h
      intro v r1 F1 H1 s1 A1 q1
      subst q1
      cases v with
      | false => exact iteF ⟨r1, F1, env, m2, A1, En.mono s1.onto, RdE.step (show RdE X.K X.mg W σ relB rho F H Q ((sb env m2).bind truthB) from h) s1⟩
      | true =>
        have h' : RdE X.K X.mg W σ relB rho F H Q (truthB d m2) := by simpa [R.bind] using h
        rw [e] at h'
        exact iteT (h' _ _ _ _ s1 A1 rfl)
    | ex c m2 => exact absurd e truth_noex
    | no => simp only [R.bind, e] at h; exact h
  | ex c m1 => rw [ea] at h; exact h
  | no => rw [ea] at h; exact h
theorem step_notT {sa : SE} : ∀ σ H Q, tT X W (fun env m => ((sa env m).bind fun d m => (truthB d m).bind fun t m => .ok (.bl (!t)) m).bind truthB) σ H Q → tNot (tT X W fun env m => (sa env m).bind truthB) σ H Q := by
  rintro σ H Q ⟨rho, F, env, m, A, En, h⟩
  refine ⟨rho, F, env, m, A, En, ?_⟩
  dsimp only at h ⊢
  cases ea : sa env m with
  | ok d m1 =>
    rw [ea] at h
    show RdE _ _ _ _ _ _ _ _ _ (truthB d m1)
    cases e : truthB d m1 with
    | ok b m2 =>
      have := truth_m e
      subst this
      simp only [R.bind, e] at h
      intro v r1 F1 H1 s1 A1 q1
      subst q1
      exact h _ _ _ _ s1 A1 rfl
    | ex c m2 => exact absurd e truth_noex
    | no => simp only [R.bind, e] at h; exact h
  | ex c m1 => rw [ea] at h; exact h
  | no => rw [ea] at h; exact h
theorem step_ite {sc sa sb : SE} : ∀ σ H Q, tE X W (fun env m => (sc env m).bind fun d m => (truthB d m).bind fun t m => if t then sa env m else sb env m) σ H Q →
    tIf (tT X W fun env m => (sc env m).bind truthB) (tE X W sa) (tE X W sb) σ H Q := by
  rintro σ H Q ⟨rho, F, env, m, A, En, h⟩
  refine ⟨rho, F, env, m, A, En, ?_⟩
  dsimp only at h ⊢
  cases ea : sc env m with
  | ok d m1 =>
    rw [ea] at h
    show RdE _ _ _ _ _ _ _ _ _ (truthB d m1)
    cases e : truthB d m1 with
    | ok b m2 =>
      have := truth_m e
      subst this
      simp only [R.bind, e] at h
      intro v r1 F1 H1 s1 A1 q1
      subst q1
      cases v with
      | true => exact iteT ⟨r1, F1, env, m2, A1, En.mono s1.onto, RdE.step (by simpa using h) s1⟩
      | false => exact iteF ⟨r1, F1, env, m2, A1, En.mono s1.onto, RdE.step (by simpa using h) s1⟩
    | ex c m2 => exact absurd e truth_noex
    | no => simp only [R.bind, e] at h; exact h
  | ex c m1 => rw [ea] at h; exact h
  | no => rw [ea] at h; exact h
theorem step_iteT {sc sa sb : SE} : ∀ σ H Q, tT X W (fun env m => ((sc env m).bind fun d m => (truthB d m).bind fun t m => if t then sa env m else sb env m).bind truthB) σ H Q →
    (tT X W fun env m => (sc env m).bind truthB) σ H (fun c H1 => if c = true then (tT X W fun env m => (sa env m).bind truthB) σ H1 Q else (tT X W fun env m => (sb env m).bind truthB) σ H1 Q) := by
  rintro σ H Q ⟨rho, F, env, m, A, En, h⟩
  refine ⟨rho, F, env, m, A, En, ?_⟩
  dsimp only at h ⊢
  cases ea : sc env m with
  | ok d m1 =>
    rw [ea] at h
    show RdE _ _ _ _ _ _ _ _ _ (truthB d m1)
    cases e : truthB d m1 with
    | ok b m2 =>
      have := truth_m e
      subst this
      simp only [R.bind, e] at h
      intro v r1 F1 H1 s1 A1 q1
      subst q1
      cases v with
      | true => exact iteT ⟨r1, F1, env, m2, A1, En.mono s1.onto, RdE.step (by simpa [R.bind] using h) s1⟩
      | false => exact iteF ⟨r1, F1, env, m2, A1, En.mono s1.onto, RdE.step (by simpa [R.bind] using h) s1⟩
    | ex c m2 => exact absurd e truth_noex
    | no => simp only [R.bind, e] at h; exact h
  | ex c m1 => rw [ea] at h; exact h
  | no => rw [ea] at h; exact h
theorem pt_ifExp {c a b : Expr} {pos : Pos} {tc ta tb : TT} (hc : PT X c tc) (ha : PT X a ta) (hb : PT X b tb) : PT X (.IfExp c a b pos) (fun σ H Q => tc σ H fun c H1 => if c = true then ta σ H1 Q else tb σ H1 Q) := by
  refine ⟨fun pins s σ H Q I h => ?_⟩
  have e : isTrue (.IfExp c a b pos) X.env (eval (.IfExp c a b pos) X.env) = (do
      if ← isTrue c X.env (eval c X.env) then isTrue a X.env (eval a X.env) else isTrue b X.env (eval b X.env)) := by first | rfl | simp only [isTrue]
  rw [e]
  refine wpAny_bind (thn (hc.run pins s σ H _ I h) fun t s1 ⟨H1, I1, q1⟩ => ?_)
  cases t with
  | true => exact ha.run pins s1 σ H1 Q I1 q1
  | false => exact hb.run pins s1 σ H1 Q I1 q1
/-- argument lists -/
theorem step_cons {sa : SE} {sr : SA} : ∀ σ H Q, tA X W (fun env m => (sa env m).bind fun d m => (sr env m).bind fun ds m => .ok (d :: ds) m) σ H Q → tCons (tE X W sa) (tA X W sr) σ H Q := by
  rintro σ H Q ⟨rho, F, env, m, A, En, h⟩
  refine ⟨rho, F, env, m, A, En, RdE.bind h fun d m1 v r1 F1 H1 s1 A1 q1 h1 => ?_⟩
  refine ⟨r1, F1, env, m1, A1, En.mono s1.onto, RdE.bind h1 fun e m2 u r2 F2 H2 s2 A2 q2 h2 => ?_⟩
  exact h2 _ _ _ _ Step.refl A2 (.cons (q1.mono s2.onto) q2)
theorem step_nil : ∀ σ H Q, tA X W (fun env m => .ok [] m) σ H Q → tNil σ H Q := by
  rintro σ H Q ⟨rho, F, env, m, A, En, h⟩
  exact h _ _ _ _ Step.refl A .nil
theorem step_tup {sr : SA} : ∀ σ H Q, tE X W (fun env m => (sr env m).bind fun ds m => if ds.length ≤ sizeLine then .ok (.tup ds) m else .no) σ H Q → tTup (tA X W sr) σ H Q := by
  rintro σ H Q ⟨rho, F, env, m, A, En, h⟩
  refine ⟨rho, F, env, m, A, En, RdE.bind h fun ds m1 vs r1 F1 H1 s1 A1 q1 h1 => ?_⟩
  split at h1
  · rename_i hl
    exact ⟨by rw [q1.length]; exact hl, fun p np => RdO.newT (RdE.of0 h1 (fun _ _ z => nomatch z)) A1 q1 np⟩
  · exact h1.elim
theorem step_lst {sr : SA} : ∀ σ H Q, tE X W (fun env m => (sr env m).bind fun ds m => if ds.length ≤ sizeLine then .ok (.lst ds) m else .no) σ H Q → tLst (tA X W sr) σ H Q := by
  rintro σ H Q ⟨rho, F, env, m, A, En, h⟩
  refine ⟨rho, F, env, m, A, En, RdE.bind h fun ds m1 vs r1 F1 H1 s1 A1 q1 h1 => ?_⟩
  split at h1
  · rename_i hl
    exact ⟨by rw [q1.length]; exact hl, fun p np => RdO.newL (RdE.of0 h1 (fun _ _ z => nomatch z)) A1 q1 np⟩
  · exact h1.elim
theorem step_lstM {sr : SA} : ∀ σ H Q, tE X W (fun env m => (sr env m).bind fun ds m => if ds.length ≤ sizeLine then .ok (.ref m.length) (m ++ [.lst ds]) else .no) σ H Q → tLst (tA X W sr) σ H Q := by
  rintro σ H Q ⟨rho, F, env, m, A, En, h⟩
  refine ⟨rho, F, env, m, A, En, RdE.bind h fun ds m1 vs r1 F1 H1 s1 A1 q1 h1 => ?_⟩
  split at h1
  · rename_i hl
    exact ⟨by rw [q1.length]; exact hl, fun p np => RdO.newLM (RdE.of0 h1 (fun _ _ z => nomatch z)) A1 q1 np⟩
  · exact h1.elim
end
end HB
namespace HB
open PySem L2

/-! ### operators never raise -/
theorem bop_noex {o : BOp} {d e : D} {m : M} {c : Exc} {m' : M} : bopD o d e m ≠ .ex c m' := by
  intro h
  cases o <;> simp only [bopD, addD, subD, mulD, fdivD, modD, powD] at h <;> (repeat' split at h) <;> cases h
theorem eqB_noex {d e : D} {m : M} {c : Exc} {m' : M} : eqB d e m ≠ .ex c m' := by
  intro h
  unfold eqB at h
  (repeat' split at h) <;> cases h
theorem inB_noex {d e : D} {m : M} {c : Exc} {m' : M} : inB d e m ≠ .ex c m' := by
  intro h
  unfold inB at h
  (repeat' split at h) <;> cases h
theorem cop_noex {o : COp} {d e : D} {m : M} {c : Exc} {m' : M} : copD o d e m ≠ .ex c m' := by
  intro h
  cases o
  case eq =>
    simp only [copD, eqD, blR] at h
    split at h
    · cases h
    · rename_i q; exact eqB_noex q
    · cases h
  case ne =>
    simp only [copD, neD, notR] at h
    cases q : eqB d e m with
    | ok b m => rw [q] at h; cases h
    | ex c m => exact eqB_noex q
    | no => rw [q] at h; cases h
  case inn =>
    simp only [copD, inD, blR] at h
    split at h
    · cases h
    · rename_i q; exact inB_noex q
    · cases h
  case notIn =>
    simp only [copD, notInD, notR] at h
    cases q : inB d e m with
    | ok b m => rw [q] at h; cases h
    | ex c m => exact inB_noex q
    | no => rw [q] at h; cases h
  all_goals (simp only [copD, ltD, leD, gtD, geD, isND, notND] at h; (repeat' split at h) <;> cases h)
/-- a comparison hands back a truth value -/
theorem eqB_bl {d e f : D} {m m' : M} (h : eqD d e m = .ok f m') : ∃ b, f = .bl b := by
  unfold eqD blR at h
  split at h
  · cases h; exact ⟨_, rfl⟩
  · cases h
  · cases h
theorem cop_bl {o : COp} {d e f : D} {m m' : M} (h : copD o d e m = .ok f m') : ∃ b, f = .bl b := by
  cases o
  case eq => exact eqB_bl h
  case ne =>
    simp only [copD, neD] at h
    cases q : notR (eqB d e m) with
    | ok b m => rw [q] at h; cases h; exact ⟨_, rfl⟩
    | ex c m => rw [q] at h; cases h
    | no => rw [q] at h; cases h
  case inn =>
    simp only [copD, inD] at h
    cases q : inB d e m with
    | ok b m => rw [q] at h; cases h; exact ⟨_, rfl⟩
    | ex c m => rw [q] at h; cases h
    | no => rw [q] at h; cases h
  case notIn =>
    simp only [copD, notInD] at h
    cases q : notR (inB d e m) with
    | ok b m => rw [q] at h; cases h; exact ⟨_, rfl⟩
    | ex c m => rw [q] at h; cases h
    | no => rw [q] at h; cases h
  all_goals (simp only [copD, ltD, leD, gtD, geD, isND, notND] at h; (repeat' split at h) <;> cases h <;> exact ⟨_, rfl⟩)
section
variable {X : Cx} {W : WX}
theorem od_bin (o : BOp) : OpD X (binaryOp (bopO o)) (bopD o) := by
  cases o
  · exact od_add
  · exact od_sub
  · exact od_mul
  · exact od_fdiv
  · exact od_mod
  · exact od_pow
theorem od_cmp (hu : X.A.units + 65 < cLine) (o : COp) : OpD X (compareOp (copO o)) (copD o) := by
  have hu' : X.A.units + 64 < cLine := by omega
  cases o
  · exact od_eq hu'
  · exact od_ne hu'
  · exact od_lt
  · exact od_le
  · exact od_gt
  · exact od_ge
  · exact od_isN
  · exact od_notN
  · exact od_in hu
  · exact od_notIn hu
/-! ### plain arguments -/
theorem star_cons {e : Expr} {es : List Expr} {env : PySem.Env} (h : plainB e = true) : starEach (e :: es) env = (false, eval e env) :: starEach es env := by
  cases e <;> first | rfl | (simp [plainB] at h)
theorem star_any {env : PySem.Env} {pos : Pos} : ∀ {es : List Expr}, es.all plainB = true → (backTo pos (starEach es env)).any (·.1) = false
  | [], _ => rfl
  | e :: es, h => by
    simp only [List.all_cons, Bool.and_eq_true] at h
    rw [star_cons h.1]
    have ih := star_any (env := env) (pos := pos) h.2
    simp only [backTo, List.map_cons, List.any_cons, Bool.false_or] at ih ⊢
    exact ih
theorem chkA_plain {C : Ck} : ∀ {t : T} {ps : List Expr}, chkA C t ps = true → ps.all plainB = true
  | t, [], _ => rfl
  | .cons a es, p :: ps, h => by
    simp only [chkA, Bool.and_eq_true] at h
    simp only [List.all_cons, Bool.and_eq_true]
    exact ⟨h.1.1, chkA_plain h.2⟩
/-! ### subscripts -/
theorem atI_of {K : PySem.W.Frag} {mg : Str → Option Value} {rho : List Addr} {F : Hp} {vs : List V} {ds : List D} {i : Int} {d : D} (r : RpL K mg rho F vs ds) (h : atI ds i = some d) : ∃ v, atI vs i = some v ∧ Rp K mg rho F v d := by
  unfold atI at h ⊢
  rw [r.length]
  cases e : ixN ds.length i with
  | none => rw [e] at h; cases h
  | some j => rw [e] at h; exact r.get h
theorem ix_noex {d e : D} {m : M} {c : Exc} {m' : M} : ixD d e m ≠ .ex c m' := by
  intro h
  unfold ixD at h
  (repeat' split at h) <;> cases h
theorem IxR.imp {r r' : R2} (h : IxR X r) (k : ∀ x y H Q, r' x y H Q → r x y H Q) : IxR X r' := fun value slice pins s σ H x y v u Q I rx ry q hs => h value slice pins s σ H x y v u Q I rx ry (k _ _ _ _ q) hs
theorem ix_data : IxR X (fun x y H Q => ∃ rho F m d e, Abs X.K X.mg rho F H m ∧ Rp X.K X.mg rho F x d ∧ Rp X.K X.mg rho F y e ∧ RdO X.K X.mg rho F H Q (ixD d e m)) := IxR.imp ix_seq (by
  rintro x y H Q ⟨rho, F, m, d, e, A, r1, r2, h⟩
  unfold ixD at h
  split at h
  · cases r2
    split at h
    · split at h
      · split at h
        · rename_i hc _ c hi
          cases r1
          exact .inr (.inr ⟨_, _, c, rfl, rfl, hc, hi, h.here A .str⟩)
        · exact h.elim
      · exact h.elim
    · split at h
      · rename_i ds hv
        split at h
        · rename_i e hi
          obtain ⟨p, vs, rfl, hp, q1⟩ := r1.viewQ A hv
          obtain ⟨v, hv', rv⟩ := atI_of q1 hi
          rcases hp with hp | hp
          · exact .inl ⟨p, vs, _, v, rfl, rfl, hp, hv', h.here A rv⟩
          · exact .inr (.inl ⟨p, vs, _, v, rfl, rfl, hp, hv', h.here A rv⟩)
        · exact h.elim
      · exact h.elim
  · exact h.elim)
theorem cut_of {K : PySem.W.Frag} {mg : Str → Option Value} {rho : List Addr} {F : Hp} {vs : List V} {ds : List D} (r : RpL K mg rho F vs ds) (lo hi : Option Int) : RpL K mg rho F (cutV vs lo hi) (cutD ds lo hi) := by
  unfold cutV cutD
  rw [r.length]
  exact (r.drop _).take _
theorem SlR.imp {r r' : V → Option Int → Option Int → Hp → VK → Prop} (h : SlR X r) (k : ∀ x lo hi H Q, r' x lo hi H Q → r x lo hi H Q) : SlR X r' := fun pins s σ H x v vl vu lo hi sl Q I rx hs pl pu q => h pins s σ H x v vl vu lo hi sl Q I rx hs pl pu (k _ _ _ _ _ q)
theorem sl_data : SlR X (fun x lo hi H Q => ∃ rho F m d, Abs X.K X.mg rho F H m ∧ Rp X.K X.mg rho F x d ∧ RdO X.K X.mg rho F H Q (slD d lo hi m)) := SlR.imp (sl_str.or (sl_tupA.or sl_list)) (by
  rintro x lo hi H Q ⟨rho, F, m, d, A, r1, h⟩
  unfold slD at h
  split at h
  · split at h
    · rename_i hc
      cases r1
      exact .inl ⟨_, rfl, hc, h.here A .str⟩
    · exact h.elim
  · rename_i ds
    obtain ⟨p, vs, rfl, hp, q1⟩ := r1.tupH A
    refine .inr (.inl ⟨p, vs, rfl, hp, fun hw => ?_, fun _ l nl => h.newT A (cut_of q1 lo hi) nl⟩)
    have e : cutD ds lo hi = ds := by
      unfold cutD
      rw [q1.length] at hw
      rw [hw.1, hw.2]
      simp
    rw [e] at h
    exact h.here A r1
  · split at h
    · rename_i ds hv
      obtain ⟨p, vs, rfl, hp, q1⟩ := r1.viewS A hv
      exact .inr (.inr ⟨p, vs, rfl, hp, fun l nl => h.newL A (cut_of q1 lo hi) nl⟩)
    · exact h.elim)
theorem sl_noex {d : D} {lo hi : Option Int} {m : M} {c : Exc} {m' : M} : slD d lo hi m ≠ .ex c m' := by
  intro h
  unfold slD at h
  (repeat' split at h) <;> cases h
/-- a part of a slice -/
def tP (X : Cx) (W : WX) (b : Bool) (se : SE) : TO := fun σ H Q => ∃ rho F env m, Abs X.K X.mg rho F H m ∧ RpEnv X.K X.mg rho F σ env ∧ RdE X.K X.mg W σ (fun _ _ (v d : Option Int) => v = d) rho F H Q (if b then R.ok none m else partD (se env m) m)
theorem po_data {se : SE} {p : Expr} (h : PE X p (tE X W se)) : PO X (some p) (tP X W false se) := by
  refine ⟨fun pins s σ H Q I q => (po_some h).run pins s σ H Q I ?_⟩
  obtain ⟨rho, F, env, m, A, En, q⟩ := q
  refine ⟨rho, F, env, m, A, En, ?_⟩
  simp only [Bool.false_eq_true, if_false] at q
  cases e : se env m with
  | ok d m1 =>
    rw [e] at q
    unfold partD at q
    split at q
    · rename_i z
      cases z
      intro v r1 F1 H1 s1 A1 q1
      cases q1
      exact ⟨_, rfl, q _ _ _ _ s1 A1 rfl⟩
    · exact q.elim
    · rename_i z; cases z
    · rename_i z; cases z
  | ex c m1 => rw [e] at q; exact q
  | no => rw [e] at q; exact q
theorem po_data0 {se : SE} : PO X none (tP X W true se) := by
  refine ⟨fun pins s σ H Q I q => po_none.run pins s σ H Q I ?_⟩
  obtain ⟨rho, F, env, m, A, En, q⟩ := q
  exact q none _ _ _ Step.refl A rfl
end
end HB
namespace HB
open PySem L2
/-! ### an object aside: neither ours nor standing still -/
section
variable {K : PySem.W.Frag} {mg : Str → Option Value} {rho rho' : List Addr} {F F' H H' : Hp} {m : M} {p : Addr} {o : HO}
theorem Abs.side (A : Abs K mg rho F H m) (nr : p ∉ rho) (nF : F p = none) : Abs K mg rho F (upd H p o) m := by
  refine ⟨fun b u h => ?_, A.len, A.nd, fun i a x hi hm => ?_, fun a ha => ?_⟩
  · rw [upd_ne (ne_of_none h nF)]; exact A.ex b u h
  · have ne : a ≠ p := fun e => nr (by rw [← e]; exact List.mem_of_getElem? hi)
    exact (A.own i a x hi hm).mono ⟨fun h => h, Same.refl F⟩ rfl fun u h => by rw [upd_ne ne]; exact h
  · have ne : a ≠ p := fun e => nr (by rw [← e]; exact ha)
    rw [upd_ne ne]; exact A.all a ha
theorem Abs.sideFix (A : Abs K mg rho F H m) (nr : p ∉ rho) (nF : F p = none) (hp : H p = some o) : Abs K mg rho (upd F p o) H m := by
  have sF : Same F (upd F p o) := fun b u h => by rw [upd_ne (ne_of_none h nF)]; exact h
  refine ⟨fun b u h => ?_, A.len, A.nd, fun i a x hi hm => ?_, A.all⟩
  · by_cases e : b = p
    · subst e; rw [upd_same] at h; rw [← h]; exact hp
    · rw [upd_ne e] at h; exact A.ex b u h
  · have ne : a ≠ p := fun e => nr (by rw [← e]; exact List.mem_of_getElem? hi)
    exact (A.own i a x hi hm).mono ⟨fun h => h, sF⟩ (upd_ne ne) fun u h => h
/-- a thing that was not there may change -/
theorem Step.side (s : Step rho F H rho' F' H') (np : H p = none) : Step rho F H rho' F' (upd H' p o) := by
  refine ⟨s.pre, s.ex, fun a u h => ?_, fun a u h hn => ?_⟩
  · rw [upd_ne (ne_of_none h np)]; exact s.dom a u h
  · rw [upd_ne (ne_of_none h np)]; exact s.old a u h hn
theorem Step.sideFix (s : Step rho F H rho' F' H') (np : H p = none) (nF : F' p = none) : Step rho F H rho' (upd F' p o) H' := by
  refine ⟨s.pre, s.ex.trans fun b u h => by rw [upd_ne (ne_of_none h nF)]; exact h, s.dom, fun a u h hn => ?_⟩
  obtain ⟨h1, h2⟩ := s.old a u h hn
  exact ⟨h1, by rw [upd_ne (ne_of_none h np)]; exact h2⟩
end
/-! ### what is walked, by data -/
structure Walks (K : PySem.W.Frag) (mg : Str → Option Value) (J : It) (rho : List Addr) (F : Hp) (xs : List D) : Prop where
  stop : ∀ rho2 F2 H m, Onto rho F rho2 F2 → Abs K mg rho2 F2 H m → J.stop xs.length H
  go : ∀ (i : Nat) d rho2 F2 H m, xs[i]? = some d → Onto rho F rho2 F2 → Abs K mg rho2 F2 H m → J.go i H ∧ ∀ v H', J.yld i H v H' → ∃ F3, Step rho2 F2 H rho2 F3 H' ∧ Abs K mg rho2 F3 H' m ∧ Rp K mg rho2 F3 v d
section
variable {K : PySem.W.Frag} {mg : Str → Option Value} {rho : List Addr} {F : Hp}
theorem walks_list {a : Addr} {vs : List V} {ds : List D} (h : ∀ F2 H, Same F F2 → Same F2 H → SqL K H a vs) (r : RpL K mg rho F vs ds) : Walks K mg (Itl K a) rho F ds where
  stop := fun r2 F2 H m on A => ⟨vs, h F2 H on.ex A.ex, by rw [r.length]; exact Nat.le_refl _⟩
  go := fun i d r2 F2 H m hd on A => by
    obtain ⟨v, hv, rv⟩ := r.get hd
    refine ⟨⟨vs, v, h F2 H on.ex A.ex, hv⟩, fun u H' y => ?_⟩
    obtain ⟨e, y⟩ := y
    subst e
    have := y vs (h F2 H' on.ex A.ex)
    rw [hv] at this
    cases this
    exact ⟨F2, Step.refl, A, rv.mono on⟩
theorem walks_tup {a : Addr} {vs : List V} {ds : List D} (h : ∀ F2 H, Same F F2 → Same F2 H → SqT K H a vs) (r : RpL K mg rho F vs ds) : Walks K mg (Itt K a) rho F ds where
  stop := fun r2 F2 H m on A => ⟨vs, h F2 H on.ex A.ex, by rw [r.length]; exact Nat.le_refl _⟩
  go := fun i d r2 F2 H m hd on A => by
    obtain ⟨v, hv, rv⟩ := r.get hd
    refine ⟨⟨vs, v, h F2 H on.ex A.ex, hv⟩, fun u H' y => ?_⟩
    obtain ⟨e, y⟩ := y
    subst e
    have := y vs (h F2 H' on.ex A.ex)
    rw [hv] at this
    cases this
    exact ⟨F2, Step.refl, A, rv.mono on⟩
theorem walks_str {x : Str} : Walks K mg (Its x) rho F (x.cps.toList.map fun c => D.str ⟨#[c]⟩) where
  stop := fun r2 F2 H m on A => by show x.cps.size ≤ _; simp
  go := fun i d r2 F2 H m hd on A => by
    rw [List.getElem?_map, Option.map_eq_some_iff] at hd
    obtain ⟨c, hc, rfl⟩ := hd
    have hc' : x.cps[i]? = some c := by rw [← Array.getElem?_toList]; exact hc
    refine ⟨by show i < x.cps.size; exact (Array.getElem?_eq_some_iff.mp hc').1, fun u H' y => ?_⟩
    obtain ⟨e, c', e1, e2⟩ := y
    subst e
    rw [hc'] at e1; cases e1
    subst e2
    exact ⟨F2, Step.refl, A, .str⟩
theorem walks_rng {lo : Int} {n : Nat} : Walks K mg (Itr lo n) rho F ((List.range n).map fun (i : Nat) => D.int (lo + (i : Int))) where
  stop := fun r2 F2 H m on A => by show n ≤ _; simp
  go := fun i d r2 F2 H m hd on A => by
    rw [List.getElem?_map, Option.map_eq_some_iff] at hd
    obtain ⟨c, hc, rfl⟩ := hd
    have hi : i < n := by have := (List.getElem?_eq_some_iff.mp hc).1; simpa using this
    have hc' : c = i := by
      rw [List.getElem?_range hi] at hc
      cases hc; rfl
    subst hc'
    refine ⟨hi, fun u H' y => ?_⟩
    obtain ⟨e, e2⟩ := y
    subst e
    subst e2
    exact ⟨F2, Step.refl, A, .int⟩
end
def tI (X : Cx) (W : WX) (se : SE) : TI := fun σ H Rr => ∃ rho F env m, Abs X.K X.mg rho F H m ∧ RpEnv X.K X.mg rho F σ env ∧ match se env m with
  | .ok d m1 => match viewI d m1 with
    | some xs => ∀ J rho' F' H', Step rho F H rho' F' H' → Abs X.K X.mg rho' F' H' m1 → Walks X.K X.mg J rho' F' xs → Rr J H'
    | none => False
  | .ex c m1 => ∀ cls dx rho' F' H', Step rho F H rho' F' H' → Abs X.K X.mg rho' F' H' m1 → RpX X.K X.mg rho' F' c cls dx → W cls dx σ H'
  | .no => False
section
variable {X : Cx} {W : WX}
theorem piOr {tg e : Expr} {w1 w2 : TI} (h1 : PI X tg e w1) (h2 : PI X tg e w2) : PI X tg e (fun σ H Rr => w1 σ H Rr ∨ w2 σ H Rr) := ⟨fun pins s σ H Rr I q => by
  rcases q with q | q
  · exact h1.run pins s σ H Rr I q
  · exact h2.run pins s σ H Rr I q⟩
theorem piImp {tg e : Expr} {w1 w2 : TI} (h1 : PI X tg e w1) (k : ∀ σ H Rr, w2 σ H Rr → w1 σ H Rr) : PI X tg e w2 := ⟨fun pins s σ H Rr I q => h1.run pins s σ H Rr I (k _ _ _ q)⟩
theorem pi_data {tg p : Expr} {se : SE} (h : PE X p (tE X W se)) : PI X tg p (tI X W se) := by
  refine piImp (piOr (pi_list h) (piOr (pi_tup h) (pi_str h))) ?_
  rintro σ H Rr ⟨rho, F, env, m, A, En, q⟩
  cases e : se env m with
  | no => rw [e] at q; exact q.elim
  | ex c m1 =>
    rw [e] at q
    exact .inl ⟨rho, F, env, m, A, En, by rw [e]; exact q⟩
  | ok d m1 =>
    rw [e] at q
    simp only at q
    split at q
    · rename_i xs hv
      unfold viewI at hv
      split at hv
      · cases hv
        refine .inr (.inl ⟨rho, F, env, m, A, En, ?_⟩)
        rw [e]
        intro v r1 F1 H1 s1 A1 q1
        cases q1 with
        | tup hs hr => exact ⟨_, rfl, ⟨_, sqT_mono A1.ex hs⟩, q _ _ _ _ s1 A1 (walks_tup (fun F2 H2 e1 e2 => sqT_mono e2 (sqT_mono e1 hs)) hr)⟩
      · cases hv
        refine .inl ⟨rho, F, env, m, A, En, ?_⟩
        rw [e]
        intro v r1 F1 H1 s1 A1 q1
        cases q1 with
        | lst hs hr => exact ⟨_, rfl, ⟨_, SqL.of (A1.ex _ _ hs)⟩, q _ _ _ _ s1 A1 (walks_list (fun F2 H2 e1 e2 => SqL.of (e2 _ _ (e1 _ _ hs))) hr)⟩
      · cases hv
        refine .inl ⟨rho, F, env, m, A, En, ?_⟩
        rw [e]
        intro v r1 F1 H1 s1 A1 q1
        cases q1 with
        | scr hs => exact ⟨_, rfl, ⟨_, A1.ex.seq hs⟩, q _ _ _ _ s1 A1 (walks_list (fun F2 H2 e1 e2 => e2.seq (e1.seq hs)) (RpL.ints _))⟩
      · cases hv
        refine .inr (.inr ⟨rho, F, env, m, A, En, ?_⟩)
        rw [e]
        intro v r1 F1 H1 s1 A1 q1
        cases q1
        exact ⟨_, rfl, q _ _ _ _ s1 A1 walks_str⟩
      · cases hv
    · exact q.elim
theorem pi_rng1 {tg a : Expr} {p pos : Pos} {sa : SE} (hg : Gl X "range") (hm : X.mg "range" = none) (hl : plainB a = true) (h : PE X a (tE X W sa)) : PI X tg (.Call (.Name "range" p) [a] [] pos) (tI X W fun env m => (sa env m).bind fun d m => rngD [d] m) := by
  refine piImp (pi_range1 hg hm (pa_cons h pa_nil (star_cons hl)) (star_cons hl)) ?_
  rintro σ H Rr ⟨rho, F, env, m, A, En, q⟩
  refine ⟨rho, F, env, m, A, En, ?_⟩
  dsimp only at q
  cases e : sa env m with
  | no => rw [e] at q; exact q
  | ex c m1 => rw [e] at q; exact q
  | ok d m1 =>
    rw [e] at q
    intro v r1 F1 H1 s1 A1 q1
    show ∃ j : Int, [v] = [V.int j] ∧ _
    simp only [R.bind, rngD] at q
    split at q
    · rename_i d' m2 hd
      split at hd
      · rename_i j hj
        cases hj
        split at hd
        · rename_i hc
          cases hd
          cases q1
          refine ⟨j, rfl, hc.1, hc.2, q _ _ _ _ s1 A1 ?_⟩
          have := walks_rng (K := X.K) (mg := X.mg) (rho := r1) (F := F1) (lo := 0) (n := j.toNat)
          simpa using this
        · cases hd
      · rename_i hj; cases hj
      · cases hd
    · rename_i hd
      exfalso
      (repeat' split at hd) <;> cases hd
    · exact q.elim
theorem pi_rng2 {tg a b : Expr} {p pos : Pos} {sa sb : SE} (hg : Gl X "range") (hm : X.mg "range" = none) (hl : plainB a = true) (hl2 : plainB b = true) (h : PE X a (tE X W sa)) (h2 : PE X b (tE X W sb)) :
    PI X tg (.Call (.Name "range" p) [a, b] [] pos) (tI X W fun env m => (sa env m).bind fun d m => (sb env m).bind fun e m => rngD [d, e] m) := by
  refine piImp (pi_range2 hg hm (pa_cons h (pa_cons h2 pa_nil (star_cons hl2)) (star_cons hl)) (by rw [star_cons hl, star_cons hl2]; rfl) (star_cons hl2)) ?_
  rintro σ H Rr ⟨rho, F, env, m, A, En, q⟩
  refine ⟨rho, F, env, m, A, En, ?_⟩
  dsimp only at q
  cases e : sa env m with
  | no => rw [e] at q; exact q
  | ex c m1 => rw [e] at q; exact q
  | ok d m1 =>
    rw [e] at q
    intro v r1 F1 H1 s1 A1 q1
    refine ⟨r1, F1, env, m1, A1, En.mono s1.onto, ?_⟩
    simp only [R.bind] at q
    cases e2 : sb env m1 with
    | no => rw [e2] at q; exact q
    | ex c m2 => rw [e2] at q; exact fun cls dx r2 F2 H2 s2 => q cls dx r2 F2 H2 (s1.trans s2)
    | ok d2 m2 =>
      rw [e2] at q
      intro u r2 F2 H2 s2 A2 q2
      show ∃ i j : Int, [v, u] = [V.int i, V.int j] ∧ _
      simp only [rngD] at q
      split at q
      · rename_i d' m3 hd
        split at hd
        · rename_i j hj; cases hj
        · rename_i i j hj
          cases hj
          split at hd
          · rename_i hc
            cases hd
            cases q1
            cases q2
            exact ⟨i, j, rfl, hc, q _ _ _ _ (s1.trans s2) A2 walks_rng⟩
          · cases hd
        · cases hd
      · rename_i hd
        exfalso
        (repeat' split at hd) <;> cases hd
      · exact q.elim
end
end HB
namespace HB
open PySem L2
/-! ### targets -/
theorem wipe_get (σ : L2.St) (j : Nat) : ∀ vs : List Nat, (L2.wipe σ vs)[j]? = if j ∈ vs then (σ[j]?).map (fun _ => none) else σ[j]?
  | [] => by simp [L2.wipe]
  | v :: vs => by
    unfold L2.wipe
    by_cases h : v = j
    · subst h
      have hl : (L2.wipe σ vs).length = σ.length := wipe_length σ vs
      rw [List.getElem?_set_self']
      have := wipe_get σ v vs
      by_cases hv : v < σ.length
      · have e : σ[v]? = some σ[v] := by simp [hv]
        rw [e] at this ⊢
        simp only [List.mem_cons, true_or, if_true, Option.map_some]
        split at this <;> rw [this] <;> rfl
      · have e : σ[v]? = none := by simpa using hv
        rw [e] at this ⊢
        simp only [List.mem_cons, true_or, if_true, Option.map_none]
        split at this <;> rw [this] <;> rfl
    · rw [List.getElem?_set_ne h, wipe_get σ j vs]
      have : j ≠ v := fun e => h e.symm
      simp [this]
theorem wipe_set {σ : L2.St} {i : Nat} {x : Option V} {vs : List Nat} (h : i ∈ vs) : L2.wipe (σ.set i x) vs = L2.wipe σ vs := by
  apply List.ext_getElem?
  intro j
  rw [wipe_get, wipe_get]
  by_cases hj : j ∈ vs
  · rw [if_pos hj, if_pos hj]
    by_cases e : i = j
    · subst e
      rw [List.getElem?_set_self']
      cases σ[i]? <;> rfl
    · rw [List.getElem?_set_ne e]
  · rw [if_neg hj, if_neg hj, List.getElem?_set_ne (fun e => hj (by rw [← e]; exact h))]
/-- σ2 is σ but for the slots gs -/
def SetIn (σ σ2 : L2.St) (gs : List Nat) : Prop := ∀ vs : List Nat, (∀ i ∈ gs, i ∈ vs) → L2.wipe σ2 vs = L2.wipe σ vs
def tG (X : Cx) (g : G) : TG := fun v σ H Q => ∃ rho F env m d, Abs X.K X.mg rho F H m ∧ RpEnv X.K X.mg rho F σ env ∧ Rp X.K X.mg rho F v d ∧ match asgG g d env with
  | some env2 => ∀ σ2, RpEnv X.K X.mg rho F σ2 env2 → SetIn σ σ2 (gSlots g) → Q σ2 H
  | none => False
def tGs (X : Cx) (g : G) : TGs := fun vs σ H Q => ∃ rho F env m ds, Abs X.K X.mg rho F H m ∧ RpEnv X.K X.mg rho F σ env ∧ RpL X.K X.mg rho F vs ds ∧ match asgGs g ds env with
  | some env2 => ∀ σ2, RpEnv X.K X.mg rho F σ2 env2 → SetIn σ σ2 (gSlots g) → Q σ2 H
  | none => False
section
variable {X : Cx} {C : Ck}
structure GdT (X : Cx) (C : Ck) : Prop where
  N : X.N = C.N
  sc : X.env.scope = C.sc
  fn : ∀ x, (match C.raw with
    | none => True
    | some s => s.names.lookup x = some .cell) → X.fn x = true
  nd : X.N.Nodup
  calm : X.calm = true
theorem GdE.t {W : WX} {fs : List Sem} {k : Nat} (g : GdE X W C fs k) : GdT X C := ⟨g.N, g.sc, g.fn, g.nd, g.calm⟩
theorem asgEach_len (env : PySem.Env) : ∀ es : List Expr, (assignEach es env).length = es.length
  | [] => rfl
  | e :: es => by
    cases e <;> simp [assignEach, asgEach_len env es]
theorem asgEach_cons {e : Expr} {es : List Expr} {env : PySem.Env} (h : plainB e = true) : assignEach (e :: es) env = (false, assign e env) :: assignEach es env := by
  cases e <;> first | rfl | (simp [plainB] at h)
theorem asgEach_star {env : PySem.Env} : ∀ {es : List Expr}, es.all plainB = true → (assignEach es env).findIdx? (·.1) = none
  | [], _ => rfl
  | e :: es, h => by
    simp only [List.all_cons, Bool.and_eq_true] at h
    rw [asgEach_cons h.1]
    simp [List.findIdx?_cons, asgEach_star h.2]
theorem chkGs_plain : ∀ {g : G} {es : List Expr}, chkGs C g es = true → es.all plainB = true
  | g, [], _ => rfl
  | .cons g gs, e :: es, h => by
    simp only [chkGs, Bool.and_eq_true] at h
    simp only [List.all_cons, Bool.and_eq_true]
    exact ⟨h.1.1, chkGs_plain h.2⟩
theorem asgGs_len : ∀ {g : G} {ds : List D} {env env2 : Env} {es : List Expr}, chkGs C g es = true → asgGs g ds env = some env2 → ds.length = es.length
  | .nil, [], _, _, [], _, _ => rfl
  | .cons g gs, d :: ds, env, env2, e :: es, h, q => by
    simp only [chkGs, Bool.and_eq_true] at h
    simp only [asgGs] at q
    split at q
    · simp [asgGs_len h.2 q]
    · cases q
theorem SetIn.trans {σ σ1 σ2 : L2.St} {a b : List Nat} (h : SetIn σ σ1 a) (h' : SetIn σ1 σ2 b) : SetIn σ σ2 (a ++ b) := fun vs hv =>
  (h' vs fun i hi => hv i (List.mem_append_right _ hi)).trans (h vs fun i hi => hv i (List.mem_append_left _ hi))
mutual
theorem sndG (Gd : GdT X C) : ∀ (g : G) {e : Expr}, chkG C g e = true → PG X e (tG X g)
  | .name i, .Name x pos, h => by
    simp only [chkG, Bool.and_eq_true, decide_eq_true_eq] at h
    obtain ⟨h1, h2⟩ := h
    have hx : Loc X.env.scope x ∧ (X.fn x = true ∨ X.env.scope.names.lookup x = some .local) := by
      unfold locB at h2
      rw [Gd.sc]
      split at h2
      · rename_i e; exact ⟨.inl e, .inr e⟩
      · rename_i e
        refine ⟨.inr e, .inl (Gd.fn x ?_)⟩
        split at h2
        · rename_i e2; first | trivial | (rw [e2]; trivial)
        · rename_i s e2; first | (rw [e2]; simpa using h2) | simpa using h2
      · cases h2
    refine ⟨fun pins s σ H v u Q I r q => ?_⟩
    refine (pg_name (i := i) Gd.nd (by rw [Gd.N]; exact h1) hx.1 hx.2).run pins s σ H v u Q I r ?_
    obtain ⟨rho, F, env, m, d, A, En, rv, q⟩ := q
    simp only [asgG] at q
    exact q _ (En.set rv i) fun vs hv => wipe_set (hv i (by simp [gSlots]))
  | .tup gs, .Tuple es k pos, h => by
    simp only [chkG] at h
    refine ⟨fun pins s σ H v u Q I r q => ?_⟩
    refine (pg_tup (n := es.length) Gd.calm (sndGs Gd gs h) (asgEach_len _ _) (asgEach_star (chkGs_plain h))).run pins s σ H v u Q I r ?_
    obtain ⟨rho, F, env, m, d, A, En, rv, q⟩ := q
    cases d with
    | tup ds =>
      simp only [asgG] at q
      obtain ⟨p, vs, rfl, hp, hr⟩ := rv.tupH A
      refine ⟨p, vs, rfl, hp, ?_, rho, F, env, m, ds, A, En, hr, q⟩
      split at q
      · rename_i env2 he
        rw [hr.length]
        exact asgGs_len h he
      · exact q.elim
    | _ => simp only [asgG] at q
  | .nil, _, h => by simp [chkG] at h
  | .cons _ _, _, h => by simp [chkG] at h
  | .name _, .BoolOp .., h | .name _, .NamedExpr .., h | .name _, .BinOp .., h | .name _, .UnaryOp .., h | .name _, .Lambda .., h | .name _, .IfExp .., h | .name _, .Dict .., h | .name _, .Set .., h | .name _, .ListComp .., h | .name _, .SetComp .., h
  | .name _, .DictComp .., h | .name _, .GeneratorExp .., h | .name _, .Await .., h | .name _, .Yield .., h | .name _, .YieldFrom .., h | .name _, .Compare .., h | .name _, .Call .., h | .name _, .FormattedValue .., h | .name _, .JoinedStr .., h
  | .name _, .Constant .., h | .name _, .Attribute .., h | .name _, .Subscript .., h | .name _, .Starred .., h | .name _, .List .., h | .name _, .Tuple .., h | .name _, .Slice .., h => by simp [chkG] at h
  | .tup _, .BoolOp .., h | .tup _, .NamedExpr .., h | .tup _, .BinOp .., h | .tup _, .UnaryOp .., h | .tup _, .Lambda .., h | .tup _, .IfExp .., h | .tup _, .Dict .., h | .tup _, .Set .., h | .tup _, .ListComp .., h | .tup _, .SetComp .., h
  | .tup _, .DictComp .., h | .tup _, .GeneratorExp .., h | .tup _, .Await .., h | .tup _, .Yield .., h | .tup _, .YieldFrom .., h | .tup _, .Compare .., h | .tup _, .Call .., h | .tup _, .FormattedValue .., h | .tup _, .JoinedStr .., h
  | .tup _, .Constant .., h | .tup _, .Attribute .., h | .tup _, .Subscript .., h | .tup _, .Starred .., h | .tup _, .List .., h | .tup _, .Name .., h | .tup _, .Slice .., h => by simp [chkG] at h
theorem sndGs (Gd : GdT X C) : ∀ (g : G) {es : List Expr}, chkGs C g es = true → PGs X es (tGs X g)
  | .nil, [], _ => ⟨fun pins s σ H vs us Q I r q => by
    refine pgs_nil.run pins s σ H vs us Q I r ?_
    obtain ⟨rho, F, env, m, ds, A, En, rv, q⟩ := q
    cases rv with
    | nil => exact ⟨rfl, q σ En fun _ _ => rfl⟩
    | cons a b => simp [asgGs] at q⟩
  | .cons g gs, e :: es, h => by
    simp only [chkGs, Bool.and_eq_true] at h
    obtain ⟨⟨h0, h1⟩, h2⟩ := h
    refine ⟨fun pins s σ H vs us Q I r q => ?_⟩
    refine (pgs_cons (sndG Gd g h1) (sndGs Gd gs h2) (by rw [asgEach_cons h0]; rfl)).run pins s σ H vs us Q I r ?_
    obtain ⟨rho, F, env, m, ds, A, En, rv, q⟩ := q
    cases rv with
    | nil => simp [asgGs] at q
    | cons a b =>
      rename_i d _ ds
      simp only [asgGs] at q
      refine ⟨_, _, rfl, rho, F, env, m, d, A, En, a, ?_⟩
      cases e1 : asgG g d env with
      | none => rw [e1] at q; exact q
      | some env2 =>
        rw [e1] at q
        intro σ2 En2 s2
        refine ⟨rho, F, env2, m, ds, A, En2, b, ?_⟩
        simp only at q
        cases e2 : asgGs gs ds env2 with
        | none => rw [e2] at q; exact q
        | some env3 =>
          rw [e2] at q
          exact fun σ3 En3 s3 => q σ3 En3 (s2.trans s3)
  | .nil, _ :: _, h => by simp [chkGs] at h
  | .cons _ _, [], h => by simp [chkGs] at h
  | .name _, _, h => by simp [chkGs] at h
  | .tup _, _, h => by simp [chkGs] at h
end
end
end HB
namespace HB
open PySem L2
abbrev W0 : WX := fun _ _ _ _ => False
def lcStep (g : G) (vs : List Nat) (cB : Bool) (sc se : SE) (env : Env) (x : D) (m : M) : R (Option D) := match asgG g x (wipeD env vs) with
  | some env2 => (if cB then R.ok true m else (sc env2 m).bind truthB).bind fun t m => if t then (se env2 m).bind fun y m => .ok (some y) m else .ok none m
  | none => .no
def lcE (g : G) (vs : List Nat) (cB : Bool) (si sc se : SE) : SE := fun env m => (si env m).bind fun d m => match viewI d m with
  | some xs => if xs.length ≤ sizeLine then (lcGo (lcStep g vs cB sc se env) xs [] m).bind fun ys m => .ok (.lst ys) m else .no
  | none => .no
def tCond (X : Cx) (cB : Bool) (sc : SE) : TT := if cB then tYes else tT X W0 (fun env m => (sc env m).bind truthB)
section
variable {X : Cx} {W : WX}
theorem step_lc {g : G} {vs : List Nat} {cB : Bool} {si sc se : SE} (hgs : ∀ i ∈ gSlots g, i ∈ vs) : ∀ σ H Q, tE X W (lcE g vs cB si sc se) σ H Q → tLc (tI X W si) (tG X g) (tCond X cB sc) (tE X W0 se) vs σ H Q := by
  rintro σ H Q ⟨rho, F, env, m, A, En, h⟩
  refine ⟨rho, F, env, m, A, En, ?_⟩
  unfold lcE at h
  cases ei : si env m with
  | no => rw [ei] at h; exact h
  | ex c m1 => rw [ei] at h; exact h
  | ok d m1 =>
    rw [ei] at h
    simp only [R.bind] at h ⊢
    cases ev : viewI d m1 with
    | none => rw [ev] at h; exact h
    | some xs =>
      rw [ev] at h
      simp only at h ⊢
      split at h
      · rename_i hz
        intro J r1 F1 H1 s1 A1 wk Dl nD
        have nr1 : Dl ∉ r1 := A1.notmem nD
        have nF1 : F1 Dl = none := by
          cases e : F1 Dl with
          | none => rfl
          | some u => rw [A1.ex Dl u e] at nD; cases nD
        refine ⟨fun i n Hi => n = xs.length - i ∧ i ≤ xs.length ∧ ∃ ri Fi mi accV accD, Step r1 F1 H1 ri Fi Hi ∧ Abs X.K X.mg ri Fi Hi mi ∧ Hi Dl = some (.lst accV) ∧ Fi Dl = none ∧ Dl ∉ ri ∧ RpL X.K X.mg ri Fi accV accD ∧ accD.length ≤ i ∧
          RdE X.K X.mg W σ (relD X.K X.mg) rho F H Q ((lcGo (lcStep g vs cB sc se env) (xs.drop i) accD mi).bind fun ys m => .ok (.lst ys) m), ?_, ?_⟩
        · exact ⟨xs.length, by simp, Nat.zero_le _, r1, F1, m1, [], [], Step.refl.side nD, A1.side nr1 nF1, upd_same, nF1, nr1, .nil, Nat.le_refl _, h⟩
        · rintro i n Hi ⟨rfl, hi, ri, Fi, mi, accV, accD, st, Ai, hD, nFi, nri, racc, hacc, hq⟩
          by_cases hlt : i < xs.length
          · right
            have ex : xs[i]? = some xs[i] := by simp [hlt]
            obtain ⟨hgo, hy⟩ := wk.go i xs[i] ri Fi Hi mi ex st.onto Ai
            refine ⟨hgo, fun H' => i + 1 ≤ xs.length ∧ ∃ ri Fi mi accV accD, Step r1 F1 H1 ri Fi H' ∧ Abs X.K X.mg ri Fi H' mi ∧ H' Dl = some (.lst accV) ∧ Fi Dl = none ∧ Dl ∉ ri ∧ RpL X.K X.mg ri Fi accV accD ∧ accD.length ≤ i + 1 ∧
              RdE X.K X.mg W σ (relD X.K X.mg) rho F H Q ((lcGo (lcStep g vs cB sc se env) (xs.drop (i + 1)) accD mi).bind fun ys m => .ok (.lst ys) m), ?_, ?_⟩
            · rintro H' ⟨h1, h2⟩
              exact ⟨xs.length - (i + 1), by omega, rfl, h1, h2⟩
            · intro v H2 hyl
              obtain ⟨F3, st3, A3, rv⟩ := hy v H2 hyl
              obtain ⟨hD2, hF2⟩ := st3.old Dl _ hD nri
              rw [nFi] at hF2
              have dr : xs.drop i = xs[i] :: xs.drop (i + 1) := (List.drop_eq_getElem_cons hlt)
              rw [dr] at hq
              simp only [lcGo] at hq
              refine ⟨ri, F3, wipeD env vs, mi, xs[i], A3, ((En.mono s1.onto).mono (st.trans st3).onto).wipe vs, rv, ?_⟩
              cases eg : asgG g xs[i] (wipeD env vs) with
              | none =>
                simp only [lcStep, eg] at hq
                exact hq
              | some env2 =>
                intro σ2 En2 hset
                have hw : L2.wipe σ2 vs = L2.wipe σ vs := by
                  rw [hset vs hgs]
                  apply List.ext_getElem?
                  intro j
                  rw [wipe_get, wipe_get]
                  by_cases hj : j ∈ vs
                  · rw [if_pos hj, if_pos hj]
                    cases σ[j]? <;> rfl
                  · rw [if_neg hj, if_neg hj]
                refine ⟨hw, ?_⟩
                simp only [lcStep, eg] at hq
                -- the test
                have after : ∀ (t : Bool) (mt : M) (rt : List Addr) (Ft Ht : Hp), Step ri F3 H2 rt Ft Ht → Abs X.K X.mg rt Ft Ht mt →
                    RdE X.K X.mg W σ (relD X.K X.mg) rho F H Q (((match (if t = true then (se env2 mt).bind fun y m => R.ok (some y) m else R.ok none mt : R (Option D)) with
                      | .ok (some y) m => lcGo (lcStep g vs cB sc se env) (xs.drop (i + 1)) (accD ++ [y]) m
                      | .ok none m => lcGo (lcStep g vs cB sc se env) (xs.drop (i + 1)) accD m
                      | _ => .no) : R (List D)).bind fun ys m => .ok (.lst ys) m) →
                    if t = true then tE X W0 se σ2 Ht (fun y H4 => ∃ acc, H4 Dl = some (.lst acc) ∧ acc.length < sizeLine ∧ i + 1 ≤ xs.length ∧ ∃ ri Fi mi accV accD, Step r1 F1 H1 ri Fi (upd H4 Dl (.lst (acc ++ [y]))) ∧ Abs X.K X.mg ri Fi (upd H4 Dl (.lst (acc ++ [y]))) mi ∧ (upd H4 Dl (.lst (acc ++ [y]))) Dl = some (.lst accV) ∧ Fi Dl = none ∧ Dl ∉ ri ∧ RpL X.K X.mg ri Fi accV accD ∧ accD.length ≤ i + 1 ∧
                      RdE X.K X.mg W σ (relD X.K X.mg) rho F H Q ((lcGo (lcStep g vs cB sc se env) (xs.drop (i + 1)) accD mi).bind fun ys m => .ok (.lst ys) m))
                    else (i + 1 ≤ xs.length ∧ ∃ ri Fi mi accV accD, Step r1 F1 H1 ri Fi Ht ∧ Abs X.K X.mg ri Fi Ht mi ∧ Ht Dl = some (.lst accV) ∧ Fi Dl = none ∧ Dl ∉ ri ∧ RpL X.K X.mg ri Fi accV accD ∧ accD.length ≤ i + 1 ∧
                      RdE X.K X.mg W σ (relD X.K X.mg) rho F H Q ((lcGo (lcStep g vs cB sc se env) (xs.drop (i + 1)) accD mi).bind fun ys m => .ok (.lst ys) m)) := by
                  intro t mt rt Ft Ht st4 A4 hq4
                  obtain ⟨hD4, hF4⟩ := st4.old Dl _ hD2 nri
                  rw [hF2] at hF4
                  have nrt : Dl ∉ rt := by
                    obtain ⟨q, e1, e2⟩ := st4.pre
                    rw [e1]
                    intro z
                    rcases List.mem_append.mp z with z | z
                    · exact nri z
                    · rw [e2 _ z] at hD2; cases hD2
                  cases t with
                  | false =>
                    refine iteF ⟨hlt, rt, Ft, mt, accV, accD, (st.trans st3).trans st4, A4, hD4, hF4, nrt, racc.mono (st3.trans st4).onto, by omega, ?_⟩
                    simpa using hq4
                  | true =>
                    refine iteT ⟨rt, Ft, env2, mt, A4, En2.mono st4.onto, ?_⟩
                    simp only [if_true] at hq4
                    cases es : se env2 mt with
                    | no => rw [es] at hq4; exact hq4
                    | ex c m5 => rw [es] at hq4; exact hq4.elim
                    | ok y m5 =>
                      rw [es] at hq4
                      intro yv r5 F5 H5 st5 A5 ry
                      obtain ⟨hD5, hF5⟩ := st5.old Dl _ hD4 nrt
                      rw [hF4] at hF5
                      have nr5 : Dl ∉ r5 := by
                        obtain ⟨q, e1, e2⟩ := st5.pre
                        rw [e1]
                        intro z
                        rcases List.mem_append.mp z with z | z
                        · exact nrt z
                        · rw [e2 _ z] at hD4; cases hD4
                      refine ⟨accV, hD5, by rw [racc.length]; omega, hlt, r5, F5, m5, accV ++ [yv], accD ++ [y], (((st.trans st3).trans st4).trans st5).side nD, A5.side nr5 hF5, upd_same, hF5, nr5, ?_, by simp; omega, hq4⟩
                      exact (racc.mono ((st3.trans st4).trans st5).onto).append (.cons ry .nil)
                unfold tCond
                cases cB with
                | true =>
                  simp only [if_true, R.bind] at hq ⊢
                  exact after true mi ri F3 H2 Step.refl A3 hq
                | false =>
                  simp only [Bool.false_eq_true, if_false] at hq ⊢
                  refine ⟨ri, F3, env2, mi, A3, En2, ?_⟩
                  dsimp only
                  cases ec : (sc env2 mi).bind truthB with
                  | no => rw [ec] at hq; exact hq.elim
                  | ex c m4 => rw [ec] at hq; exact hq.elim
                  | ok t m4 =>
                    rw [ec] at hq
                    simp only [R.bind] at hq
                    intro tv r4 F4 H4 st4 A4 et
                    subst et
                    exact after _ m4 r4 F4 H4 st4 A4 hq
          · left
            have e : i = xs.length := by omega
            subst e
            refine ⟨wk.stop ri Fi Hi mi st.onto Ai, ?_⟩
            simp only [List.drop_length, lcGo, R.bind] at hq
            exact hq _ _ _ _ (s1.trans (st.sideFix nD nFi)) (Ai.sideFix nri nFi hD) (.lst upd_same (racc.mono ⟨fun h => h, fun b u h => by rw [upd_ne (ne_of_none h nFi)]; exact h⟩))
      · exact h.elim
end
end HB
namespace HB
open PySem L2
def isBoolOp : Expr → Bool
  | .BoolOp _ _ _ => true
  | _ => false
structure SndE (X : Cx) (W : WX) (fs : List Sem) (e : T) (pe : Expr) : Prop where
  v : PE X pe (tE X W (evE fs e))
  t : PT X pe (tT X W (evT fs e))
  w : isBoolOp pe = true → PW X pe (tT X W (evT fs e))
def SndP (fs : List Sem) (e : T) : Prop := ∀ X W C k, GdE X W C fs k → (∀ pe, chk C e pe = true → SndE X W fs e pe) ∧ (∀ ps, chkA C e ps = true → PA X ps (tA X W (evA fs e)))
section
variable {X : Cx} {W : WX} {C : Ck} {fs : List Sem} {k : Nat}
/-- a test by the truth of its value -/
theorem SndE.plain {e : T} {pe : Expr} (h : PE X pe (tE X W (evE fs e))) (he : ∀ whole, isTrue pe X.env whole = (do let v ← whole; standAt pe.pos; holding [v] (truthy v))) (nb : isBoolOp pe = false) : SndE X W fs e pe :=
  ⟨h, PT.imp (pt_truth h he) fun σ H Q q => step_truth σ H Q q, fun z => by rw [nb] at z; cases z⟩
theorem vis_of {sc : Scope} {x : Str} (h : visB sc x = true) : Vis sc x := by
  unfold visB at h
  split at h
  · rename_i e; exact .inl e
  · rename_i e; exact .inr (.inl e)
  · rename_i e; exact .inr (.inr e)
  · cases h
theorem okN_of {x : Str} (h : okN x = true) : (x == ("__debug__" : Str)) = false ∧ (x == ("__classdict__" : Str)) = false ∧ x ≠ "__name__" := by
  simp only [okN, Bool.and_eq_true, Bool.not_eq_true', decide_eq_true_eq] at h
  exact ⟨h.1.1, h.1.2, h.2⟩
theorem gl_of (g : GdE X W C fs k) {x : Str} (h : glB C.sc x = true) : Gl X x ∧ (x == ("__debug__" : Str)) = false ∧ x ≠ "__name__" := by
  simp only [glB, Bool.and_eq_true, decide_eq_true_eq] at h
  obtain ⟨h1, h2⟩ := h
  obtain ⟨a, _, c⟩ := okN_of h2
  refine ⟨?_, a, c⟩
  show X.env.scope.names.lookup x = _
  rw [g.sc]; exact h1
theorem GdE.blk (g : GdE X W C fs k) {scope : Scope} {own : List (Str × Nat)} (s : Shared) (H : Hp) (A : Addr) (cl : List (Str × Addr)) (fp : List Addr) :
    GdE (X.blk s H scope (compEnvC scope cl A X.env) fp) W0 { C with sc := relS scope C.sc, raw := some scope } fs k where
  N := g.N
  sc := by show relS scope X.env.scope = _; rw [g.sc]
  fn := fun x h => by
    show (scope.names.lookup x == some .cell) = true
    simp only at h
    rw [h]; rfl
  nd := g.nd
  calm := g.calm
  room := g.room
  gd := g.gd
  tk := takes0
  fl := g.fl
  fok := g.fok
  gi := g.gi
  bs := g.bs
  nob := g.nob
theorem units_of (g : GdE X W C fs k) : X.A.units + 130 < cLine := by have := g.room.un; omega
theorem blt_call (g : GdE X W C fs k) (b : BF) : CallD X (bfV b) (bfD b) := by
  cases b
  · exact cd_abs
  · exact cd_max g.calm
  · exact cd_min g.calm
  · exact cd_sum g.calm
  · exact cd_int
  · exact cd_str
  · exact cd_len
  · exact cd_all g.calm
  · exact cd_any g.calm
  · exact cd_tuple
  · exact cd_list
  · exact cd_listM
  · exact cd_repr g.gd (units_of g) g.bs
theorem bfD_noex {b : BF} {ds : List D} {m : M} {c : Exc} {m' : M} : bfD b ds m ≠ .ex c m' := by
  intro h
  cases b <;> simp only [bfD, absD, maxD, minD, sumD, intD, strD, lenD, allD, anyD, tupleD, listD, listMD, reprD] at h <;> (repeat' split at h) <;> cases h
theorem boot_bf (b : BF) : bootBuiltins (bfX b) = some (bfV b) := by
  cases b <;> decide +kernel
theorem mem_bf (b : BF) : bfX b ∈ bltAll := by
  cases b <;> decide +kernel
/-- f(e, ..), f a built-in -/
theorem pe_blt (g : GdE X W C fs k) {b : BF} {e : Expr} {es : List Expr} {p pos : Pos} {sa : SA} (hg : glB C.sc (bfX b) = true) (hp : (e :: es).all plainB = true) (ha : PA X (e :: es) (tA X W sa)) :
    PE X (.Call (.Name (bfX b) p) (e :: es) [] pos) (tE X W fun env m => (sa env m).bind fun ds m => bfD b ds m) := by
  obtain ⟨hgl, hd, hn⟩ := gl_of g hg
  simp only [List.all_cons, Bool.and_eq_true] at hp
  have key : ∀ σ H Q, tE X W (fun env m => (sa env m).bind fun ds m => bfD b ds m) σ H Q → tCB (fun xs H Q => ∃ rho F m ds, Abs X.K X.mg rho F H m ∧ RpL X.K X.mg rho F xs ds ∧ RdO X.K X.mg rho F H Q (bfD b ds m)) (tA X W sa) σ H Q := by
    rintro σ H Q ⟨rho, F, env, m, A, En, h⟩
    refine ⟨rho, F, env, m, A, En, RdE.bind h fun ds m1 vs r1 F1 H1 s1 A1 q1 h1 => ?_⟩
    exact ⟨r1, F1, m1, ds, A1, q1, h1.of0 fun c m' => bfD_noex⟩
  have cd := blt_call g b
  have hm := g.nob _ (mem_bf b)
  have bt := boot_bf b
  cases hv : bfV b with
  | builtin id =>
    rw [hv] at cd bt
    exact PE.imp (pe_callB cd hgl hm bt ha hn hd (star_cons hp.1) (star_any hp.2)) key
  | type T =>
    rw [hv] at cd bt
    exact PE.imp (pe_callTy cd hgl hm bt ha hn hd (star_cons hp.1) (star_any hp.2)) key
  | _ => cases b <;> simp [bfV] at hv
/-- isinstance(x, T) -/
theorem cls_boot {c : String} (h : c ∈ clsNames) : bootBuiltins (Str.ofString c) = some (.type c) ∧ Str.ofString c ∈ bltAll := by
  simp only [clsNames, List.mem_cons, List.not_mem_nil, or_false] at h
  rcases h with rfl | rfl | rfl | rfl | rfl | rfl <;> exact ⟨by decide +kernel, by decide +kernel⟩
theorem isi_noex {d : D} {c : String} {m : M} {e : Exc} {m' : M} : isiD d c m ≠ .ex e m' := by
  intro h
  unfold isiD at h
  (repeat' split at h) <;> cases h
theorem pe_isi (g : GdE X W C fs k) {a : Expr} {c : String} {p p2 pos : Pos} {sa : SE} (hg : glB C.sc "isinstance" = true) (hg2 : glB C.sc (Str.ofString c) = true) (hc : c ∈ clsNames) (hp : plainB a = true) (ha : PE X a (tE X W sa)) :
    PE X (.Call (.Name "isinstance" p) [a, .Name (Str.ofString c) p2] [] pos) (tE X W fun env m => (sa env m).bind fun d m => isiD d c m) := by
  obtain ⟨hgl, hd, hn⟩ := gl_of g hg
  obtain ⟨hgl2, hd2, hn2⟩ := gl_of g hg2
  obtain ⟨bt, mb⟩ := cls_boot hc
  refine PE.imp (pe_callB (x := "isinstance") (id := "isinstance") call_isi hgl (g.nob _ (by decide +kernel)) (by decide +kernel)
    (pa_cons ha (pa_cons (pe_bltn (v := .ty c) hgl2 (g.nob _ mb) bt rfl hn2 hd2) pa_nil) (star_cons hp)) hn hd (star_cons hp) rfl) ?_
  rintro σ H Q ⟨rho, F, env, m, A, En, h⟩
  refine ⟨rho, F, env, m, A, En, RdE.bind h fun d m1 v r1 F1 H1 s1 A1 q1 h1 => ?_⟩
  have h2 := h1.of0 fun c m' => isi_noex
  unfold isiD at h2
  split at h2
  · rename_i t ht
    split at h2
    · rename_i b hb
      exact ⟨v, .ty c, .type t, .type c, b, rfl, .ty c, ty_of A1 q1 ht, kit_ty hb, h2.here A1 .bl⟩
    · exact h2.elim
  · exact h2.elim
theorem base_plain {o : Expr} {name : Str} {env : PySem.Env} {whole : PySem.Sem Value} (h : noCall0 o = true) : attributeBase o name env whole = whole := by
  unfold attributeBase
  split
  · simp [noCall0] at h
  · rfl
theorem join_noex {d e : D} {m : M} {c : Exc} {m' : M} : joinD d e m ≠ .ex c m' := by
  intro h
  unfold joinD at h
  (repeat' split at h) <;> cases h
theorem popAt_noex {d e : D} {m : M} {c : Exc} {m' : M} : popAtD d e m ≠ .ex c m' := by
  intro h
  unfold popAtD at h
  (repeat' split at h) <;> cases h
theorem pe_joinD {a b : Expr} {ap pos : Pos} {sa sb : SE} (h0 : noCall0 a = true) (hp : plainB b = true) (hl : (ap.endLine == pos.line) = true) (ha : PE X a (tE X W sa)) (hb : PE X b (tE X W sb)) :
    PE X (.Call (.Attribute a "join" ap) [b] [] pos) (tE X W fun env m => (sa env m).bind fun d m => match d with
      | .str x => (sb env m).bind fun e m => joinD (.str x) e m
      | _ => .no) := by
  refine PE.imp (pe_join ha hb (star_cons hp) (base_plain h0) hl) ?_
  rintro σ H Q ⟨rho, F, env, m, A, En, h⟩
  refine ⟨rho, F, env, m, A, En, RdE.bind h fun d m1 v r1 F1 H1 s1 A1 q1 h1 => ?_⟩
  split at h1
  · cases q1
    refine ⟨⟨_, rfl⟩, r1, F1, env, m1, A1, En.mono s1.onto, RdE.bind h1 fun e m2 u r2 F2 H2 s2 A2 q2 h2 => ?_⟩
    have h3 := h2.of0 fun c m' => join_noex
    unfold joinD at h3
    simp only at h3
    split at h3
    · rename_i ys hy
      split at h3
      · rename_i hc
        cases hv : viewQ e m2 with
        | none => rw [hv] at hy; cases hy
        | some ds =>
          rw [hv] at hy
          have e1 := asStrs_eq (show asStrs ds = some ys from hy)
          subst e1
          obtain ⟨p, vs, rfl, hp, q3⟩ := q2.viewQ A2 hv
          have e2 := q3.strs
          subst e2
          exact ⟨_, p, ys, rfl, rfl, hp, hc, h3.here A2 .str⟩
      · exact h3.elim
    · exact h3.elim
  · exact h1.elim
theorem pe_popD {a b : Expr} {ap pos : Pos} {sa sb : SE} (h0 : noCall0 a = true) (hp : plainB b = true) (hl : (ap.endLine == pos.line) = true) (ha : PE X a (tE X W sa)) (hb : PE X b (tE X W sb)) :
    PE X (.Call (.Attribute a "pop" ap) [b] [] pos) (tE X W fun env m => (sa env m).bind fun d m => match d with
      | .ref k => match m[k]? with
        | some (.lst _) => (sb env m).bind fun e m => popAtD (.ref k) e m
        | _ => .no
      | _ => .no) := by
  refine PE.imp (pe_bm PySem.F.plainAttrs_list PySem.F.slot_list_pop PySem.F.type_list_pop mt_popAt ha (pa_cons hb pa_nil (star_cons hp)) (base_plain h0) (by rw [star_cons hp]; rfl) hl (star_cons hp) rfl) ?_
  rintro σ H Q ⟨rho, F, env, m, A, En, h⟩
  refine ⟨rho, F, env, m, A, En, RdE.bind h fun d m1 v r1 F1 H1 s1 A1 q1 h1 => ?_⟩
  split at h1
  · split at h1
    · rename_i kk ds hm
      cases q1 with
      | ref hi =>
        rename_i p
        obtain ⟨_, vs0, h00, _⟩ := A1.own _ _ _ hi hm
        refine ⟨.inl ⟨rfl, _, SqL.of h00⟩, r1, F1, env, m1, A1, En.mono s1.onto, RdE.bind h1 fun e m2 u r2 F2 H2 s2 A2 q2 h2 => ?_⟩
        have h3 := h2.of0 fun c m' => popAt_noex
        unfold popAtD at h3
        split at h3
        · rename_i k2 i e1 
          cases e1
          split at h3
          · rename_i ds2 hm2
            split at h3
            · rename_i hb63
              split at h3
              · rename_i j hj
                split at h3
                · rename_i y hy
                  cases q2
                  have hi2 := s2.ix hi
                  obtain ⟨nF, vs, h0, r⟩ := A2.own _ _ _ hi2 hm2
                  obtain ⟨yv, hyv, ry⟩ := r.get hy
                  obtain ⟨st, A3⟩ := A2.write (o := .lst (vs.eraseIdx j)) (y := .lst (ds2.eraseIdx j)) hi2 hm2 nF ⟨_, h0⟩ ⟨nF, _, upd_same, r.eraseIdx j⟩
                  exact ⟨_, vs, i, j, yv, rfl, rfl, h0, hb63.1, hb63.2, by rw [r.length]; exact hj, hyv, h3 _ _ _ _ st A3 ry⟩
                · exact h3.elim
              · exact h3.elim
            · exact h3.elim
          · exact h3.elim
        · exact h3.elim
    · exact h1.elim
  · exact h1.elim
end
end HB
namespace HB
open PySem L2
section
variable {fs : List Sem}
theorem some_sem {X : Cx} {W : WX} {C : Ck} {k : Nat} (g : GdE X W C fs k) {j : Nat} {x : Str} {n : Nat} (hj : C.fns[j]? = some (x, n)) : ∃ sem, fs[j]? = some sem := by
  have h1 := (List.getElem?_eq_some_iff.mp hj).1
  have h2 := g.fl
  exact ⟨fs[j], by simp [Nat.lt_of_lt_of_le h1 h2]⟩
theorem snd_call0 {X : Cx} {W : WX} {C : Ck} {k : Nat} (g : GdE X W C fs k) {j : Nat} {x : Str} {p pos : Pos} (hj : C.fns[j]? = some (x, 0)) (hg : glB C.sc x = true) :
    PE X (.Call (.Name x p) [] [] pos) (tE X W fun env m => (R.ok [] m : R (List D)).bind fun ds m => match fs[j]? with
      | some sem => callD sem ds m
      | none => .no) := by
  obtain ⟨sem, hf⟩ := some_sem g hj
  obtain ⟨hgl, hd, hn⟩ := gl_of g hg
  obtain ⟨f, fd, qs, hm, hk, hb, hl, G⟩ := g.fok j x 0 sem hj hf
  refine PE.imp (peG0 (dvs := []) (ds := []) G g.room g.gd hgl hm hk hb .nil g.tk hd) fun σ H Q q => ?_
  obtain ⟨rho, F, env, m, A, En, h⟩ := q
  simp only [R.bind, hf] at h
  exact ⟨by rw [hl]; rfl, call_data A .nil rfl h⟩
theorem snd_call {X : Cx} {W : WX} {C : Ck} {k : Nat} (g : GdE X W C fs k) {j : Nat} {x : Str} {e : Expr} {es : List Expr} {p pos : Pos} {sa : SA} (hj : C.fns[j]? = some (x, (e :: es).length)) (hg : glB C.sc x = true) (hpl : (e :: es).all plainB = true) (ha : PA X (e :: es) (tA X W sa)) (hlen : ∀ env m ds m1, sa env m = .ok ds m1 → ds.length = (e :: es).length) :
    PE X (.Call (.Name x p) (e :: es) [] pos) (tE X W fun env m => (sa env m).bind fun ds m => match fs[j]? with
      | some sem => callD sem ds m
      | none => .no) := by
  obtain ⟨sem, hf⟩ := some_sem g hj
  obtain ⟨hgl, hd, hn⟩ := gl_of g hg
  obtain ⟨f, fd, qs, hm, hk, hb, hl, G⟩ := g.fok j x (e :: es).length sem hj hf
  have key : ∀ σ H Q, tE X W (fun env m => (sa env m).bind fun ds m => match fs[j]? with
      | some sem => callD sem ds m
      | none => .no) σ H Q → tA X W sa σ H (fun vs H1 => (vs ++ ([] : List V)).length = qs.length ∧ spD X.K X.mg (e :: es).length sem (vs ++ ([] : List V)) H1 Q (fun cls d H' => W cls d σ H')) := by
    rintro σ H Q ⟨rho, F, env, m, A, En, h⟩
    refine ⟨rho, F, env, m, A, En, ?_⟩
    simp only [hf] at h
    cases ea : sa env m with
    | no => rw [ea] at h; exact h
    | ex c m1 => rw [ea] at h; exact h
    | ok ds m1 =>
      rw [ea] at h
      intro vs r1 F1 H1 s1 A1 q1
      have hl2 := hlen env m ds m1 ea
      rw [List.append_nil]
      exact ⟨by rw [q1.length, hl2, hl], call_data A1 q1 hl2 (RdE.step (show RdE X.K X.mg W σ (relD X.K X.mg) rho F H Q (callD sem ds m1) from h) s1)⟩
  simp only [List.all_cons, Bool.and_eq_true] at hpl
  exact PE.imp (peG (dvs := []) (ds := []) G g.room g.gd hgl hm hk hb .nil g.tk ha hd (star_cons hpl.1) (star_any hpl.2)) key
theorem evA_len {C : Ck} : ∀ {t : T} {ps : List Expr} {env : Env} {m m1 : M} {ds : List D}, chkA C t ps = true → evA fs t env m = .ok ds m1 → ds.length = ps.length
  | .nil, [], _, _, _, _, _, h => by simp only [evA] at h; cases h; rfl
  | .cons a es, p :: ps, env, m, m1, ds, hc, h => by
    simp only [chkA, Bool.and_eq_true] at hc
    simp only [evA] at h
    cases ea : evE fs a env m with
    | no => rw [ea] at h; cases h
    | ex c m2 => rw [ea] at h; cases h
    | ok d m2 =>
      rw [ea] at h
      simp only [R.bind] at h
      cases er : evA fs es env m2 with
      | no => rw [er] at h; cases h
      | ex c m3 => rw [er] at h; cases h
      | ok ds2 m3 =>
        rw [er] at h
        cases h
        simp [evA_len hc.2 er]
/-! ### the evaluator's word on expressions is sound -/
theorem noA {e : T} (h : ∀ C ps, chkA C e ps = false) {X : Cx} {W : WX} {C : Ck} : ∀ ps, chkA C e ps = true → PA X ps (tA X W (evA fs e)) := fun ps q => by rw [h] at q; cases q
theorem snd_iter {X : Cx} {W : WX} {C : Ck} {k : Nat} (g : GdE X W C fs k) {it : T} {iter tg : Expr} (P : SndP fs it) (P1 : ∀ a, it = .rng1 a → SndP fs a) (P2 : ∀ a b, it = .rng2 a b → SndP fs a ∧ SndP fs b) (h : chkI C it iter = true) : PI X tg iter (tI X W (evE fs it)) := by
  unfold chkI at h
  split at h
  · simp only [Bool.and_eq_true, decide_eq_true_eq] at h
    obtain ⟨⟨⟨hx, hg⟩, hp⟩, hc⟩ := h
    subst hx
    exact pi_rng1 (gl_of g hg).1 (g.nob _ (by decide +kernel)) hp (((P1 _ rfl) X W C k g).1 _ hc).v
  · simp only [Bool.and_eq_true, decide_eq_true_eq] at h
    obtain ⟨⟨⟨⟨⟨hx, hg⟩, hp⟩, hp2⟩, hc⟩, hc2⟩ := h
    subst hx
    exact pi_rng2 (gl_of g hg).1 (g.nob _ (by decide +kernel)) hp hp2 (((P2 _ _ rfl).1 X W C k g).1 _ hc).v (((P2 _ _ rfl).2 X W C k g).1 _ hc2).v
  · exact pi_data ((P X W C k g).1 _ h).v
theorem folded_plain {iter : Expr} {env : PySem.Env} (h : noSet iter = true) : ∀ x, foldedSetIterable iter env x = pure x := by
  intro x
  cases iter <;> first | rfl | (simp [noSet] at h)
end
end HB
namespace HB
open PySem L2
/-- an operator by data, as it reads -/
abbrev rOf (X : Cx) (g : D → D → M → R D) : R2 := fun x y H Q => ∃ rho F m d e, Abs X.K X.mg rho F H m ∧ Rp X.K X.mg rho F x d ∧ Rp X.K X.mg rho F y e ∧ RdO X.K X.mg rho F H Q (g d e m)
section
variable {fs : List Sem}
theorem snd_var (i : Nat) : SndP fs (.var i) := fun X W C k g => ⟨fun pe h => by
  cases pe with
  | Name x pos =>
    simp only [chk, Bool.and_eq_true, decide_eq_true_eq] at h
    obtain ⟨⟨h1, h2⟩, h3⟩ := h
    obtain ⟨a, b, c⟩ := okN_of h3
    exact SndE.plain (PE.imp (pe_var (i := i) (by rw [g.N]; exact h1) (by rw [g.sc]; exact vis_of h2) a b) (step_var fun env m => by first | (rw [evE]; done) | (rw [evE]; rfl))) (fun _ => rfl) rfl
  | _ => simp [chk] at h, noA fun C ps => by cases ps <;> rfl⟩
theorem snd_const {e : T} {v : V} {d : D} {pe : Expr} {X : Cx} {W : WX} (he : ∀ env m, evE fs e env m = .ok d m) (hr : ∀ rho F, Rp X.K X.mg rho F v d) (hp : PE X pe (tC v)) (ht : ∀ whole, isTrue pe X.env whole = (do let v ← whole; standAt pe.pos; holding [v] (truthy v))) (nb : isBoolOp pe = false) : SndE X W fs e pe :=
  SndE.plain (PE.imp hp (step_c he hr)) ht nb
theorem snd_non : SndP fs .non := fun X W C k g => ⟨fun pe h => by
  cases pe with
  | Constant c j pos =>
    cases c with
    | none => exact snd_const (v := .non) (d := .non) (fun env m => by simp only [evE]) (fun _ _ => .non) pe_non (fun _ => rfl) rfl
    | _ => simp [chk] at h
  | _ => simp [chk] at h, noA fun C ps => by cases ps <;> rfl⟩
theorem snd_bl (b : Bool) : SndP fs (.bl b) := fun X W C k g => ⟨fun pe h => by
  cases pe with
  | Constant c j pos =>
    cases c with
    | bool c =>
      have e : b = c := by simpa [chk] using h
      subst e
      exact snd_const (v := .bl b) (d := .bl b) (fun env m => by simp only [evE]) (fun _ _ => .bl) pe_bl (fun _ => rfl) rfl
    | _ => simp [chk] at h
  | _ => simp [chk] at h, noA fun C ps => by cases ps <;> rfl⟩
theorem snd_int (i : Int) : SndP fs (.int i) := fun X W C k g => ⟨fun pe h => by
  cases pe with
  | Constant c j pos =>
    cases c with
    | int c =>
      have e : i = c := by simpa [chk] using h
      subst e
      exact snd_const (v := .int i) (d := .int i) (fun env m => by simp only [evE]) (fun _ _ => .int) pe_int (fun _ => rfl) rfl
    | _ => simp [chk] at h
  | _ => simp [chk] at h, noA fun C ps => by cases ps <;> rfl⟩
theorem snd_str (x : Str) : SndP fs (.str x) := fun X W C k g => ⟨fun pe h => by
  cases pe with
  | Constant c j pos =>
    cases c with
    | str c =>
      have e : x = c := by simpa [chk] using h
      subst e
      exact snd_const (v := .str x) (d := .str x) (fun env m => by simp only [evE]) (fun _ _ => .str) pe_str (fun _ => rfl) rfl
    | _ => simp [chk] at h
  | _ => simp [chk] at h, noA fun C ps => by cases ps <;> rfl⟩
theorem snd_gint (x : Str) (i : Int) : SndP fs (.gint x i) := fun X W C k g => ⟨fun pe h => by
  cases pe with
  | Name y pos =>
    simp only [chk, Bool.and_eq_true, decide_eq_true_eq] at h
    obtain ⟨⟨h1, h2⟩, h3⟩ := h
    subst h1
    obtain ⟨a, b, c⟩ := gl_of g h2
    obtain ⟨t, ht⟩ := g.gi x i h3
    exact snd_const (v := .int i) (d := .int i) (fun env m => by simp only [evE]) (fun _ _ => .int) (pe_glob a ht ⟨t, rfl⟩ b) (fun _ => rfl) rfl
  | _ => simp [chk] at h, noA fun C ps => by cases ps <;> rfl⟩
theorem snd_bin (o : BOp) {a b : T} (Pa : SndP fs a) (Pb : SndP fs b) : SndP fs (.bin o a b) := fun X W C k g => ⟨fun pe h => by
  cases pe with
  | BinOp p q r pos =>
    simp only [chk, Bool.and_eq_true, decide_eq_true_eq] at h
    obtain ⟨⟨h1, h2⟩, h3⟩ := h
    subst h1
    refine SndE.plain ?_ (fun _ => rfl) rfl
    simp only [funext fun env => funext fun m => (by simp only [evE] : evE fs (.bin o a b) env m = (evE fs a env m).bind fun d m => (evE fs b env m).bind fun e m => bopD o d e m)]
    exact PE.imp (pe_op (od_bin o) (((Pa X W C k g).1 _ h2).v) (((Pb X W C k g).1 _ h3).v)) (step_op (f := binaryOp (bopO o)) rfl fun d e m c m' => bop_noex)
  | _ => simp [chk] at h, noA fun C ps => by cases ps <;> rfl⟩
theorem snd_neg {a : T} (Pa : SndP fs a) : SndP fs (.neg a) := fun X W C k g => ⟨fun pe h => by
  cases pe with
  | UnaryOp op p pos =>
    cases op with
    | USub =>
      simp only [chk] at h
      refine SndE.plain ?_ (fun _ => rfl) rfl
      refine PE.imp (pe_un un_neg (((Pa X W C k g).1 _ h).v)) ?_
      rintro σ H Q ⟨rho, F, env, m, A, En, h⟩
      simp only [evE] at h
      refine ⟨rho, F, env, m, A, En, RdE.bind h fun d m1 v r1 F1 H1 s1 A1 q1 h1 => ?_⟩
      split at h1
      · cases q1; exact ⟨_, rfl, h1 _ _ _ _ Step.refl A1 .int⟩
      · exact h1.elim
    | _ => simp [chk] at h
  | _ => simp [chk] at h, noA fun C ps => by cases ps <;> rfl⟩
theorem snd_not {a : T} (Pa : SndP fs a) : SndP fs (.not a) := fun X W C k g => ⟨fun pe h => by
  cases pe with
  | UnaryOp op p pos =>
    cases op with
    | Not =>
      simp only [chk] at h
      have S := (Pa X W C k g).1 _ h
      refine ⟨PE.imp (pe_notT S.v) fun σ H Q q => step_not σ H Q ?_, PT.imp (pt_not S.t) fun σ H Q q => step_notT σ H Q ?_, fun z => by cases z⟩
      · obtain ⟨rho, F, env, m, A, En, q⟩ := q
        exact ⟨rho, F, env, m, A, En, by simpa only [evE] using q⟩
      · obtain ⟨rho, F, env, m, A, En, q⟩ := q
        exact ⟨rho, F, env, m, A, En, by simpa only [evT, evE] using q⟩
    | _ => simp [chk] at h
  | _ => simp [chk] at h, noA fun C ps => by cases ps <;> rfl⟩
theorem snd_and {a b : T} (Pa : SndP fs a) (Pb : SndP fs b) : SndP fs (.and a b) := fun X W C k g => ⟨fun pe h => by
  cases pe with
  | BoolOp op es pos =>
    cases op with
    | And =>
      match es, h with
      | p :: q :: rest, h =>
        simp only [chk, Bool.and_eq_true] at h
        obtain ⟨h1, h2⟩ := h
        have Sa := (Pa X W C k g).1 _ h1
        have tail : PE X (.BoolOp .And (q :: rest) pos) (tE X W (evE fs b)) ∧ PW X (.BoolOp .And (q :: rest) pos) (tT X W (evT fs b)) := by
          cases rest with
          | nil =>
            simp only [List.isEmpty_nil, if_true] at h2
            have Sb := (Pb X W C k g).1 _ h2
            exact ⟨pe_one Sb.v, pw_and1 Sb.t⟩
          | cons r rest =>
            simp only [List.isEmpty_cons, Bool.false_eq_true, if_false] at h2
            have Sb := (Pb X W C k g).1 _ h2
            exact ⟨Sb.v, Sb.w rfl⟩
        have pw : PW X (.BoolOp .And (p :: q :: rest) pos) (tT X W (evT fs (.and a b))) := by
          refine ⟨fun wh pins s σ H Q I z => (pw_and Sa.t tail.2).run wh pins s σ H Q I (step_andT σ H Q ?_)⟩
          obtain ⟨rho, F, env, m, A, En, z⟩ := z
          exact ⟨rho, F, env, m, A, En, by simpa only [evT, evE] using z⟩
        refine ⟨PE.imp (pe_andT Sa.v tail.1) fun σ H Q z => step_and σ H Q ?_, pw.pt, fun _ => pw⟩
        obtain ⟨rho, F, env, m, A, En, z⟩ := z
        exact ⟨rho, F, env, m, A, En, by simpa only [evE] using z⟩
      | [], h => simp [chk] at h
      | [_], h => simp [chk] at h
    | Or => simp [chk] at h
  | _ => simp [chk] at h, noA fun C ps => by cases ps <;> rfl⟩
theorem snd_or {a b : T} (Pa : SndP fs a) (Pb : SndP fs b) : SndP fs (.or a b) := fun X W C k g => ⟨fun pe h => by
  cases pe with
  | BoolOp op es pos =>
    cases op with
    | Or =>
      match es, h with
      | p :: q :: rest, h =>
        simp only [chk, Bool.and_eq_true] at h
        obtain ⟨h1, h2⟩ := h
        have Sa := (Pa X W C k g).1 _ h1
        have tail : PE X (.BoolOp .Or (q :: rest) pos) (tE X W (evE fs b)) ∧ PW X (.BoolOp .Or (q :: rest) pos) (tT X W (evT fs b)) := by
          cases rest with
          | nil =>
            simp only [List.isEmpty_nil, if_true] at h2
            have Sb := (Pb X W C k g).1 _ h2
            exact ⟨pe_one Sb.v, pw_or1 Sb.t⟩
          | cons r rest =>
            simp only [List.isEmpty_cons, Bool.false_eq_true, if_false] at h2
            have Sb := (Pb X W C k g).1 _ h2
            exact ⟨Sb.v, Sb.w rfl⟩
        have pw : PW X (.BoolOp .Or (p :: q :: rest) pos) (tT X W (evT fs (.or a b))) := by
          refine ⟨fun wh pins s σ H Q I z => (pw_or Sa.t tail.2).run wh pins s σ H Q I (step_orT σ H Q ?_)⟩
          obtain ⟨rho, F, env, m, A, En, z⟩ := z
          exact ⟨rho, F, env, m, A, En, by simpa only [evT, evE] using z⟩
        refine ⟨PE.imp (pe_orT Sa.v tail.1) fun σ H Q z => step_or σ H Q ?_, pw.pt, fun _ => pw⟩
        obtain ⟨rho, F, env, m, A, En, z⟩ := z
        exact ⟨rho, F, env, m, A, En, by simpa only [evE] using z⟩
      | [], h => simp [chk] at h
      | [_], h => simp [chk] at h
    | And => simp [chk] at h
  | _ => simp [chk] at h, noA fun C ps => by cases ps <;> rfl⟩
theorem snd_ite {c a b : T} (Pc : SndP fs c) (Pa : SndP fs a) (Pb : SndP fs b) : SndP fs (.ite c a b) := fun X W C k g => ⟨fun pe h => by
  cases pe with
  | IfExp p q r pos =>
    simp only [chk, Bool.and_eq_true] at h
    obtain ⟨⟨h1, h2⟩, h3⟩ := h
    have Sc := (Pc X W C k g).1 _ h1
    have Sa := (Pa X W C k g).1 _ h2
    have Sb := (Pb X W C k g).1 _ h3
    refine ⟨PE.imp (pe_ifExp Sc.t Sa.v Sb.v) fun σ H Q z => step_ite σ H Q ?_, PT.imp (pt_ifExp Sc.t Sa.t Sb.t) fun σ H Q z => step_iteT σ H Q ?_, fun z => by cases z⟩
    · obtain ⟨rho, F, env, m, A, En, z⟩ := z
      exact ⟨rho, F, env, m, A, En, by simpa only [evE] using z⟩
    · obtain ⟨rho, F, env, m, A, En, z⟩ := z
      exact ⟨rho, F, env, m, A, En, by simpa only [evT, evE] using z⟩
  | _ => simp [chk] at h, noA fun C ps => by cases ps <;> rfl⟩
/-- a comparison's test -/
theorem tst_of {X : Cx} {W : WX} {se : SE} {t : TE} (hv : ∀ σ H Q, tE X W se σ H Q → t σ H Q) (hb : ∀ env m f m', se env m = .ok f m' → ∃ b, f = .bl b) : ∀ σ H Q, tT X W (fun env m => (se env m).bind truthB) σ H Q → tTest t σ H Q := by
  rintro σ H Q ⟨rho, F, env, m, A, En, h⟩
  refine hv σ H _ ⟨rho, F, env, m, A, En, ?_⟩
  dsimp only at h
  cases e : se env m with
  | no => rw [e] at h; exact h
  | ex c m1 => rw [e] at h; exact h
  | ok d m1 =>
    obtain ⟨b, rfl⟩ := hb _ _ _ _ e
    rw [e] at h
    intro v r1 F1 H1 s1 A1 q1
    cases q1
    exact ⟨b, rfl, h b _ _ _ s1 A1 rfl⟩
theorem bind_ok {α β : Type} {r : R α} {f : α → M → R β} {b : β} {m' : M} (h : r.bind f = .ok b m') : ∃ a m, r = .ok a m ∧ f a m = .ok b m' := by
  cases r with
  | ok a m => exact ⟨a, m, rfl, h⟩
  | ex c m => cases h
  | no => cases h
theorem snd_cmp (o : COp) {a b : T} (Pa : SndP fs a) (Pb : SndP fs b) : SndP fs (.cmp o a b) := fun X W C k g => ⟨fun pe h => by
  cases pe with
  | Compare p ops rs pos =>
    match ops, rs, h with
    | [q], [r], h =>
      simp only [chk, Bool.and_eq_true, decide_eq_true_eq, Bool.not_eq_true'] at h
      obtain ⟨⟨⟨h1, hm⟩, h2⟩, h3⟩ := h
      subst h1
      have hu : X.A.units + 65 < cLine := by have := units_of g; omega
      have Sa := (Pa X W C k g).1 _ h2
      have Sb := (Pb X W C k g).1 _ h3
      have eq : evE fs (.cmp o a b) = fun env m => (evE fs a env m).bind fun d m => (evE fs b env m).bind fun e m => copD o d e m := by funext env m; simp only [evE]
      have st : ∀ σ H Q, tE X W (evE fs (.cmp o a b)) σ H Q → tOp (rOf X (copD o)) (tE X W (evE fs a)) (tE X W (evE fs b)) σ H Q := by
        rw [eq]
        exact step_op (f := compareOp (copO o)) rfl fun d e m c m' => cop_noex
      refine ⟨PE.imp (pe_cmpR (od_cmp hu o) Sa.v Sb.v hm) st, PT.imp (pt_cmpR (od_cmp hu o) Sa.v Sb.v hm) ?_, fun z => by cases z⟩
      refine tst_of st fun env m f m' e => ?_
      rw [eq] at e
      obtain ⟨_, _, _, e⟩ := bind_ok e
      obtain ⟨_, _, _, e⟩ := bind_ok e
      exact cop_bl e
    | [], _, h => simp [chk] at h
    | [_], [], h => simp [chk] at h
    | [_], _ :: _ :: _, h => simp [chk] at h
    | _ :: _ :: _, _, h => simp [chk] at h
  | _ => simp [chk] at h, noA fun C ps => by cases ps <;> rfl⟩
theorem snd_chain (o o2 : COp) {a b c : T} (Pa : SndP fs a) (Pb : SndP fs b) (Pc : SndP fs c) : SndP fs (.chain o o2 a b c) := fun X W C k g => ⟨fun pe h => by
  cases pe with
  | Compare p ops rs pos =>
    match ops, rs, h with
    | [q, q2], [r, r2], h =>
      simp only [chk, Bool.and_eq_true, decide_eq_true_eq, Bool.not_eq_true'] at h
      obtain ⟨⟨⟨⟨⟨h1, h12⟩, hm⟩, h2⟩, h3⟩, h4⟩ := h
      subst h1
      subst h12
      have hu : X.A.units + 65 < cLine := by have := units_of g; omega
      have Sa := (Pa X W C k g).1 _ h2
      have Sb := (Pb X W C k g).1 _ h3
      have Sc := (Pc X W C k g).1 _ h4
      have hl : lastMarks [copO o, copO o2] [r, r2] = false := hm
      have st : ∀ σ H Q, tE X W (evE fs (.chain o o2 a b c)) σ H Q → tChain (rOf X (copD o)) (rOf X (copD o2)) (tE X W (evE fs a)) (tE X W (evE fs b)) (tE X W (evE fs c)) σ H Q := by
        rintro σ H Q ⟨rho, F, env, m, A, En, h⟩
        simp only [evE] at h
        refine ⟨rho, F, env, m, A, En, RdE.bind h fun d m1 v r1 F1 H1 s1 A1 q1 h1 => ?_⟩
        refine ⟨r1, F1, env, m1, A1, En.mono s1.onto, RdE.bind h1 fun e m2 u r2 F2 H2 s2 A2 q2 h2 => ?_⟩
        refine ⟨r2, F2, m2, d, e, A2, q1.mono s2.onto, q2, ?_⟩
        cases ec : copD o d e m2 with
        | no => rw [ec] at h2; exact h2
        | ex c m3 => exact absurd ec cop_noex
        | ok f m3 =>
          rw [ec] at h2
          obtain ⟨bb, rfl⟩ := cop_bl ec
          intro w r3 F3 H3 s3 A3 q3
          cases q3
          refine ⟨bb, rfl, ?_⟩
          cases bb with
          | true =>
            refine iteT ⟨r3, F3, env, m3, A3, (En.mono (s1.trans s2).onto).mono s3.onto, RdE.bind (RdE.step (show RdE X.K X.mg W σ (relD X.K X.mg) r2 F2 H2 Q ((evE fs c env m3).bind fun g m => copD o2 e g m) from h2) s3) fun f m4 x r4 F4 H4 s4 A4 q4 h4 => ?_⟩
            exact ⟨r4, F4, m4, e, f, A4, (q2.mono s3.onto).mono s4.onto, q4, h4.of0 fun c m' => cop_noex⟩
          | false => exact iteF (h2 _ _ _ _ s3 A3 .bl)
      refine ⟨PE.imp (pe_chain (od_cmp hu o) (od_cmp hu o2) Sa.v Sb.v Sc.v hl) st, PT.imp (pt_chain (od_cmp hu o) (od_cmp hu o2) Sa.v Sb.v Sc.v hl) ?_, fun z => by cases z⟩
      refine tst_of st fun env m f m' e => ?_
      simp only [evE] at e
      obtain ⟨_, _, _, e⟩ := bind_ok e
      obtain ⟨_, _, _, e⟩ := bind_ok e
      obtain ⟨_, _, _, e⟩ := bind_ok e
      split at e
      · obtain ⟨_, _, _, e⟩ := bind_ok e
        exact cop_bl e
      · cases e; exact ⟨_, rfl⟩
      · cases e
    | [], _, h => simp [chk] at h
    | [_], [], h => simp [chk] at h
    | [_], _ :: _, h => simp [chk] at h
    | [_, _], [], h => simp [chk] at h
    | [_, _], [_], h => simp [chk] at h
    | [_, _], _ :: _ :: _ :: _, h => simp [chk] at h
    | _ :: _ :: _ :: _, _, h => simp [chk] at h
  | _ => simp [chk] at h, noA fun C ps => by cases ps <;> rfl⟩
end
end HB
namespace HB
open PySem L2
section
variable {fs : List Sem}
theorem snd_tup {es : T} (Pe : SndP fs es) : SndP fs (.tup es) := fun X W C k g => ⟨fun pe h => by
  cases pe with
  | Tuple ps j pos =>
    simp only [chk] at h
    have eq : evE fs (.tup es) = fun env m => (evA fs es env m).bind fun ds m => if ds.length ≤ sizeLine then .ok (.tup ds) m else .no := by funext env m; simp only [evE]
    refine SndE.plain ?_ (fun _ => rfl) rfl
    rw [eq]
    exact PE.imp (pe_tup ((Pe X W C k g).2 _ h)) step_tup
  | _ => simp [chk] at h, noA fun C ps => by cases ps <;> rfl⟩
theorem snd_lst {es : T} (Pe : SndP fs es) : SndP fs (.lst es) := fun X W C k g => ⟨fun pe h => by
  cases pe with
  | List ps pos =>
    simp only [chk] at h
    have eq : evE fs (.lst es) = fun env m => (evA fs es env m).bind fun ds m => if ds.length ≤ sizeLine then .ok (.lst ds) m else .no := by funext env m; simp only [evE]
    refine SndE.plain ?_ (fun _ => rfl) rfl
    rw [eq]
    exact PE.imp (pe_lst ((Pe X W C k g).2 _ h)) step_lst
  | _ => simp [chk] at h, noA fun C ps => by cases ps <;> rfl⟩
theorem snd_lstM {es : T} (Pe : SndP fs es) : SndP fs (.lstM es) := fun X W C k g => ⟨fun pe h => by
  cases pe with
  | List ps pos =>
    simp only [chk] at h
    have eq : evE fs (.lstM es) = fun env m => (evA fs es env m).bind fun ds m => if ds.length ≤ sizeLine then .ok (.ref m.length) (m ++ [.lst ds]) else .no := by funext env m; simp only [evE]
    refine SndE.plain ?_ (fun _ => rfl) rfl
    rw [eq]
    exact PE.imp (pe_lst ((Pe X W C k g).2 _ h)) step_lstM
  | _ => simp [chk] at h, noA fun C ps => by cases ps <;> rfl⟩
theorem snd_nil : SndP fs .nil := fun X W C k g => ⟨fun pe h => by cases pe <;> simp [chk] at h, fun ps h => by
  cases ps with
  | nil =>
    have eq : evA fs .nil = fun env m => .ok [] m := by funext env m; simp only [evA]
    rw [eq]
    exact PA.imp pa_nil step_nil
  | cons p ps => simp [chkA] at h⟩
theorem snd_cons {a es : T} (Pa : SndP fs a) (Pe : SndP fs es) : SndP fs (.cons a es) := fun X W C k g => ⟨fun pe h => by cases pe <;> simp [chk] at h, fun ps h => by
  cases ps with
  | nil => simp [chkA] at h
  | cons p ps =>
    simp only [chkA, Bool.and_eq_true] at h
    obtain ⟨⟨h1, h2⟩, h3⟩ := h
    have eq : evA fs (.cons a es) = fun env m => (evE fs a env m).bind fun d m => (evA fs es env m).bind fun ds m => .ok (d :: ds) m := by funext env m; simp only [evA]
    rw [eq]
    exact PA.imp (pa_cons ((Pa X W C k g).1 _ h2).v ((Pe X W C k g).2 _ h3) (star_cons h1)) step_cons⟩
theorem plainIx_of {q : Expr} (h : noSliceB q = true) : PlainIx q := by
  cases q <;> first | exact fun _ _ => rfl | (simp [noSliceB] at h)
theorem snd_ix {a b : T} (Pa : SndP fs a) (Pb : SndP fs b) : SndP fs (.ix a b) := fun X W C k g => ⟨fun pe h => by
  cases pe with
  | Subscript p q pos =>
    simp only [chk, Bool.and_eq_true] at h
    obtain ⟨⟨h0, h1⟩, h2⟩ := h
    have eq : evE fs (.ix a b) = fun env m => (evE fs a env m).bind fun d m => (evE fs b env m).bind fun e m => ixD d e m := by funext env m; simp only [evE]
    refine SndE.plain ?_ (fun _ => rfl) rfl
    rw [eq]
    exact PE.imp (pe_ix ix_data ((Pa X W C k g).1 _ h1).v ((Pb X W C k g).1 _ h2).v (plainIx_of h0)) (step_op (f := binaryOp .Add) rfl fun d e m c m' => ix_noex)
  | _ => simp [chk] at h, noA fun C ps => by cases ps <;> rfl⟩
theorem snd_noP : SndP fs .noP := fun X W C k g => ⟨fun pe h => by cases pe <;> simp [chk] at h, noA fun C ps => by cases ps <;> rfl⟩
theorem snd_sl {a lo hi : T} (Pa : SndP fs a) (Pl : SndP fs lo) (Ph : SndP fs hi) : SndP fs (.sl a lo hi) := fun X W C k g => ⟨fun pe h => by
  cases pe with
  | Subscript p q pos =>
    cases q with
    | Slice l hh st sp =>
      cases st with
      | none =>
        simp only [chk, Bool.and_eq_true] at h
        obtain ⟨⟨h1, h2⟩, h3⟩ := h
        have part : ∀ (t : T) (P : SndP fs t) (o : Option Expr), (match o with
            | none => isNoP t
            | some q => !isNoP t && chk C t q) = true → PO X o (tP X W (isNoP t) (evE fs t)) := by
          intro t P o ho
          cases o with
          | none => simp only at ho; rw [ho]; exact po_data0
          | some q =>
            simp only [Bool.and_eq_true, Bool.not_eq_true'] at ho
            rw [ho.1]
            exact po_data ((P X W C k g).1 _ ho.2).v
        refine SndE.plain ?_ (fun _ => rfl) rfl
        refine PE.imp (pe_slice sl_data ((Pa X W C k g).1 _ h1).v (part lo Pl l h2) (part hi Ph hh h3)) ?_
        rintro σ H Q ⟨rho, F, env, m, A, En, h⟩
        simp only [evE] at h
        refine ⟨rho, F, env, m, A, En, RdE.bind h fun d m1 v r1 F1 H1 s1 A1 q1 h1 => ?_⟩
        refine ⟨r1, F1, env, m1, A1, En.mono s1.onto, RdE.bind h1 fun l m2 u r2 F2 H2 s2 A2 q2 h2 => ?_⟩
        refine ⟨r2, F2, env, m2, A2, (En.mono s1.onto).mono s2.onto, RdE.bind h2 fun hv m3 w r3 F3 H3 s3 A3 q3 h3 => ?_⟩
        cases q2
        cases q3
        exact ⟨r3, F3, m3, d, A3, (q1.mono s2.onto).mono s3.onto, h3.of0 fun c m' => sl_noex⟩
      | some _ => simp [chk] at h
    | _ => simp [chk] at h
  | _ => simp [chk] at h, noA fun C ps => by cases ps <;> rfl⟩
theorem snd_callT (j : Nat) {es : T} (Pe : SndP fs es) : SndP fs (.call j es) := fun X W C k g => ⟨fun pe h => by
  cases pe with
  | Call f ps ks pos =>
    cases f with
    | Name x p =>
      cases ks with
      | nil =>
        simp only [chk, Bool.and_eq_true, decide_eq_true_eq] at h
        obtain ⟨⟨h1, h2⟩, h3⟩ := h
        have eq : evE fs (.call j es) = fun env m => (evA fs es env m).bind fun ds m => match fs[j]? with
            | some sem => callD sem ds m
            | none => .no := by funext env m; first | (rw [evE]; done) | (rw [evE]; rfl)
        refine SndE.plain ?_ (fun _ => rfl) rfl
        rw [eq]
        cases ps with
        | nil =>
          cases es with
          | nil =>
            have e0 : evA fs .nil = fun env m => .ok [] m := by funext env m; simp only [evA]
            rw [e0]
            exact snd_call0 g h1 h2
          | _ => simp [chkA] at h3
        | cons q qs => exact snd_call g h1 h2 (chkA_plain h3) ((Pe X W C k g).2 _ h3) fun env m ds m1 e => evA_len h3 e
      | cons _ _ => simp [chk] at h
    | _ => simp [chk] at h
  | _ => simp [chk] at h, noA fun C ps => by cases ps <;> rfl⟩
theorem snd_blt (b : BF) {es : T} (Pe : SndP fs es) : SndP fs (.blt b es) := fun X W C k g => ⟨fun pe h => by
  cases pe with
  | Call f ps ks pos =>
    cases f with
    | Name x p =>
      cases ks with
      | nil =>
        cases ps with
        | nil => simp [chk] at h
        | cons q qs =>
          simp only [chk, Bool.and_eq_true, decide_eq_true_eq] at h
          obtain ⟨⟨h1, h2⟩, h3⟩ := h
          subst h1
          have eq : evE fs (.blt b es) = fun env m => (evA fs es env m).bind fun ds m => bfD b ds m := by funext env m; simp only [evE]
          refine SndE.plain ?_ (fun _ => rfl) rfl
          rw [eq]
          exact pe_blt g h2 (chkA_plain h3) ((Pe X W C k g).2 _ h3)
      | cons _ _ => simp [chk] at h
    | _ => simp [chk] at h
  | _ => simp [chk] at h, noA fun C ps => by cases ps <;> rfl⟩
theorem snd_isi {a : T} (c : String) (Pa : SndP fs a) : SndP fs (.isi a c) := fun X W C k g => ⟨fun pe h => by
  cases pe with
  | Call f ps ks pos =>
    cases f with
    | Name x p =>
      cases ks with
      | nil =>
        match ps, h with
        | [q, .Name y p2], h =>
          simp only [chk, Bool.and_eq_true, decide_eq_true_eq] at h
          obtain ⟨⟨⟨⟨⟨⟨h1, h2⟩, h3⟩, h4⟩, h5⟩, h6⟩, h7⟩ := h
          subst h1
          subst h5
          have eq : evE fs (.isi a c) = fun env m => (evE fs a env m).bind fun d m => isiD d c m := by funext env m; simp only [evE]
          refine SndE.plain ?_ (fun _ => rfl) rfl
          rw [eq]
          exact pe_isi g h2 h4 h6 h3 ((Pa X W C k g).1 _ h7).v
        | [], h => simp [chk] at h
        | [_], h => simp [chk] at h
        | _ :: _ :: _ :: _, h => simp [chk] at h
        | [_, .BoolOp ..], h | [_, .NamedExpr ..], h | [_, .BinOp ..], h | [_, .UnaryOp ..], h | [_, .Lambda ..], h | [_, .IfExp ..], h | [_, .Dict ..], h | [_, .Set ..], h | [_, .ListComp ..], h | [_, .SetComp ..], h
        | [_, .DictComp ..], h | [_, .GeneratorExp ..], h | [_, .Await ..], h | [_, .Yield ..], h | [_, .YieldFrom ..], h | [_, .Compare ..], h | [_, .Call ..], h | [_, .FormattedValue ..], h | [_, .JoinedStr ..], h
        | [_, .Constant ..], h | [_, .Attribute ..], h | [_, .Subscript ..], h | [_, .Starred ..], h | [_, .List ..], h | [_, .Tuple ..], h | [_, .Slice ..], h => simp [chk] at h
      | cons _ _ => simp [chk] at h
    | _ => simp [chk] at h
  | _ => simp [chk] at h, noA fun C ps => by cases ps <;> rfl⟩
theorem snd_join {a b : T} (Pa : SndP fs a) (Pb : SndP fs b) : SndP fs (.join a b) := fun X W C k g => ⟨fun pe h => by
  cases pe with
  | Call f ps ks pos =>
    cases f with
    | Attribute p x ap =>
      cases ks with
      | nil =>
        match ps, h with
        | [q], h =>
          simp only [chk, Bool.and_eq_true, decide_eq_true_eq] at h
          obtain ⟨⟨⟨⟨⟨h1, h2⟩, h3⟩, h4⟩, h5⟩, h6⟩ := h
          subst h1
          refine SndE.plain ?_ (fun _ => rfl) rfl
          refine PE.imp (pe_joinD h2 h3 h4 ((Pa X W C k g).1 _ h5).v ((Pb X W C k g).1 _ h6).v) ?_
          rintro σ H Q ⟨rho, F, env, m, A, En, h⟩
          simp only [evE] at h
          exact ⟨rho, F, env, m, A, En, h⟩
        | [], h => simp [chk] at h
        | _ :: _ :: _, h => simp [chk] at h
      | cons _ _ => simp [chk] at h
    | _ => simp [chk] at h
  | _ => simp [chk] at h, noA fun C ps => by cases ps <;> rfl⟩
theorem snd_popAt {a b : T} (Pa : SndP fs a) (Pb : SndP fs b) : SndP fs (.popAt a b) := fun X W C k g => ⟨fun pe h => by
  cases pe with
  | Call f ps ks pos =>
    cases f with
    | Attribute p x ap =>
      cases ks with
      | nil =>
        match ps, h with
        | [q], h =>
          simp only [chk, Bool.and_eq_true, decide_eq_true_eq] at h
          obtain ⟨⟨⟨⟨⟨h1, h2⟩, h3⟩, h4⟩, h5⟩, h6⟩ := h
          subst h1
          refine SndE.plain ?_ (fun _ => rfl) rfl
          refine PE.imp (pe_popD h2 h3 h4 ((Pa X W C k g).1 _ h5).v ((Pb X W C k g).1 _ h6).v) ?_
          rintro σ H Q ⟨rho, F, env, m, A, En, h⟩
          simp only [evE] at h
          exact ⟨rho, F, env, m, A, En, h⟩
        | [], h => simp [chk] at h
        | _ :: _ :: _, h => simp [chk] at h
      | cons _ _ => simp [chk] at h
    | _ => simp [chk] at h
  | _ => simp [chk] at h, noA fun C ps => by cases ps <;> rfl⟩
theorem snd_rng1 {a : T} : SndP fs (.rng1 a) := fun X W C k g => ⟨fun pe h => by cases pe <;> simp [chk] at h, noA fun C ps => by cases ps <;> rfl⟩
theorem snd_rng2 {a b : T} : SndP fs (.rng2 a b) := fun X W C k g => ⟨fun pe h => by cases pe <;> simp [chk] at h, noA fun C ps => by cases ps <;> rfl⟩
theorem lc_eq (own : List (Str × Nat)) (g : G) (it c e : T) : evE fs (.lc own g it c e) = lcE g (own.map (·.2)) (isNoP c) (evE fs it) (evE fs c) (evE fs e) := by
  funext env m
  simp only [evE]
  unfold lcE lcStep
  rfl
theorem snd_lc (own : List (Str × Nat)) (gg : G) {it c e : T} (Pi : SndP fs it) (P1 : ∀ a, it = .rng1 a → SndP fs a) (P2 : ∀ a b, it = .rng2 a b → SndP fs a ∧ SndP fs b) (Pc : SndP fs c) (Pe : SndP fs e) : SndP fs (.lc own gg it c e) := fun X W C k g => ⟨fun pe h => by
  cases pe with
  | ListComp elt gens scope pos =>
    match gens, h with
    | [⟨tg, iter, ifs, asy⟩], h =>
      unfold chk at h
      simp only [Bool.and_eq_true, decide_eq_true_eq] at h
      obtain ⟨⟨⟨⟨⟨⟨⟨h0, h1⟩, h2⟩, h3⟩, h4⟩, h5⟩, h6⟩, h7⟩ := h
      subst h0
      have hi : chkI C it iter = true := h1
      have ok : BlkOk X.N X.env.scope scope own := by
        rw [g.N, g.sc]
        exact blkOk_by h3
      refine SndE.plain ?_ (fun _ => rfl) rfl
      rw [lc_eq]
      refine PE.imp (pe_lc (g := tG X gg) (tt := tCond X (isNoP c) (evE fs c)) (te := tE X W0 (evE fs e)) g.calm g.nd (snd_iter g Pi P1 P2 hi) ok (fun s H A cl fp => ?_) (fun s H A cl fp => ?_) (fun s H A cl fp => ?_) (folded_plain h2)) (step_lc fun i hi => ?_)
      · exact sndG (g.blk (own := own) s H A cl fp).t gg h4
      · match ifs, h6 with
        | [], h6 =>
          simp only at h6
          rw [h6]
          exact pts_nil
        | [q], h6 =>
          simp only [Bool.and_eq_true, Bool.not_eq_true'] at h6
          rw [h6.1]
          exact pts_one ((Pc _ _ _ k (g.blk (own := own) s H A cl fp)).1 _ h6.2).t
        | _ :: _ :: _, h6 => simp at h6
      · exact ((Pe _ _ _ k (g.blk (own := own) s H A cl fp)).1 _ h7).v
      · simp only [List.all_eq_true, List.contains_eq_mem, decide_eq_true_eq] at h5
        exact h5 i hi
    | [], h => simp [chk] at h
    | _ :: _ :: _, h => simp [chk] at h
  | _ => simp [chk] at h, noA fun C ps => by cases ps <;> rfl⟩
theorem snd_dct0 : SndP fs .dct0 := fun X W C k g => ⟨fun pe h => by
  cases pe with
  | Dict ks vs pos =>
    match ks, vs, h with
    | [], [], h =>
      refine SndE.plain (PE.imp pe_dnewK ?_) (fun _ => rfl) rfl
      rintro σ H Q ⟨rho, F, env, m, A, En, h⟩ p np
      simp only [evE] at h
      obtain ⟨st, A'⟩ := A.fresh (o := .dK []) np
      exact h _ _ _ _ st A' (.dK upd_same .nil)
    | [], _ :: _, h => simp [chk] at h
    | _ :: _, _, h => simp [chk] at h
  | _ => simp [chk] at h, noA fun C ps => by cases ps <;> rfl⟩
theorem upd_upd {H : Hp} {p : Addr} {a b : HO} : upd (upd H p a) p b = upd H p b := by
  funext x
  by_cases e : x = p
  · subst e; rw [upd_same, upd_same]
  · rw [upd_ne e, upd_ne e, upd_ne e]
theorem chk_dctI {C : Ck} {i j : Int} {pe : Expr} (h : chk C (.dctI i j) pe = true) : ∃ a b c d pos, pe = .Dict [some (.Constant (.int i) a b)] [.Constant (.int j) c d] pos := by
  unfold chk at h
  split at h
  all_goals try contradiction
  all_goals try (simp at h; done)
  rename_i h1
  cases h1
  simp only [Bool.and_eq_true, decide_eq_true_eq] at h
  obtain ⟨rfl, rfl⟩ := h
  exact ⟨_, _, _, _, _, rfl⟩
theorem snd_dctI (i j : Int) : SndP fs (.dctI i j) := fun X W C k g => ⟨fun pe h => by
  obtain ⟨_, _, _, _, _, rfl⟩ := chk_dctI h
  refine SndE.plain (PE.imp (pe_disp (pps_cons pe_int pe_int pps_nil) rfl rfl (by simp) (by simp)) ?_) (fun _ => rfl) rfl
  rintro σ H Q ⟨rho, F, env, m, A, En, h⟩ p np
  simp only [evE] at h
  obtain ⟨st, A'⟩ := A.fresh (o := .dK [(.inl i, .int j)]) np
  refine ⟨upd_same, [(.inl i, .int j)], rfl, by simp, ?_⟩
  rw [upd_upd]
  exact h _ _ _ _ st A' (.dK upd_same (.cons .int .nil)), noA fun C ps => by cases ps <;> rfl⟩
theorem sndAll : ∀ e : T, SndP fs e := by
  intro e
  have both : SndP fs e ∧ (∀ a, e = .rng1 a → SndP fs a) ∧ (∀ a b, e = .rng2 a b → SndP fs a ∧ SndP fs b) := by
    induction e with
    | var i => exact ⟨snd_var i, nofun, nofun⟩
    | non => exact ⟨snd_non, nofun, nofun⟩
    | bl b => exact ⟨snd_bl b, nofun, nofun⟩
    | int i => exact ⟨snd_int i, nofun, nofun⟩
    | str x => exact ⟨snd_str x, nofun, nofun⟩
    | gint x i => exact ⟨snd_gint x i, nofun, nofun⟩
    | bin o a b ia ib => exact ⟨snd_bin o ia.1 ib.1, nofun, nofun⟩
    | neg a ia => exact ⟨snd_neg ia.1, nofun, nofun⟩
    | cmp o a b ia ib => exact ⟨snd_cmp o ia.1 ib.1, nofun, nofun⟩
    | chain o p a b c ia ib ic => exact ⟨snd_chain o p ia.1 ib.1 ic.1, nofun, nofun⟩
    | and a b ia ib => exact ⟨snd_and ia.1 ib.1, nofun, nofun⟩
    | or a b ia ib => exact ⟨snd_or ia.1 ib.1, nofun, nofun⟩
    | not a ia => exact ⟨snd_not ia.1, nofun, nofun⟩
    | ite c a b ic ia ib => exact ⟨snd_ite ic.1 ia.1 ib.1, nofun, nofun⟩
    | tup es ie => exact ⟨snd_tup ie.1, nofun, nofun⟩
    | lst es ie => exact ⟨snd_lst ie.1, nofun, nofun⟩
    | lstM es ie => exact ⟨snd_lstM ie.1, nofun, nofun⟩
    | nil => exact ⟨snd_nil, nofun, nofun⟩
    | cons a es ia ie => exact ⟨snd_cons ia.1 ie.1, nofun, nofun⟩
    | ix a b ia ib => exact ⟨snd_ix ia.1 ib.1, nofun, nofun⟩
    | sl a lo hi ia il ih => exact ⟨snd_sl ia.1 il.1 ih.1, nofun, nofun⟩
    | noP => exact ⟨snd_noP, nofun, nofun⟩
    | call j es ie => exact ⟨snd_callT j ie.1, nofun, nofun⟩
    | blt b es ie => exact ⟨snd_blt b ie.1, nofun, nofun⟩
    | isi a c ia => exact ⟨snd_isi c ia.1, nofun, nofun⟩
    | join a b ia ib => exact ⟨snd_join ia.1 ib.1, nofun, nofun⟩
    | popAt a b ia ib => exact ⟨snd_popAt ia.1 ib.1, nofun, nofun⟩
    | dct0 => exact ⟨snd_dct0, nofun, nofun⟩
    | dctI i j => exact ⟨snd_dctI i j, nofun, nofun⟩
    | rng1 a ia => exact ⟨snd_rng1, fun x e => by cases e; exact ia.1, nofun⟩
    | rng2 a b ia ib => exact ⟨snd_rng2, nofun, fun x y e => by cases e; exact ⟨ia.1, ib.1⟩⟩
    | lc own g it c e ii ic ie => exact ⟨snd_lc own g ii.1 ii.2.1 ii.2.2 ic.1 ie.1, nofun, nofun⟩
  exact both.1
end
end HB
namespace PySem
namespace HBX
open PySem.W PySem.Calls PyProof.Rows PySem.HandSPX Builtin.ObjectAttr
/-! ### own errors: class X(B): def __init__(self, v): super().__init__(text); self.f = v -/
/-- what is asked of the built-in base -/
structure XBase (B newId initId : String) (bmB : List Value) : Prop where
  base : ExcBaseFacts B newId initId bmB
  sup : KxsFacts B initId
  sto : StoreFacts B bmB "object.__setattr__" "object"
def xParams (p1 p2 : Pos) (v : Str) : Arguments := { posonlyargs := [], args := [{ arg := "self", annotation := none, pos := p1 }, { arg := v, annotation := none, pos := p2 }], vararg := none, kwonlyargs := [], kw_defaults := [], kwarg := none, defaults := [] }
def xBody (q : Nat → Pos) (f v : Str) (msg : Expr) : List Stmt := [.Expr (.Call (.Attribute (.Call (.Name "super" (q 0)) [] [] (q 1)) "__init__" (q 2)) [msg] [] (q 3)) (q 4), .Assign [.Attribute (.Name "self" (q 5)) f (q 6)] (.Name v (q 7)) (q 8)]
/-- a message that is told at any state -/
structure MsgOk (prog : Program) (w : World) (msg : Expr) : Prop where
  run : ∀ (A : Around) (E : Value → Shared → Prop) (s : Shared) (env : Env) (pos : Pos) (Q : List Value → Shared → Prop),
    (∀ u tk, Q [u] { s with toks := tk }) → wpAny (model prog w) A (spliced (backTo pos (starEach [msg] env))) Q E s
  one : ∀ env, starEach [msg] env = [(false, eval msg env)]
  cal : ∀ (p0 p1 apos pos : Pos) (env : Env), (apos.endLine == pos.line) = true → ∃ pl : Sem Bool, eval (.Call (.Attribute (.Call (.Name "super" p0) [] [] p1) "__init__" apos) [msg] [] pos) env = (do
      let ov ← attributeBase (.Call (.Name "super" p0) [] [] p1) "__init__" env (eval (.Call (.Name "super" p0) [] [] p1) env)
      standAt apos.atName
      let (f, first) ← holding [ov] (getMethod ov "__init__" pl)
      callWith pos f first (backTo pos (starEach [msg] env)) [])
theorem msgOk_str {prog : Program} {w : World} {t : Str} {k : Nat} {p : Pos} : MsgOk prog w (.Constant (.str t) k p) where
  run := by
    intro A E s env pos Q h
    refine spliced_more ?_ 
    refine wpAny_Constant_str ?_
    exact spliced_none (h _ _)
  one := fun _ => rfl
  cal := fun p0 p1 apos pos env hl => ⟨(do return (← importBound (.Call (.Name "super" p0) [] [] p1) env).getD true), by
    show (do
      let ov ← attributeBase (.Call (.Name "super" p0) [] [] p1) "__init__" env (eval (.Call (.Name "super" p0) [] [] p1) env)
      standAt apos.atName
      methodCall (.Call (.Name "super" p0) [] [] p1) "__init__" apos pos env ov 1 (backTo pos (starEach [.Constant (.str t) k p] env)) []) = _
    have e : ∀ ov, methodCall (.Call (.Name "super" p0) [] [] p1) "__init__" apos pos env ov 1 (backTo pos (starEach [.Constant (.str t) k p] env)) [] = (do
      let (f, first) ← holding [ov] (getMethod ov "__init__" (do return (← importBound (.Call (.Name "super" p0) [] [] p1) env).getD true))
      callWith pos f first (backTo pos (starEach [.Constant (.str t) k p] env)) []) := fun ov => by
      unfold methodCall methodCallPos
      rw [show methodCallForm 1 (backTo pos (starEach [.Constant (.str t) k p] env)) [] = true from rfl, hl]
      rfl
    simp only [e]⟩
/-- what the top has left of such a class -/
structure XTxt (prog : Program) (w : World) (K : Frag) (mg : Str → Option Value) (x : Str) (f v : Str) (C fI : Addr) : Prop where
  gC : mg x = some (.ref C)
  kC : keepIn K (.ref C) = true
  exC : subIn K (.ref C) (.type "BaseException") = some true
  tyC : typeIn K (.ref C) = some (.type "type")
  hdC : hasDictIn K C = true
  iC : findIn K (.ref C) "__init__" = some (some (.ref fI))
  sa : findIn K (.ref C) "__setattr__" = some (some (.builtin "object.__setattr__"))
  ga : findIn K (.ref C) "__getattribute__" = some (some (.builtin "BaseException.__getattribute__"))
  gg : findIn K (.ref C) "__getattr__" = some none
  noN : findIn K (.ref C) f = some none
  tk : takerIn K C f = some none
  sC : mroIn K C (.ref C) = some true
  tp : nsIn K cStatics "thirdparty.any" = some none
  sup : nsIn K mainGlobals "super" = some none
  top : (prog.main.scope.names.lookup ("super" : Str)).isSome = false
  bsx : ∃ (B newId initId : String) (bmB : List Value), XBase B newId initId bmB ∧ excInitIn K C bmB newId = true ∧ excOver K C bmB = true ∧ subIn K (.ref C) (.type B) = some true ∧ ks_superIn K C C "__init__" = some (some (.builtin initId))
  fn : ∃ (q : Nat → Pos) (p1 p2 : Pos) (qual : Str) (sc : Scope) (kV doc pm ct ccl cl : Value) (od an cdd cld : Option Addr) (cda cc : Addr) (osl ccs csl : Array (Option Value)) (vs : Array Value) (file : Str) (tf : Tok) (msg : Expr) (cdD : ClassData),
    K.lookup fI = some ⟨.type "function", od, .func (ksFn "__init__" qual (xParams p1 p2 v) (xBody q f v msg) sc .none kV doc pm an (.ref cda) ct cc), osl⟩ ∧ codeIn K (.ref cda) qual = true ∧
    K.lookup cda = some ⟨ccl, cdd, .fields vs, ccs⟩ ∧ vs[2]? = some (.str file tf) ∧ ((prog.main.file : Str) == file) = true ∧ K.lookup cc = some ⟨cl, cld, .cell (some (.ref C)), csl⟩ ∧ clsIn K C = some cdD ∧
    sc.names = [(("self" : Str), NameKind.local), (v, .local), ("__class__", .free), ("super", .globalImplicit)] ∧ sc.kind = .function ∧ sc.isCoroutine = false ∧ sc.isGenerator = false ∧ MsgOk prog w msg ∧ ((q 2).endLine == (q 3).line) = true ∧
    (∀ (s : Shared) (a b : Value), BindsTo s (ksFn "__init__" qual (xParams p1 p2 v) (xBody q f v msg) sc .none kV doc pm an (.ref cda) ct cc) ⟨[a, b], []⟩ [("self", a), (v, b)])
/-- self.f = v, past the descriptors -/
theorem x_store {prog : Program} {w : World} {A : Around} {R : Result → Shared → Prop} {hp : Heap} {g : Array GenState} {d : Drawn} {t : Nat} {os : OsState} {K : Frag} {name : Str} {tk : Tok} {v : Value} {x C : Addr} {fv : Array Value} {B : String} {bmB : List Value}
    (SF : StoreFacts B bmB "object.__setattr__" "object") (X : K.In hp) (hx : hp.get? x = some { cls := .ref C, data := .fields fv }) (ho : excOver K C bmB = true) (ht : takerIn K C name = some none) (hh : hasDictIn K C = true)
    (hq : ∀ h' tk' dx, (∀ b o, b ≠ x → hp.get? b = some o → h'.get? b = some o) → hp.objs.size ≤ dx → dx ≠ x → h'.get? x = some { cls := .ref C, dict := some dx, data := .fields fv } →
      h'.Ns1 dx (fun y => if y = name then some v else none) → R (.ok (.ret .none)) ⟨h', g, d, tk', os⟩) :
    codeAny (model prog w) A (.call (.builtin "object.__setattr__") ⟨[.ref x, .str name tk, v], []⟩) R ⟨hp, g, d, t, os⟩ := by
  have hxs : x ≠ hp.objs.size := Nat.ne_of_lt (Heap.lt_size hx)
  refine osa_openX (s := ⟨hp, g, d, t, os⟩) (od := none) SF X ⟨hx, rfl, rfl, trivial⟩ ho ht fun b => ?_
  obtain ⟨cd, hc, hd'⟩ := any_some hh
  have hcls : W.Looks (model prog w) hp (classData C) cd := W.looks_clsIn X hc
  obtain ⟨nm, bs, mro, ns, qn, hd, sn, sb, ab, col, del⟩ := cd
  dsimp only at hd'
  subst hd'
  show wpAny _ _ (storeInOwnDict (.ref x) (.ref C) (.str name tk) name v b) _ _ _
  unfold storeInOwnDict ownDictForStores
  repeat (first | with_reducible refine store_in_new ?_ ?_ | with_reducible refine wpAny_loadPart_at hx ?_ | with_reducible refine hcls.at ?_ | wp_step)
  · exact ⟨_, #[], _, (Heap.get?_update_ne _ _ _ _ hxs.symm).trans (Heap.get?_push_at rfl rfl), rfl, fun e he => absurd he (by simp), fun _ => rfl⟩
  · intro h' tk' hn' hs
    have hx₁ : (hp.push { cls := .type "dict", data := .dict #[] }).get? x = some { cls := .ref C, data := .fields fv } := Heap.get?_push_of_some _ hx
    refine hq h' tk' hp.objs.size (fun b o hb ho => ?_) (Nat.le_refl _) hxs.symm ?_ hn'
    · exact (hs.2 b (Nat.ne_of_lt (Heap.lt_size ho))).trans ((Heap.get?_update_ne _ _ _ _ hb).trans (Heap.get?_push_of_some _ ho))
    · exact (hs.2 x hxs).trans (Heap.get?_update_self _ hx₁ rfl)
/-- the bound __init__ of the base called -/
theorem x_wrap {prog : Program} {w : World} {A : Around} {E : Value → Shared → Prop} {K : Frag} {hh : Heap} {g : Array GenState} {d : Drawn} {tk : Nat} {os : OsState} {u x C t : Addr} {rest : List Value} {B newId i : String} {bmB : List Value} {Q : Value → Shared → Prop}
    (X : K.In hh) (FB : ExcBaseFacts B newId i bmB) (q : excInitIn K C bmB newId = true) (hu : hh.get? u = some (kxs_mw i x)) (he : hh.get? x = some (excO C t)) (hz : rest.length ≤ sizeLine)
    (h : ∀ t' h', (∀ b o, b ≠ x → hh.get? b = some o → h'.get? b = some o) → h'.get? x = some (excO C t') → Q .none ⟨h', g, d, tk, os⟩) :
    wpAny (model prog w) A (call (.ref u) rest) Q E ⟨hh, g, d, tk, os⟩ := by
  obtain ⟨nm, N', qn, bs, bm, hdct, sn, sub, ab, col, dd, k0, k1, k2, k3, k5, hC, hT⟩ := excInit_of X q
  refine wpAny_call (codeAny_of_tree ?_)
  show wpAny _ A.in1 (callAny (.ref u) ⟨rest, []⟩) _ _ _
  simp only [callAny]
  refine wpAny_bind (wpAny_load hu ?_)
  simp only [kxs_mw, show (Value.type "method-wrapper" == Value.type "method" || Value.type "method-wrapper" == Value.type "builtin_function_or_method" || Value.type "method-wrapper" == Value.type "method-wrapper") = true by decide, if_true]
  refine KFB.if_so (by decide) ?_
  refine wpAny_bind (check_bound_init FB.toExcCallFacts hC he rfl ?_)
  refine wpAny_bind (wpAny_pure (wpAny_pure ?_))
  refine ⟨plainId_quiet FB.init.plain _, codeAny_builtin FB.initEntry ?_⟩
  exact exc_init_tree (cls := .ref C) (t0 := t) (dv := none) (c2 := .none) (c3 := .none) (b4 := .bool false) he hz fun h' k e' _ => h _ h' k e'
structure InitEnd (h h' : Heap) (x C dx t1 : Addr) (f : Str) (v : Value) : Prop where
  keep : ∀ b o, b ≠ x → h.get? b = some o → h'.get? b = some o
  obj : h'.get? x = some { cls := .ref C, dict := some dx, data := .fields #[.ref t1, .none, .none, .none, .bool false, .none] }
  dbig : h.objs.size ≤ dx
  dne : dx ≠ x
  ns : h'.Ns1 dx (fun y => if y = f then some v else none)
section
variable {prog : Program} {w : World} {A : Around} {E : Value → Shared → Prop} {R : Result → Shared → Prop} {s : Shared} {K : Frag} {mg : Str → Option Value} {C fI : Addr} {xn f vn : Str}
theorem x_init (T : XTxt prog w K mg xn f vn C fI) (hvs : (vn == ("self" : Str)) = false) (hvd : (vn == ("__debug__" : Str)) = false) (hv1 : (("super" : Str) == vn) = false) (hv2 : (("__class__" : Str) == vn) = false) {x t0 : Addr} {v : Value} (hg : s.heap.Ns mainGlobals mg) (hb : ∃ mb, s.heap.Ns builtinsNs mb ∧ ∀ x : Str, x ≠ "__name__" → mb x = bootBuiltins x) (hsg : mg "super" = none) (X : K.In s.heap) (hlim : s.heap.NoLimit) (hx : s.heap.get? x = some (excO C t0)) (hnx : K.lookup x = none) (hroom : A.depth < recursionLimit)
    (hq : ∀ h' tk dx t1, InitEnd s.heap h' x C dx t1 f v → R (.ok (.ret .none)) { s with heap := h', toks := tk }) :
    codeAny (model prog w) A (.call (.ref fI) ⟨[.ref x, v], []⟩) R s := by
  obtain ⟨B, newId, initId, bmB, XB, e1, e2, e3, e4⟩ := T.bsx
  obtain ⟨q, p1, p2, qual, sc, kV, doc, pm, ct, ccl, cl, od, an, cdd, cld, cda, cc, osl, ccs, csl, vs, file, tf, msg, cdD, ho, hcd, hcode, hvs2, hfile, hcell, hD, hnm, hk, hco, hgen, hmsg, hpl, hbind⟩ := T.fn
  have hself : sc.names.lookup ("self" : Str) = some .local := by rw [hnm]; rfl
  have hvn : sc.names.lookup vn = some .local := by
    rw [hnm]; simp only [List.lookup]
    rw [hvs]; simp
  have hks : sc.names.lookup ("super" : Str) = some .globalImplicit := by
    rw [hnm]; simp only [List.lookup]
    rw [hv1]; rfl
  have hkc : sc.names.lookup ("__class__" : Str) = some .free := by
    rw [hnm]; simp only [List.lookup]
    rw [hv2]; rfl
  refine ks_codeAny_call_defAt (fd := ksFn "__init__" qual (xParams p1 p2 vn) (xBody q f vn msg) sc .none kV doc pm an (.ref cda) ct cc) (body := xBody q f vn msg) (binds := [("self", .ref x), (vn, v)]) hroom (X _ _ ho) rfl hlim (codeRec_of X hcd) rfl (hbind _ _ _) ?_ ?_ (fun h₁ hns hk₁ => ?_) hco hgen hk
  · rw [show (ksFn "__init__" qual (xParams p1 p2 vn) (xBody q f vn msg) sc .none kV doc pm an (.ref cda) ct cc).scope.names = sc.names from rfl, hnm]
    intro y hy
    simp only [List.mem_cons, List.not_mem_nil, or_false] at hy
    rcases hy with rfl | rfl | rfl | rfl <;> exact NameKind.noConfusion
  · intro y hy
    simp only [List.mem_cons, List.not_mem_nil, or_false] at hy
    rcases hy with rfl | rfl
    · exact hself
    · exact hvn
  obtain ⟨hp, g, dr, tk, os⟩ := s
  dsimp only at hk₁ hns X hx hlim hg hb ⊢
  show _root_.PySem.wpAt (model prog w) (A.deeper (ksEnv qual sc hp.objs.size fI (.ref cda) cc)) (.func (xBody q f vn msg) (ksEnv qual sc hp.objs.size fI (.ref cda) cc)) (execs (xBody q f vn msg) (ksEnv qual sc hp.objs.size fI (.ref cda) cc)) _ _ _
  have X₁ : K.In h₁ := X.keeps hk₁
  have hx₁ := hk₁ _ _ hx
  obtain ⟨oD, hD1, hD2⟩ : ∃ oD, h₁.get? C = some oD ∧ oD.data = .cls cdD := by
    unfold clsIn at hD
    split at hD
    · rename_i c d cd' sl ho
      cases hD
      exact ⟨_, X₁ _ _ ho, rfl⟩
    · cases hD
  obtain ⟨pl, hcal⟩ := hmsg.cal (q 0) (q 1) (q 2) (q 3) (ksEnv qual sc hp.objs.size fI (.ref cda) cc) hpl
  refine ks_wpAt_execs_cons (ks_wpAt_Expr_any (ks_wpAt_MethodCall (pl := pl) ?_ hcal) (by unfold interactive; simp [hk]))
  obtain ⟨mb, hb1, hb2⟩ := hb
  have I : InstAt h₁ x (excO C t0) C none := ⟨hx₁, rfl, rfl, trivial⟩
  refine ks_wpAt_super_base (env := ksEnv qual sc hp.objs.size fI (.ref cda) cc) hks hkc (by decide) rfl (X₁ _ _ ho) rfl rfl rfl (X₁ _ _ hcode) rfl hvs2 hfile T.top ?_
  refine ks_loadName_global hk hks (loadGlobal_builtin (env := ksEnv qual sc hp.objs.size fI (.ref cda) cc) (hg.keeps hk₁) hsg (hb1.keeps hk₁) ((hb2 _ (by decide +kernel)).trans (by kernel_rfl : bootBuiltins "super" = some (.type "super"))) ⟨rfl, ?_⟩)
  refine wpAny_loadName_free hk hkc rfl ⟨_, X₁ _ _ hcell, rfl⟩ ?_
  refine wpAny_loadName_local hk hself hns (v := .ref x) ?_ ?_
  · show List.lookup ("self" : Str) [(vn, v), ("self", Value.ref x)] = some (.ref x)
    have : (("self" : Str) == vn) = false := by rw [beq_eq_false_iff_ne]; rw [beq_eq_false_iff_ne] at hvs; exact fun e => hvs e.symm
    simp [List.lookup, this]
  refine ks_wpAny_isType_cls hD1 hD2 ⟨rfl, ?_⟩
  refine ks_wpAny_call_super hD1 hD2 hx₁ rfl (fun c e => by cases e) (looks_mroIn X₁ T.sC) (fun h₂ hso k₂ => ?_)
  have X₂ : K.In h₂ := X₁.keeps k₂
  have I₂ : InstAt h₂ x (excO C t0) C none := ⟨k₂ _ _ hx₁, rfl, rfl, trivial⟩
  have hI : Looks (model prog w) h₂ (isInstance (.ref x) (.type B)) true := I₂.type.andThen (looks_subIn X₂ e3)
  refine kxs_getMethod XB.sup (h := h₂) hso (looks_opaque X₂ T.tp) (l₀ := cdD.mro) (fun A Q E s k q => wpAny_bind ((looks_clsIn X₂ hD) A _ E s k (wpAny_pure q))) rfl X₂ ?_ hI ?_ (by decide) ?_
  · unfold ks_superIn at e4
    rw [hD] at e4
    exact e4
  · exact ks_ne X₂ I₂ hD
  have k₃ : ∀ b o, h₂.get? b = some o → (h₂.push (kxs_mw initId x)).get? b = some o := fun b o e => Heap.get?_push_of_some _ e
  have hone := hmsg.one (ksEnv qual sc hp.objs.size fI (.ref cda) cc)
  refine kxs_callWith (i := initId) (x := x) (by rw [hone]; rfl) ?_
  have hrun := hmsg.run (A.deeper (ksEnv qual sc hp.objs.size fI (.ref cda) cc)) 
  rw [hone]
  refine evalArgs_plain ?_
  show wpAny _ _ (spliced (backTo (q 3) [(false, eval msg (ksEnv qual sc hp.objs.size fI (.ref cda) cc))])) _ _ _
  rw [← hone]
  refine hrun _ _ _ (q 3) _ fun um tkm => ?_
  refine ⟨(Heap.get?_push_at rfl rfl : KxsAt initId h₂.objs.size x (h₂.push (kxs_mw initId x))), ?_⟩
  refine x_wrap (X₂.keeps k₃) XB.base e1 (Heap.get?_push_at rfl rfl) (k₃ _ _ (k₂ _ _ hx₁)) (by rw [sizeLine_eq]; exact (by decide : 1 ≤ 16777216)) fun t' h₄ k₄ hx₄ => ?_
  have X₄ : K.In h₄ := fun a o e => k₄ a o (fun z => by rw [z, hnx] at e; cases e) (k₃ _ _ (X₂ a o e))
  have hxL : hp.objs.size ≠ x := Nat.ne_of_gt (Heap.lt_size hx)
  have hns₄ : h₄.Ns hp.objs.size (fun y => List.lookup y (List.reverse [(("self" : Str), Value.ref x), (vn, v)])) := hns.at (fun o e => k₄ _ o hxL (k₃ _ _ (k₂ _ _ e)))
  refine ks_wpAt_execs_cons (ks_wpAt_Assign_Attr (wpAt_of_wpAny (wpAny_Name (wpAny_loadName_local hk hvn hns₄ (v := v) ?_ (wpAny_Name (wpAny_loadName_local hk hself hns₄ (v := .ref x) ?_ ?_) (by decide))) hvd)))
  · simp [List.lookup]
  · have : (("self" : Str) == vn) = false := by rw [beq_eq_false_iff_ne]; rw [beq_eq_false_iff_ne] at hvs; exact fun e => hvs e.symm
    simp [List.lookup, this]
  refine set_plain X₄ (ox := excO C t') (od := none) ⟨hx₄, rfl, rfl, trivial⟩ T.sa ?_
  refine x_store XB.sto X₄ hx₄ e2 T.tk T.hdC (fun h₅ tk₅ dx k₅ dn dne hx₅ hn₅ => ?_)
  refine wpAt_of_wpAny (wpAny_execs_nil ?_)
  refine hq h₅ tk₅ dx t' ⟨fun b o hb e => k₅ b o hb (k₄ b o hb (k₃ _ _ (k₂ _ _ (hk₁ b o e)))), hx₅, ?_, dne, hn₅⟩
  have z : hp.objs.size < h₄.objs.size := hns₄.lt
  exact Nat.le_of_lt (Nat.lt_of_lt_of_le z dn)
/-- a made one -/
structure OwnMade (h h' : Heap) (e C d : Addr) (f : Str) (v : Value) : Prop where
  keep : ∀ b o, h.get? b = some o → h'.get? b = some o
  new : h.objs.size ≤ e
  obj : ∃ oe vs, h'.get? e = some oe ∧ oe.cls = .ref C ∧ oe.dict = some d ∧ oe.data = .fields vs ∧ vs[1]? = some .none
  dbig : h.objs.size ≤ d
  dne : d ≠ e
  ns : h'.Ns1 d (fun y => if y = f then some v else none)
/-- the names that the value's name may not be -/
def vnOk (vn : Str) : Bool := !(vn == ("self" : Str)) && !(vn == ("__debug__" : Str)) && !(("super" : Str) == vn) && !(("__class__" : Str) == vn)
theorem x_made (T : XTxt prog w K mg xn f vn C fI) (hvn : vnOk vn = true) {v : Value} (hg : s.heap.Ns mainGlobals mg) (hb : ∃ mb, s.heap.Ns builtinsNs mb ∧ ∀ x : Str, x ≠ "__name__" → mb x = bootBuiltins x) (hsg : mg "super" = none) (X : K.In s.heap) (hlim : s.heap.NoLimit) (hroom : A.depth + 1 < recursionLimit)
    (hq : ∀ h' tk e d, OwnMade s.heap h' e C d f v → R (.ok (.ret (.ref e))) { s with heap := h', toks := tk }) :
    codeAny (model prog w) A (.call (.ref C) ⟨[v], []⟩) R s := by
  obtain ⟨B, newId, initId, bmB, XB, e1, e2, e3, e4⟩ := T.bsx
  obtain ⟨nm, N', qn, bs, bm, hdct, sn, sub, ab, col, dd, k0, k1, k2, k3, k5, hC, hT⟩ := excInit_of X e1
  simp only [vnOk, Bool.and_eq_true, Bool.not_eq_true'] at hvn
  obtain ⟨⟨⟨v1, v2⟩, v3⟩, v4⟩ := hvn
  have hf : typeIn K (.ref fI) = some (.type "function") := by
    obtain ⟨q, p1, p2, qual, sc, kV, doc, pm, ct, ccl, cl, od, an, cdd, cld, cda, cc, osl, ccs, csl, vs, file, tf, msg, cdD, ho, _⟩ := T.fn
    show (K.lookup fI).map (·.cls) = some (.type "function")
    rw [ho]; rfl
  obtain ⟨hp, g, dr, tk, os⟩ := s
  have k : ∀ b o, hp.get? b = some o → ((hp.push (kdv_tup [v])).push (excO C hp.objs.size)).get? b = some o := fun b o e => Heap.get?_push_of_some _ (Heap.get?_push_of_some _ e)
  have hget : ((hp.push (kdv_tup [v])).push (excO C hp.objs.size)).get? (hp.objs.size + 1) = some (excO C hp.objs.size) := by heap_get
  have hnx : K.lookup (hp.objs.size + 1) = none := by
    cases e : K.lookup (hp.objs.size + 1) with
    | none => rfl
    | some o =>
      have z : hp.get? (hp.objs.size + 1) = some o := X _ _ e
      exact absurd (Nat.lt_of_succ_lt (Heap.lt_size z)) (Nat.lt_irrefl _)
  refine call_own XB.base hT hC (looks_findIn X T.iC) (fun self => bind_fn X self hf) (by rw [sizeLine_eq]; exact (by decide : 1 ≤ 16777216)) ?_
  obtain ⟨mb, hb1, hb2⟩ := hb
  refine x_init (s := ⟨(hp.push (kdv_tup [v])).push (excO C hp.objs.size), g, dr, tk, os⟩) T v1 v2 v3 v4 (Heap.Ns.keeps hg k) ⟨mb, Heap.Ns.keeps hb1 k, hb2⟩ hsg (X.keeps k) (hlim.keeps k) hget hnx ?_ fun h' tk' dx t1 ⟨k', hx, dn, dne, hns⟩ => ?_
  · show A.depth + 1 < recursionLimit
    exact hroom
  · have old : ∀ b o, hp.get? b = some o → h'.get? b = some o := fun b o e => k' b o (Nat.ne_of_lt (Nat.lt_succ_of_lt (Heap.lt_size e))) (k b o e)
    have z : hp.objs.size + 1 + 1 ≤ dx := by
      first
        | (simpa only [Heap.size_push] using dn)
        | exact dn
        | (have q := dn; rw [Heap.size_push, Heap.size_push] at q; exact q)
    exact ⟨rfl, hq h' tk' (hp.objs.size + 1) dx ⟨old, Nat.le_succ _, ⟨_, _, hx, rfl, rfl, rfl, rfl⟩, Nat.le_trans (Nat.le_trans (Nat.le_succ _) (Nat.le_succ _)) z, dne, hns⟩⟩
end
end HBX
end PySem
namespace HB
open PySem L2 PyProof.Rows
open PySem.HBX
theorem relO_one {f0 : Str} {v : V} {v' : Value} (r : RelV v v') (f : Str) : RelO (List.lookup f [(f0, v)]) (if f = f0 then some v' else none) := by
  by_cases hw : f = f0
  · subst hw
    rw [if_pos rfl]
    have q : List.lookup f [(f, v)] = some v := by simp [List.lookup]
    rw [q]
    exact r
  · rw [if_neg hw]
    have qw : (f == f0) = false := by simpa using hw
    have q2 : List.lookup f [(f0, v)] = none := by simp [List.lookup, qw]
    rw [q2]
    trivial
section
variable {X : Cx} {C fI : Addr} {xn f vn : Str}
def tMkX (C : Addr) (f : Str) (ta : TA) : L2.St → Hp → XK → Prop := fun σ H Q => ta σ H fun vs H1 => ∃ v, vs = [v] ∧ ∀ d, H1 d = none → Q (.ref C) (some d) (upd H1 d (.xd [(f, v)]))
theorem pmk_x {a : Expr} {ta : TA} {p pos : Pos} {k : Nat} (T : XTxt X.prog X.w X.K X.mg xn f vn C fI) (hvn : vnOk vn = true) (hsg : X.mg "super" = none) (hr : Room k X.A) (ha : PA X [a] ta) (hg : Gl X xn) (hd : (xn == ("__debug__" : Str)) = false)
    (he : starEach (a :: []) X.env = (false, eval a X.env) :: starEach [] X.env) (hpl : (backTo pos (starEach [] X.env)).any (·.1) = false) :
    PMk X (.Call (.Name xn p) [a] [] pos) (tMkX C f ta) := by
  intro pins s σ H Q I h
  refine wpAny_Call_Name_kw (ld_glob I hg T.gC ?_ hd)
  refine PySem.W.callWith_K (h₀ := X.base) I.ok.mod.kin T.kC (thn (ha.run pos pins s σ H _ I h) fun us s1 hh => ?_) he hpl
  obtain ⟨vs, H1, I1, r1, v, ev, q1⟩ := hh
  subst ev
  refine ⟨I1.kIn, ?_⟩
  cases r1 with
  | cons rv rn =>
    rename_i v' us'
    cases rn
    show wpAny _ _ (call (.ref C) [v']) _ _ _
    have hlim := I1.nolimit
    have hG : s1.heap.Ns mainGlobals X.mg := I1.ok.mod.glob.keeps I1.bk
    have hB : ∃ mb, s1.heap.Ns builtinsNs mb ∧ ∀ x : Str, x ≠ "__name__" → mb x = bootBuiltins x := by
      obtain ⟨mb, h1, h2⟩ := I1.ok.mod.blt
      exact ⟨mb, h1.keeps I1.bk, h2⟩
    obtain ⟨hp, g, dr, tk, os⟩ := s1
    refine wpAny_call (x_made T hvn hG hB hsg I1.kIn hlim (by have := hr.dp; omega) fun h' tk' e d M => ?_)
    show MkP X pins σ Q (.ref e) ⟨h', g, dr, tk', os⟩
    obtain ⟨oe, fv, hoe, hc, hd, hdat, h1⟩ := M.obj
    have hns := M.ns
    obtain ⟨G', g1, g2⟩ := restrict h' fun b => decide (b ≠ e)
    have gk : ∀ b, b ≠ e → G'.get? b = h'.get? b := fun b hb => g1 b (decide_eq_true hb)
    have ge : G'.get? e = none := g2 e (by simp)
    have old : ∀ b o, hp.get? b = some o → G'.get? b = some o := fun b o q => (gk b (Nat.ne_of_lt (Nat.lt_of_lt_of_le (Heap.lt_size q) M.new))).trans (M.keep b o q)
    have ob : ObjOk X.prog X.w (upd H1 d (.xd [(f, v)])) G' d (.xd [(f, v)]) :=
      ⟨_, hns.at (fun o q => (gk d M.dne).trans q), fun y => relO_one rv y⟩
    have J : Inv X pins σ (upd H1 d (.xd [(f, v)])) ⟨G', g, dr, tk', os⟩ := I1.laid (t' := tk') old M.dbig ob
    refine ⟨e, oe, fv, ⟨G', g, dr, tk', os⟩, _, .ref C, some d, rfl, J, fun b o q => ?_, ge, hoe, ⟨hc, hd⟩, hdat, h1, ?_, rfl, I1.bare, raises_own T.exC T.tyC, q1 d (I1.hok.fresh M.dbig)⟩
    · by_cases hb : b = e
      · have q' : G'.get? b = some o := q
        rw [hb, ge] at q'; cases q'
      · exact (gk b hb).symm.trans q
    · rw [upd_ne (Ne.symm M.dne)]
      exact I1.hok.fresh M.new
end
end HB
namespace HB
open PySem L2 PyProof.Rows
open PySem.HBX
/-! ### the expressions of an except suite -/
inductive XT where
  | fld (ns : List Str) (f : Str) | non | bl (b : Bool) | int (i : Int) | str (x : Str) | tup (es : XT) | lst (es : XT) | nil | cons (a es : XT) | add (a b : XT)
mutual
def evX (c : Exc) : XT → M → R D
  | .fld ns f, m => if ns.contains c.name then match c.fs.lookup f with
      | some d => .ok d m
      | none => .no
    else .no
  | .non, m => .ok .non m
  | .bl b, m => .ok (.bl b) m
  | .int i, m => .ok (.int i) m
  | .str x, m => .ok (.str x) m
  | .tup es, m => (evXA c es m).bind fun ds m => if ds.length ≤ sizeLine then .ok (.tup ds) m else .no
  | .lst es, m => (evXA c es m).bind fun ds m => if ds.length ≤ sizeLine then .ok (.lst ds) m else .no
  | .add a b, m => (evX c a m).bind fun d m => (evX c b m).bind fun e m => addD d e m
  | _, _ => .no
def evXA (c : Exc) : XT → M → R (List D)
  | .nil, m => .ok [] m
  | .cons a es, m => (evX c a m).bind fun d m => (evXA c es m).bind fun ds m => .ok (d :: ds) m
  | _, _ => .no
end
mutual
/-- n: the name of the exception; xcs: the classes with their fields -/
def chkX (n : Str) (xcs : List (Str × Str)) : XT → Expr → Bool
  | .fld ns f, .Attribute (.Name y _) g _ => decide (y = n) && decide (g = f) && ns.all fun c => xcs.contains (c, f)
  | .non, .Constant .none _ _ => true
  | .bl b, .Constant (.bool c) _ _ => b == c
  | .int i, .Constant (.int j) _ _ => decide (i = j)
  | .str x, .Constant (.str y) _ _ => decide (x = y)
  | .tup es, .Tuple ps _ _ => chkXA n xcs es ps
  | .lst es, .List ps _ => chkXA n xcs es ps
  | .add a b, .BinOp p .Add q _ => chkX n xcs a p && chkX n xcs b q
  | _, _ => false
def chkXA (n : Str) (xcs : List (Str × Str)) : XT → List Expr → Bool
  | .nil, [] => true
  | .cons a es, p :: ps => plainB p && chkX n xcs a p && chkXA n xcs es ps
  | _, _ => false
end
/-- an own error with a field -/
def XOk (P : Program) (w : World) (K : PySem.W.Frag) (mg : Str → Option Value) (x f : Str) : Prop := ∃ vn C fI, XTxt P w K mg x f vn C fI ∧ vnOk vn = true ∧ (x == ("__debug__" : Str)) = false
abbrev W0X : WX := fun _ _ _ _ => False
section
variable {X : Cx} {i : Nat} {a : Addr} {cls : Value} {d : Option Addr}
def tX (X : Cx) (i : Nat) (a : Addr) (cls : Value) (d : Option Addr) (se : Exc → M → R D) : TE := fun σ H Q => ∃ rho F c m, Abs X.K X.mg rho F H m ∧ RpX X.K X.mg rho F c cls d ∧ σ[i]? = some (some (.ref a)) ∧ RdE X.K X.mg W0X σ (relD X.K X.mg) rho F H Q (se c m)
def tXA (X : Cx) (i : Nat) (a : Addr) (cls : Value) (d : Option Addr) (se : Exc → M → R (List D)) : TA := fun σ H Q => ∃ rho F c m, Abs X.K X.mg rho F H m ∧ RpX X.K X.mg rho F c cls d ∧ σ[i]? = some (some (.ref a)) ∧ RdE X.K X.mg W0X σ (relL X.K X.mg) rho F H Q (se c m)
theorem RpX.mono {K : PySem.W.Frag} {mg : Str → Option Value} {rho rho' : List Addr} {F F' : Hp} {c : Exc} (s : Onto rho F rho' F') (h : RpX K mg rho F c cls d) : RpX K mg rho' F' c cls d := by
  cases h with
  | bare h => exact .bare h
  | own h1 h2 h3 => exact .own h1 (s.ex _ _ h2) (h3.mono s)
theorem RpF.look {K : PySem.W.Frag} {mg : Str → Option Value} {rho : List Addr} {F : Hp} {f : Str} {dv : D} : ∀ {fs : List (Str × V)} {gs : List (Str × D)}, RpF K mg rho F fs gs → gs.lookup f = some dv → ∃ v, fs.lookup f = some v ∧ Rp K mg rho F v dv
  | _, _, .nil, h => by cases h
  | _, _, .cons (n := n) r rs, h => by
    simp only [List.lookup] at h ⊢
    split at h
    · cases h; rename_i e; exact ⟨_, rfl, r⟩
    · exact RpF.look rs h
theorem stepX_c {v : V} {dd : D} {se : Exc → M → R D} (hse : ∀ c m, se c m = .ok dd m) (hr : ∀ rho F, Rp X.K X.mg rho F v dd) : ∀ σ H Q, tX X i a cls d se σ H Q → tC v σ H Q := by
  rintro σ H Q ⟨rho, F, c, m, A, x, s, h⟩
  rw [hse] at h
  exact h v _ _ _ Step.refl A (hr rho F)
theorem stepX_cons {sa : Exc → M → R D} {sr : Exc → M → R (List D)} : ∀ σ H Q, tXA X i a cls d (fun c m => (sa c m).bind fun d m => (sr c m).bind fun ds m => .ok (d :: ds) m) σ H Q → tCons (tX X i a cls d sa) (tXA X i a cls d sr) σ H Q := by
  rintro σ H Q ⟨rho, F, c, m, A, x, s, h⟩
  refine ⟨rho, F, c, m, A, x, s, RdE.bind h fun d m1 v r1 F1 H1 s1 A1 q1 h1 => ?_⟩
  refine ⟨r1, F1, c, m1, A1, x.mono s1.onto, s, RdE.bind h1 fun e m2 u r2 F2 H2 s2 A2 q2 h2 => ?_⟩
  exact h2 _ _ _ _ Step.refl A2 (.cons (q1.mono s2.onto) q2)
theorem stepX_nil : ∀ σ H Q, tXA X i a cls d (fun c m => .ok [] m) σ H Q → tNil σ H Q := by
  rintro σ H Q ⟨rho, F, c, m, A, x, s, h⟩
  exact h _ _ _ _ Step.refl A .nil
theorem stepX_tup {sr : Exc → M → R (List D)} : ∀ σ H Q, tX X i a cls d (fun c m => (sr c m).bind fun ds m => if ds.length ≤ sizeLine then .ok (.tup ds) m else .no) σ H Q → tTup (tXA X i a cls d sr) σ H Q := by
  rintro σ H Q ⟨rho, F, c, m, A, x, s, h⟩
  refine ⟨rho, F, c, m, A, x, s, RdE.bind h fun ds m1 vs r1 F1 H1 s1 A1 q1 h1 => ?_⟩
  split at h1
  · rename_i hl
    exact ⟨by rw [q1.length]; exact hl, fun p np => RdO.newT (RdE.of0 h1 (fun _ _ z => nomatch z)) A1 q1 np⟩
  · exact h1.elim
theorem stepX_lst {sr : Exc → M → R (List D)} : ∀ σ H Q, tX X i a cls d (fun c m => (sr c m).bind fun ds m => if ds.length ≤ sizeLine then .ok (.lst ds) m else .no) σ H Q → tLst (tXA X i a cls d sr) σ H Q := by
  rintro σ H Q ⟨rho, F, c, m, A, x, s, h⟩
  refine ⟨rho, F, c, m, A, x, s, RdE.bind h fun ds m1 vs r1 F1 H1 s1 A1 q1 h1 => ?_⟩
  split at h1
  · rename_i hl
    exact ⟨by rw [q1.length]; exact hl, fun p np => RdO.newL (RdE.of0 h1 (fun _ _ z => nomatch z)) A1 q1 np⟩
  · exact h1.elim
theorem stepX_op {g : D → D → M → R D} {sa sb : Exc → M → R D} {r : R2} (hr : r = fun x y H Q => ∃ rho F m d e, Abs X.K X.mg rho F H m ∧ Rp X.K X.mg rho F x d ∧ Rp X.K X.mg rho F y e ∧ RdO X.K X.mg rho F H Q (g d e m))
    (nx : ∀ d e m c m', g d e m ≠ .ex c m') :
    ∀ σ H Q, tX X i a cls d (fun c m => (sa c m).bind fun d m => (sb c m).bind fun e m => g d e m) σ H Q → tOp r (tX X i a cls d sa) (tX X i a cls d sb) σ H Q := by
  rintro σ H Q ⟨rho, F, c, m, A, x, s, h⟩
  refine ⟨rho, F, c, m, A, x, s, RdE.bind h fun d m1 v r1 F1 H1 s1 A1 q1 h1 => ?_⟩
  refine ⟨r1, F1, c, m1, A1, x.mono s1.onto, s, RdE.bind h1 fun e m2 u r2 F2 H2 s2 A2 q2 h2 => ?_⟩
  rw [hr]
  exact ⟨r2, F2, m2, d, e, A2, q1.mono s2.onto, q2, h2.of0 fun c m' => nx d e m2 c m'⟩
end
section
variable {X : Cx} {i : Nat} {n : Str} {xcs : List (Str × Str)} {a : Addr} {oe : Obj} {cls : Value} {d : Option Addr} {pn : List (Addr × Obj)}
/-- what is read of an own error -/
theorem snd_fld {ns : List Str} {f : Str} {p1 p2 : Pos} (hi : X.N[i]? = some n) (hv : Vis X.env.scope n) (hdb : (n == ("__debug__" : Str)) = false) (hcd : (n == ("__classdict__" : Str)) = false) (hx : ∀ x f, (x, f) ∈ xcs → XOk X.prog X.w X.K X.mg x f) (hc : ∀ c ∈ ns, (c, f) ∈ xcs) (hz : Zc cls d oe) (hf : ∃ vs, oe.data = .fields vs) :
    PE (X.suite a ((a, oe) :: pn)) (.Attribute (.Name n p1) f p2) (tX X i a cls d fun c m => evX c (.fld ns f) m) := by
  refine ⟨fun pins s σ H Q I h => ?_⟩
  obtain ⟨rho, F, c, m, A, x, hs, h⟩ := h
  simp only [evX] at h
  split at h
  · rename_i hn
    split at h
    · rename_i dv hl
      have hcc := hc c.name (by simpa using hn)
      obtain ⟨vn, C, fI, T, _, _⟩ := hx _ _ hcc
      cases x with
      | bare h1 => cases hl
      | own h1 h2 h3 =>
        rename_i C' dd fs gs nm
        have e : Value.ref C' = Value.ref C := Option.some.inj (h1.symm.trans T.gC)
        cases e
        obtain ⟨v, lv, rv⟩ := h3.look hl
        refine (pe_xf (X := X) (te := tVar i) ⟨T.ga, T.gg, T.exC, T.hdC⟩ T.noN hz hf (pe_var (X := X.suite a ((a, oe) :: pn)) (i := i) hi hv hdb hcd)).run pins s σ H Q I ?_
        exact ⟨.ref a, hs, rfl, rfl, dd, fs, v, rfl, A.ex _ _ h2, lv, h v _ _ _ Step.refl A rv⟩
    · exact h.elim
  · exact h.elim
theorem sndX (hi : X.N[i]? = some n) (hv : Vis X.env.scope n) (hdb : (n == ("__debug__" : Str)) = false) (hcd : (n == ("__classdict__" : Str)) = false) (hx : ∀ x f, (x, f) ∈ xcs → XOk X.prog X.w X.K X.mg x f) (hz : Zc cls d oe) (hf : ∃ vs, oe.data = .fields vs) : ∀ (t : XT),
    (∀ e, chkX n xcs t e = true → PE (X.suite a ((a, oe) :: pn)) e (tX X i a cls d fun c m => evX c t m)) ∧ (∀ es, chkXA n xcs t es = true → PA (X.suite a ((a, oe) :: pn)) es (tXA X i a cls d fun c m => evXA c t m)) := by
  intro t
  induction t with
  | fld ns f =>
    refine ⟨fun e h => ?_, fun es h => by cases es <;> simp [chkXA] at h⟩
    cases e with
    | Attribute o g p =>
      cases o with
      | Name y q =>
        simp only [chkX, Bool.and_eq_true, decide_eq_true_eq, List.all_eq_true] at h
        obtain ⟨⟨rfl, rfl⟩, h3⟩ := h
        exact snd_fld hi hv hdb hcd hx (fun c hc => by simpa using h3 c hc) hz hf
      | _ => simp [chkX] at h
    | _ => simp [chkX] at h
  | non =>
    refine ⟨fun e h => ?_, fun es h => by cases es <;> simp [chkXA] at h⟩
    cases e with
    | Constant k j p =>
      cases k with
      | none => exact PE.imp pe_non (stepX_c (dd := .non) (fun c m => by simp only [evX]) fun _ _ => .non)
      | _ => simp [chkX] at h
    | _ => simp [chkX] at h
  | bl b =>
    refine ⟨fun e h => ?_, fun es h => by cases es <;> simp [chkXA] at h⟩
    cases e with
    | Constant k j p =>
      cases k with
      | bool b' =>
        simp only [chkX, beq_iff_eq] at h
        subst h
        exact PE.imp pe_bl (stepX_c (dd := .bl b) (fun c m => by simp only [evX]) fun _ _ => .bl)
      | _ => simp [chkX] at h
    | _ => simp [chkX] at h
  | int z =>
    refine ⟨fun e h => ?_, fun es h => by cases es <;> simp [chkXA] at h⟩
    cases e with
    | Constant k j p =>
      cases k with
      | int b' =>
        simp only [chkX, decide_eq_true_eq] at h
        subst h
        exact PE.imp pe_int (stepX_c (dd := .int z) (fun c m => by simp only [evX]) fun _ _ => .int)
      | _ => simp [chkX] at h
    | _ => simp [chkX] at h
  | str z =>
    refine ⟨fun e h => ?_, fun es h => by cases es <;> simp [chkXA] at h⟩
    cases e with
    | Constant k j p =>
      cases k with
      | str b' =>
        simp only [chkX, decide_eq_true_eq] at h
        subst h
        exact PE.imp pe_str (stepX_c (dd := .str z) (fun c m => by simp only [evX]) fun _ _ => .str)
      | _ => simp [chkX] at h
    | _ => simp [chkX] at h
  | tup es ih =>
    refine ⟨fun e h => ?_, fun es h => by cases es <;> simp [chkXA] at h⟩
    cases e with
    | Tuple ps j pos =>
      simp only [chkX] at h
      simp only [evX]
      exact PE.imp (pe_tup (ih.2 _ h)) stepX_tup
    | _ => simp [chkX] at h
  | lst es ih =>
    refine ⟨fun e h => ?_, fun es h => by cases es <;> simp [chkXA] at h⟩
    cases e with
    | List ps pos =>
      simp only [chkX] at h
      simp only [evX]
      exact PE.imp (pe_lst (ih.2 _ h)) stepX_lst
    | _ => simp [chkX] at h
  | nil =>
    refine ⟨fun e h => by cases e <;> simp [chkX] at h, fun es h => ?_⟩
    cases es with
    | nil =>
      simp only [evXA]
      exact PA.imp pa_nil stepX_nil
    | cons p ps => simp [chkXA] at h
  | cons x es i1 i2 =>
    refine ⟨fun e h => by cases e <;> simp [chkX] at h, fun es h => ?_⟩
    cases es with
    | nil => simp [chkXA] at h
    | cons p ps =>
      simp only [chkXA, Bool.and_eq_true] at h
      obtain ⟨⟨h1, h2⟩, h3⟩ := h
      simp only [evXA]
      exact PA.imp (pa_cons (i1.1 _ h2) (i2.2 _ h3) (star_cons h1)) stepX_cons
  | add x y i1 i2 =>
    refine ⟨fun e h => ?_, fun es h => by cases es <;> simp [chkXA] at h⟩
    cases e with
    | BinOp p q r pos =>
      cases q with
      | Add =>
        simp only [chkX, Bool.and_eq_true] at h
        simp only [evX]
        exact PE.imp (pe_op (od_bin .add) (i1.1 _ h.1) (i2.1 _ h.2)) (stepX_op rfl fun d e m c m' => bop_noex (o := .add))
      | _ => simp [chkX] at h
    | _ => simp [chkX] at h
end
end HB
namespace HB
open PySem L2
/-! ### statements -/
inductive S where
  | nil | cons (s r : S)
  | asg (g : G) (e : T) | par (i j : Nat) (a b : T) | par3 (i j l : Nat) (a b c : T) | setix (o i e : T) | app (o e : T) | exp (e : T)
  | ret (e : T) | retN | ife (c : T) (a b : S) | fr (g : G) (it : T) (b : S) | wh (n : Nat) (c : T) (b : S)
  | pass | brk | cont | frz (i : Nat)
  | rai (n f : Str) (e : T) | try1 (b : S) (x : Str) (tbl : List (Str × Bool)) (i : Nat) (e : XT)
inductive RS where
  | nx (env : Env) (m : M) | rt (d : D) (m : M) | bk (env : Env) (m : M) | ct (env : Env) (m : M) | ex (c : Exc) (env : Env) (m : M) | no
def R.st {α : Type} (r : R α) (env : Env) (k : α → M → RS) : RS := match r with
  | .ok a m => k a m
  | .ex c m => .ex c env m
  | .no => .no
def setixD (d k v : D) (m : M) : Option M := match d, k with
  | .ref j, .int i => match m[j]? with
    | some (.lst ds) => match ixN ds.length i with
      | some n => some (m.set j (.lst (ds.set n v)))
      | none => none
    | _ => none
  | _, _ => none
def appD (j : Nat) (v : D) (m : M) : Option M := match m[j]? with
  | some (.lst ds) => if ds.length < sizeLine then some (m.set j (.lst (ds ++ [v]))) else none
  | _ => none
def isLst (j : Nat) (m : M) : Bool := match m[j]? with
  | some (.lst _) => true
  | _ => false
def frzD (i : Nat) (env : Env) (m : M) : Option (Env × M) := match env[i]? with
  | some (some (.ref k)) => match m[k]? with
    | some (.lst ds) => some (env.set i (some (.lst ds)), m.set k .gone)
    | some (.dct ds) => some (env.set i (some (.dct ds)), m.set k .gone)
    | _ => none
  | _ => none
def forGo (step : D → Env → M → RS) : List D → Env → M → RS
  | [], env, m => .nx env m
  | x :: xs, env, m => match step x env m with
    | .nx e m => forGo step xs e m
    | .ct e m => forGo step xs e m
    | .bk e m => .nx e m
    | r => r
def whGo (c : SB) (b : Env → M → RS) : Nat → Env → M → RS
  | 0, _, _ => .no
  | n + 1, env, m => (c env m).st env fun t m => if t then
      match b env m with
      | .nx e m => whGo c b n e m
      | .ct e m => whGo c b n e m
      | .bk e m => .nx e m
      | r => r
    else .nx env m
def evS (fs : List Sem) : S → Env → M → RS
  | .nil, env, m => .nx env m
  | .cons s r, env, m => match evS fs s env m with
    | .nx e m => evS fs r e m
    | x => x
  | .asg g e, env, m => (evE fs e env m).st env fun d m => match asgG g d env with
    | some env2 => .nx env2 m
    | none => .no
  | .par i j a b, env, m => (evE fs a env m).st env fun d m => (evE fs b env m).st env fun e m => .nx ((env.set i (some d)).set j (some e)) m
  | .par3 i j l a b c, env, m => (evE fs a env m).st env fun d m => (evE fs b env m).st env fun e m => (evE fs c env m).st env fun f m => .nx (((env.set i (some d)).set j (some e)).set l (some f)) m
  | .setix o i e, env, m => (evE fs e env m).st env fun v m => (evE fs o env m).st env fun d m => (evE fs i env m).st env fun k m => match setixD d k v m with
    | some m => .nx env m
    | none => .no
  | .app o e, env, m => (evE fs o env m).st env fun d m => match d with
    | .ref j => if isLst j m then (evE fs e env m).st env fun v m => match appD j v m with
        | some m => .nx env m
        | none => .no
      else .no
    | _ => .no
  | .exp e, env, m => (evE fs e env m).st env fun _ m => .nx env m
  | .ret e, env, m => (evE fs e env m).st env fun d m => .rt d m
  | .retN, _, m => .rt .non m
  | .ife c a b, env, m => (evT fs c env m).st env fun t m => if t then evS fs a env m else evS fs b env m
  | .fr g it b, env, m => (evE fs it env m).st env fun d m => match viewI d m with
    | some xs => forGo (fun x env m => match asgG g x env with
        | some env2 => evS fs b env2 m
        | none => .no) xs env m
    | none => .no
  | .wh n c b, env, m => whGo (evT fs c) (evS fs b) n env m
  | .pass, env, m => .nx env m
  | .brk, env, m => .bk env m
  | .cont, env, m => .ct env m
  | .frz i, env, m => match frzD i env m with
    | some (e, m) => .nx e m
    | none => .no
  | .rai n f e, env, m => (evE fs e env m).st env fun d m => .ex ⟨n, [(f, d)]⟩ env m
  | .try1 b _ tbl i e, env, m => match evS fs b env m with
    | .ex c env m => match tbl.lookup c.name with
      | some true => if i < env.length then match evX c e m with
          | .ok d m => .rt d m
          | _ => .no
        else .no
      | some false => .ex c env m
      | none => .no
    | r => r
/-! ### does it stand there -/
def noComp : Expr → Bool
  | .ListComp .. => false
  | .SetComp .. => false
  | .DictComp .. => false
  | _ => true
def noTup : Expr → Bool
  | .Tuple .. => false
  | .List .. => false
  | _ => true
def noFold (vs : List Expr) : Bool := !(vs.all (foldedForSure 8)) && !(vs.all (constantsAlone 8))
/-- a plain assignment -/
def asgOk (C : Ck) (tg v : Expr) : Bool := (noTup tg || noTup v) && match v with
  | .ListComp _ _ scope vp => match tg with
    | .Name y py => match C.sc.names.lookup y with
      | some .local => (py.line == vp.line) && !(scope.names.any fun (n, k) => n == y && (k == .local || k == .cell))
      | some .cell => true
      | _ => false
    | _ => true
  | v => noComp v
mutual
def chk1 (C : Ck) : S → Stmt → Bool
  | .asg g e, .Assign [tg] v _ => chkG C g tg && chk C e v && asgOk C tg v && plainB tg
  | .par i j a b, .Assign [.Tuple [.Name x px, .Name y py] _ _] (.Tuple [p, q] _ _) _ => decide (C.N[i]? = some x) && decide (C.N[j]? = some y) && decide (i ≠ j) && decide (C.sc.names.lookup x = some .local) && decide (C.sc.names.lookup y = some .local) &&
      decide (x ≠ y) && (px.line == py.line) && plainB p && plainB q && noFold [p, q] && chk C a p && chk C b q
  | .par3 i j l a b c, .Assign [.Tuple [.Name x px, .Name y py, .Name z pz] _ _] (.Tuple [p, q, r] _ _) _ => decide (C.N[i]? = some x) && decide (C.N[j]? = some y) && decide (C.N[l]? = some z) && decide (i ≠ j) && decide (i ≠ l) && decide (j ≠ l) &&
      decide (C.sc.names.lookup x = some .local) && decide (C.sc.names.lookup y = some .local) && decide (C.sc.names.lookup z = some .local) && decide (x ≠ y) && decide (x ≠ z) && decide (y ≠ z) && (px.line == py.line) && (px.line == pz.line) &&
      plainB p && plainB q && plainB r && noFold [p, q, r] && chk C a p && chk C b q && chk C c r
  | .setix o i e, .Assign [.Subscript p q _] v _ => noSliceB q && noComp v && chk C e v && chk C o p && chk C i q
  | .app o e, .Expr (.Call (.Attribute p x ap) [q] [] pos) _ => decide (x = "append") && noCall0 p && plainB q && (ap.endLine == pos.line) && chk C o p && chk C e q
  | .exp e, .Expr p _ => noComp p && chk C e p
  | .ret e, .Return (some p) _ => chk C e p
  | .retN, .Return none _ => true
  | .ife c a b, .If p x y _ => chk C c p && chkB C a x && chkB C b y
  | .fr g it b, .For tg iter body [] _ => chkG C g tg && chkI C it iter && noSet iter && chkB C b body
  | .wh _ c b, .While p body [] _ => chk C c p && chkB C b body
  | .rai n f e, .Raise (some (.Call (.Name x _) [p] [] _)) none _ => decide (x = n) && glB C.sc x && plainB p && chk C e p && C.xcs.contains (n, f)
  | .try1 b x tbl i e, .Try body [.ExceptHandler (some (.Name y _)) (some nm) [.Return (some p) _] _] [] [] _ => decide (y = x) && glB C.sc x && decide (C.N[i]? = some nm) && decide (C.sc.names.lookup nm = some .local) && okN nm &&
      !tbl.isEmpty && tbl.all (fun r => C.xsub.contains (r.1, x, r.2)) && chkX nm C.xcs e p && chkB C b body
  | .pass, .Pass _ => true
  | .brk, .Break _ => true
  | .cont, .Continue _ => true
  | _, _ => false
def chkB (C : Ck) : S → List Stmt → Bool
  | .nil, [] => true
  | .cons (.frz _) r, sts => chkB C r sts
  | .cons s r, st :: sts => chk1 C s st && chkB C r sts
  | _, _ => false
end
end HB
namespace HB
open PySem L2
section
variable (K : PySem.W.Frag) (mg : Str → Option Value) (W : WX)
def RdS (rho : List Addr) (F H : Hp) (D : Ends) : RS → Prop
  | .nx env m => ∀ σ rho' F' H', Step rho F H rho' F' H' → Abs K mg rho' F' H' m → RpEnv K mg rho' F' σ env → D.nx σ H'
  | .bk env m => ∀ σ rho' F' H', Step rho F H rho' F' H' → Abs K mg rho' F' H' m → RpEnv K mg rho' F' σ env → D.bk σ H'
  | .ct env m => ∀ σ rho' F' H', Step rho F H rho' F' H' → Abs K mg rho' F' H' m → RpEnv K mg rho' F' σ env → D.ct σ H'
  | .rt d m => ∀ v rho' F' H', Step rho F H rho' F' H' → Abs K mg rho' F' H' m → Rp K mg rho' F' v d → D.rt v H'
  | .ex c env m => ∀ cls dx σ rho' F' H', Step rho F H rho' F' H' → Abs K mg rho' F' H' m → RpEnv K mg rho' F' σ env → RpX K mg rho' F' c cls dx → W cls dx σ H'
  | .no => False
end
section
variable {K : PySem.W.Frag} {mg : Str → Option Value} {W : WX} {rho rho' : List Addr} {F F' H H' : Hp} {D : Ends}
theorem RdS.step {r : RS} (h : RdS K mg W rho F H D r) (s : Step rho F H rho' F' H') : RdS K mg W rho' F' H' D r := by
  cases r with
  | nx env m => exact fun σ r2 F2 H2 s2 => h σ r2 F2 H2 (s.trans s2)
  | bk env m => exact fun σ r2 F2 H2 s2 => h σ r2 F2 H2 (s.trans s2)
  | ct env m => exact fun σ r2 F2 H2 s2 => h σ r2 F2 H2 (s.trans s2)
  | rt d m => exact fun σ r2 F2 H2 s2 => h σ r2 F2 H2 (s.trans s2)
  | ex c env m => exact fun cls dx σ r2 F2 H2 s2 => h cls dx σ r2 F2 H2 (s.trans s2)
  | no => exact h
/-- an expression ahead of the rest -/
theorem RdS.ahead {α β : Type} {rel : List Addr → Hp → β → α → Prop} {r : R α} {env : Env} {k : α → M → RS} {σ : L2.St} {Q : β → Hp → Prop} (En : RpEnv K mg rho F σ env) (h : RdS K mg W rho F H D (r.st env k))
    (f : ∀ d m v rho' F' H', Step rho F H rho' F' H' → Abs K mg rho' F' H' m → rel rho' F' v d → RdS K mg W rho' F' H' D (k d m) → Q v H') : RdE K mg W σ rel rho F H Q r := by
  cases r with
  | ok d m => exact fun v r2 F2 H2 s A q => f d m v r2 F2 H2 s A q (RdS.step (show RdS K mg W rho F H D (k d m) from h) s)
  | ex c m => exact fun cls dx r2 F2 H2 s A q => h cls dx σ r2 F2 H2 s A (En.mono s.onto) q
  | no => exact h
end
def tSt (X : Cx) (W : WX) (ss : Env → M → RS) : TS := fun D σ H => ∃ rho F env m, Abs X.K X.mg rho F H m ∧ RpEnv X.K X.mg rho F σ env ∧ RdS X.K X.mg W rho F H D (ss env m)
structure GdS (X : Cx) (W : WX) (C : Ck) (fs : List Sem) (k : Nat) : Prop extends GdE X W C fs k where
  own : PassesOwn (model X.prog X.w) X.A X.env X.xe
  stk : X.stack = X.env :: X.outer
  frm : X.env.frame = some X.env.locals
  kind : X.env.scope.kind = .function
  rw0 : C.raw = none
  xok : ∀ x f, (x, f) ∈ C.xcs → XOk X.prog X.w X.K X.mg x f
  xsb : ∀ r x b, (r, x, b) ∈ C.xsub → ∃ A B, X.mg r = some (.ref A) ∧ X.mg x = some (.ref B) ∧ PySem.W.exmOne X.K (.ref A) (.ref B) = some b
  sup : X.mg "super" = none
theorem PS.imp {X : Cx} {st : Stmt} {t t' : TS} (h : PS X st t) (f : ∀ D σ H, t' D σ H → t D σ H) : PS X st t' := ⟨fun pins s σ H D I q => h.run pins s σ H D I (f D σ H q)⟩
theorem PSs.imp {X : Cx} {st : List Stmt} {t t' : TS} (h : PSs X st t) (f : ∀ D σ H, t' D σ H → t D σ H) : PSs X st t' := ⟨fun pins s σ H D I q => h.run pins s σ H D I (f D σ H q)⟩
section
variable {X : Cx} {W : WX} {C : Ck} {fs : List Sem} {k : Nat}
theorem sw_plain {v : Expr} {t : Option Expr} {l : Nat} {env : PySem.Env} (h : noComp v = true) : swapsWith v t l env = pure false := by
  cases v <;> first | rfl | (simp [noComp] at h)
theorem swS_plain {v tg : Expr} {l : Nat} {env : PySem.Env} (h : noComp v = true) : swapsWithSole [tg] v l env = pure false := sw_plain h
theorem block_fn {env : PySem.Env} (h : env.scope.kind = .function) : env.blockKind = .function := by
  unfold Env.blockKind
  rw [h]; rfl
theorem st_none {tg v : Expr} {env : PySem.Env} (h : (noTup tg || noTup v) = true) : swappedStores [tg] v env = pure none := by
  unfold swappedStores
  simp only [Bool.or_eq_true] at h
  rcases h with h | h
  · cases tg <;> first | (simp [noTup] at h; done) | rfl
  · cases v <;> first | (simp [noTup] at h; done) | (cases tg <;> rfl)
theorem asg1 {tg : Expr} {env : PySem.Env} (h : plainB tg = true) : (assignEach [tg] env).map (·.2) = [assign tg env] := by
  rw [asgEach_cons h]; rfl
/-- the parts of a comprehension that stands there -/
theorem lc_parts (g : GdE X W C fs k) {own : List (Str × Nat)} {gg : G} {it c e : T} {elt : Expr} {gens : List Comprehension} {scope : Scope} {pos : Pos} (h : chk C (.lc own gg it c e) (.ListComp elt gens scope pos) = true) :
    ∃ tg iter ifs, gens = [⟨tg, iter, ifs, 0⟩] ∧ PI X tg iter (tI X W (evE fs it)) ∧ BlkOk X.N X.env.scope scope own ∧
      (∀ (s : Shared) (H : Hp) (A : Addr) (cl : List (Str × Addr)) (fp : List Addr), PG (X.blk s H scope (compEnvC scope cl A X.env) fp) tg (tG X gg)) ∧
      (∀ (s : Shared) (H : Hp) (A : Addr) (cl : List (Str × Addr)) (fp : List Addr), PTs (X.blk s H scope (compEnvC scope cl A X.env) fp) ifs (tCond X (isNoP c) (evE fs c))) ∧
      (∀ (s : Shared) (H : Hp) (A : Addr) (cl : List (Str × Addr)) (fp : List Addr), PE (X.blk s H scope (compEnvC scope cl A X.env) fp) elt (tE X W0 (evE fs e))) ∧
      (∀ x, foldedSetIterable iter X.env x = pure x) ∧ ∀ i ∈ gSlots gg, i ∈ own.map (·.2) := by
  match gens, h with
  | [⟨tg, iter, ifs, asy⟩], h =>
    unfold chk at h
    simp only [Bool.and_eq_true, decide_eq_true_eq] at h
    obtain ⟨⟨⟨⟨⟨⟨⟨h0, h1⟩, h2⟩, h3⟩, h4⟩, h5⟩, h6⟩, h7⟩ := h
    subst h0
    have hi : chkI C it iter = true := h1
    refine ⟨tg, iter, ifs, rfl, snd_iter g (sndAll it) (fun a _ => sndAll a) (fun a b _ => ⟨sndAll a, sndAll b⟩) hi, by rw [g.N, g.sc]; exact blkOk_by h3, fun s H A cl fp => sndG (g.blk (own := own) s H A cl fp).t gg h4, fun s H A cl fp => ?_,
      fun s H A cl fp => ((sndAll e _ _ _ k (g.blk (own := own) s H A cl fp)).1 _ h7).v, folded_plain h2, fun i hi => ?_⟩
    · match ifs, h6 with
      | [], h6 =>
        simp only at h6
        rw [h6]
        exact pts_nil
      | [q], h6 =>
        simp only [Bool.and_eq_true, Bool.not_eq_true'] at h6
        rw [h6.1]
        exact pts_one ((sndAll c _ _ _ k (g.blk (own := own) s H A cl fp)).1 _ h6.2).t
      | _ :: _ :: _, h6 => simp at h6
    · simp only [List.all_eq_true, List.contains_eq_mem, decide_eq_true_eq] at h5
      exact h5 i hi
  | [], h => simp [chk] at h
  | _ :: _ :: _, h => simp [chk] at h
/-- target = value -/
theorem snd_asg (g : GdS X W C fs k) {gg : G} {e : T} {tg v : Expr} {pos : Pos} (hg : chkG C gg tg = true) (he : chk C e v = true) (hok : asgOk C tg v = true) (hp : plainB tg = true) : PS X (.Assign [tg] v pos) (tSt X W (evS fs (.asg gg e))) := by
  have PEv := ((sndAll e) X W C k g.toGdE).1 _ he
  have PGt := sndG g.toGdE.t gg hg
  have key : ∀ D σ H, tSt X W (evS fs (.asg gg e)) D σ H → tAsg (tE X W (evE fs e)) (tG X gg) D σ H := by
    rintro D σ H ⟨rho, F, env, m, A, En, h⟩
    simp only [evS] at h
    refine ⟨rho, F, env, m, A, En, RdS.ahead En h fun d m1 v r1 F1 H1 s1 A1 q1 h1 => ?_⟩
    refine ⟨r1, F1, env, m1, d, A1, En.mono s1.onto, q1, ?_⟩
    cases ea : asgG gg d env with
    | none => rw [ea] at h1; exact h1
    | some env2 =>
      rw [ea] at h1
      exact fun σ2 En2 _ => h1 σ2 _ _ _ Step.refl A1 En2
  unfold asgOk at hok
  simp only [Bool.and_eq_true] at hok
  obtain ⟨hT, hok⟩ := hok
  have plain : swapsWithSole [tg] v pos.line X.env = pure false → PS X (.Assign [tg] v pos) (tSt X W (evS fs (.asg gg e))) := fun hn => PS.imp (ps_asg PEv.v PGt hn (st_none hT) (asg1 hp)) key
  cases v with
  | ListComp elt gens scope vp =>
    cases tg with
    | Name y py =>
      simp only at hok
      split at hok
      · rename_i hl
        simp only [Bool.and_eq_true, Bool.not_eq_true'] at hok
        cases e with
        | lc own g2 it c e =>
          obtain ⟨tg2, iter, ifs, rfl, pi, ok, pg, pt, pe, fol, hgs⟩ := lc_parts (W := W) g.toGdE he
          cases gg with
          | name i =>
            simp only [chkG, Bool.and_eq_true, decide_eq_true_eq] at hg
            refine PS.imp (ps_setLc (i := i) g.calm g.nd (by rw [g.N]; exact hg.1) (by rw [g.sc]; exact hl) (sw_true g.kind (by rw [g.sc]; exact hl) hok.1 hok.2) pi ok pg pt pe fol) ?_
            rintro D σ H ⟨rho, F, env, m, A, En, h⟩
            simp only [evS, lc_eq] at h
            refine step_lc (W := W) hgs σ H _ ⟨rho, F, env, m, A, En, RdS.ahead En h fun d m1 v r1 F1 H1 s1 A1 q1 h1 => ?_⟩
            simp only [asgG] at h1
            exact h1 _ _ _ _ Step.refl A1 ((En.mono s1.onto).set q1 i)
          | _ => simp [chkG] at hg
        | _ => simp [chk] at he
      · rename_i hl
        refine plain ?_
        have sole : swapsWithSole [.Name y py] (.ListComp elt gens scope vp) pos.line X.env = swapsWith (.ListComp elt gens scope vp) (some (.Name y py)) pos.line X.env := rfl
        rw [sole]
        unfold swapsWith
        have : X.env.kindOf y = some .cell := by show X.env.scope.names.lookup y = _; rw [g.sc]; exact hl
        simp only [this]
        have e1 : (some NameKind.cell == some NameKind.local) = false := by decide
        simp only [e1, Bool.and_false, Bool.false_and]
      · cases hok
    | _ => exact plain (by rfl)
  | _ => exact plain (swS_plain hok)
theorem swap2 {x y : Str} {px py pt : Pos} {p q : Expr} {kt k2 : Nat} {pt2 : Pos} {env : PySem.Env} (hk : env.scope.kind = .function) (hx : env.kindOf x = some .local) (hy : env.kindOf y = some .local) (hxy : x ≠ y) (hl : (px.line == py.line) = true) (hp : plainB p = true) (hq : plainB q = true) (hf : noFold [p, q] = true) :
    swappedStores [.Tuple [.Name x px, .Name y py] kt pt] (.Tuple [p, q] k2 pt2) env = pure (some [x, y]) := by
  have hb := block_fn hk
  have hl' : (py.line == px.line) = true := by rw [beq_iff_eq] at hl ⊢; exact hl.symm
  simp only [noFold, Bool.and_eq_true, Bool.not_eq_true'] at hf
  have yx : (y == x) = false := beq_eq_false_iff_ne.mpr (Ne.symm hxy)
  have e1 : [x, y].eraseDups = [x, y] := by simp [List.eraseDups, List.eraseDupsBy, List.eraseDupsBy.loop, yx]
  unfold swappedStores
  simp only [Expr.pos, List.head?, Option.map, Option.getD, List.filterMap, hx, hy, hl', hb, hf.1, hf.2]
  simp [e1]
  intro h
  exfalso
  rcases h with h | h
  · cases p <;> first | (simp [plainB] at hp; done) | cases h
  · cases q <;> first | (simp [plainB] at hq; done) | cases h
theorem swap3 {x y z : Str} {px py pz pt : Pos} {p q r : Expr} {kt k2 : Nat} {pt2 : Pos} {env : PySem.Env} (hk : env.scope.kind = .function) (hx : env.kindOf x = some .local) (hy : env.kindOf y = some .local) (hz : env.kindOf z = some .local) (hxy : x ≠ y) (hxz : x ≠ z) (hyz : y ≠ z) (hl : (px.line == py.line) = true) (hl2 : (px.line == pz.line) = true) (hp : plainB p = true) (hq : plainB q = true) (hr : plainB r = true) (hf : noFold [p, q, r] = true) :
    swappedStores [.Tuple [.Name x px, .Name y py, .Name z pz] kt pt] (.Tuple [p, q, r] k2 pt2) env = pure (some [x, y, z]) := by
  have hb := block_fn hk
  have hl' : (py.line == px.line) = true := by rw [beq_iff_eq] at hl ⊢; exact hl.symm
  have hl3 : (pz.line == px.line) = true := by rw [beq_iff_eq] at hl2 ⊢; exact hl2.symm
  simp only [noFold, Bool.and_eq_true, Bool.not_eq_true'] at hf
  have yx : (y == x) = false := beq_eq_false_iff_ne.mpr (Ne.symm hxy)
  have zx : (z == x) = false := beq_eq_false_iff_ne.mpr (Ne.symm hxz)
  have zy : (z == y) = false := beq_eq_false_iff_ne.mpr (Ne.symm hyz)
  have e1 : [x, y, z].eraseDups = [x, y, z] := by simp [List.eraseDups, List.eraseDupsBy, List.eraseDupsBy.loop, yx, zx, zy]
  unfold swappedStores
  simp only [Expr.pos, List.head?, Option.map, Option.getD, List.filterMap, hx, hy, hz, hl', hl3, hb, hf.1, hf.2]
  simp [e1]
  intro h
  exfalso
  rcases h with h | h | h
  · cases p <;> first | (simp [plainB] at hp; done) | cases h
  · cases q <;> first | (simp [plainB] at hq; done) | cases h
  · cases r <;> first | (simp [plainB] at hr; done) | cases h
end
end HB
namespace HB
open PySem L2
section
variable {X : Cx} {W : WX} {C : Ck} {fs : List Sem} {k : Nat}
theorem snd_par (g : GdS X W C fs k) {i j : Nat} {a b : T} {x y : Str} {px py pt pt2 pos : Pos} {p q : Expr} {kt k2 : Nat} (h : chk1 C (.par i j a b) (.Assign [.Tuple [.Name x px, .Name y py] kt pt] (.Tuple [p, q] k2 pt2) pos) = true) :
    PS X (.Assign [.Tuple [.Name x px, .Name y py] kt pt] (.Tuple [p, q] k2 pt2) pos) (tSt X W (evS fs (.par i j a b))) := by
  simp only [chk1, Bool.and_eq_true, decide_eq_true_eq] at h
  obtain ⟨⟨⟨⟨⟨⟨⟨⟨⟨⟨⟨h1, h2⟩, h3⟩, h4⟩, h5⟩, h6⟩, h7⟩, h8⟩, h9⟩, h10⟩, h11⟩, h12⟩ := h
  have lx : X.env.scope.names.lookup x = some .local := by rw [g.sc]; exact h4
  have ly : X.env.scope.names.lookup y = some .local := by rw [g.sc]; exact h5
  refine PS.imp (ps_par (i := i) (j := j) g.calm g.nd (by rw [g.N]; exact h1) (by rw [g.N]; exact h2) h3 lx ly (pa_cons ((sndAll a X W C k g.toGdE).1 _ h11).v (pa_cons ((sndAll b X W C k g.toGdE).1 _ h12).v pa_nil (star_cons h9)) (star_cons h8)) (swap2 g.kind lx ly h6 h7 h8 h9 h10)) ?_
  rintro D σ H ⟨rho, F, env, m, A, En, h⟩
  simp only [evS] at h
  refine ⟨rho, F, env, m, A, En, RdS.ahead En h fun d m1 v r1 F1 H1 s1 A1 q1 h1 => ?_⟩
  refine ⟨r1, F1, env, m1, A1, En.mono s1.onto, RdS.ahead (En.mono s1.onto) h1 fun e m2 u r2 F2 H2 s2 A2 q2 h2 => ?_⟩
  exact ⟨v, u, rfl, h2 _ _ _ _ Step.refl A2 ((((En.mono s1.onto).mono s2.onto).set (q1.mono s2.onto) i).set q2 j)⟩
theorem snd_par3 (g : GdS X W C fs k) {i j l : Nat} {a b c : T} {x y z : Str} {px py pz pt pt2 pos : Pos} {p q r : Expr} {kt k2 : Nat} (h : chk1 C (.par3 i j l a b c) (.Assign [.Tuple [.Name x px, .Name y py, .Name z pz] kt pt] (.Tuple [p, q, r] k2 pt2) pos) = true) :
    PS X (.Assign [.Tuple [.Name x px, .Name y py, .Name z pz] kt pt] (.Tuple [p, q, r] k2 pt2) pos) (tSt X W (evS fs (.par3 i j l a b c))) := by
  simp only [chk1, Bool.and_eq_true, decide_eq_true_eq] at h
  obtain ⟨⟨⟨⟨⟨⟨⟨⟨⟨⟨⟨⟨⟨⟨⟨⟨⟨⟨⟨⟨h1, h2⟩, h3⟩, h4⟩, h5⟩, h6⟩, h7⟩, h8⟩, h9⟩, h10⟩, h11⟩, h12⟩, h13⟩, h14⟩, h15⟩, h16⟩, h17⟩, h18⟩, h19⟩, h20⟩, h21⟩ := h
  have lx : X.env.scope.names.lookup x = some .local := by rw [g.sc]; exact h7
  have ly : X.env.scope.names.lookup y = some .local := by rw [g.sc]; exact h8
  have lz : X.env.scope.names.lookup z = some .local := by rw [g.sc]; exact h9
  refine PS.imp (ps_par3 (i := i) (j := j) (l := l) g.calm g.nd (by rw [g.N]; exact h1) (by rw [g.N]; exact h2) (by rw [g.N]; exact h3) h4 h5 h6 lx ly lz
    (pa_cons ((sndAll a X W C k g.toGdE).1 _ h19).v (pa_cons ((sndAll b X W C k g.toGdE).1 _ h20).v (pa_cons ((sndAll c X W C k g.toGdE).1 _ h21).v pa_nil (star_cons h17)) (star_cons h16)) (star_cons h15)) (swap3 g.kind lx ly lz h10 h11 h12 h13 h14 h15 h16 h17 h18)) ?_
  rintro D σ H ⟨rho, F, env, m, A, En, h⟩
  simp only [evS] at h
  refine ⟨rho, F, env, m, A, En, RdS.ahead En h fun d m1 v r1 F1 H1 s1 A1 q1 h1 => ?_⟩
  refine ⟨r1, F1, env, m1, A1, En.mono s1.onto, RdS.ahead (En.mono s1.onto) h1 fun e m2 u r2 F2 H2 s2 A2 q2 h2 => ?_⟩
  refine ⟨r2, F2, env, m2, A2, (En.mono s1.onto).mono s2.onto, RdS.ahead ((En.mono s1.onto).mono s2.onto) h2 fun f m3 w r3 F3 H3 s3 A3 q3 h3 => ?_⟩
  exact ⟨v, u, w, rfl, h3 _ _ _ _ Step.refl A3 ((((((En.mono s1.onto).mono s2.onto).mono s3.onto).set ((q1.mono s2.onto).mono s3.onto) i).set (q2.mono s3.onto) j).set q3 l)⟩
theorem snd_setix (g : GdS X W C fs k) {o i e : T} {p q v : Expr} {pp pos : Pos} (h : chk1 C (.setix o i e) (.Assign [.Subscript p q pp] v pos) = true) : PS X (.Assign [.Subscript p q pp] v pos) (tSt X W (evS fs (.setix o i e))) := by
  simp only [chk1, Bool.and_eq_true] at h
  obtain ⟨⟨⟨⟨h1, h2⟩, h3⟩, h4⟩, h5⟩ := h
  have hasg : ∀ u, assign (.Subscript p q pp) X.env u = (do
      let ov ← holding [u] (eval p X.env)
      let iv ← holding [u, ov] (eval q X.env)
      standAt pp
      holding [u, ov, iv] (setItem ov iv u)
      release [u, ov, iv] []) := by
    intro u
    cases q <;> first | (simp [noSliceB] at h1; done) | rfl
  refine PS.imp (ps_asg ((sndAll e X W C k g.toGdE).1 _ h3).v (pg_sub ((sndAll o X W C k g.toGdE).1 _ h4).v ((sndAll i X W C k g.toGdE).1 _ h5).v set_list hasg) (swS_plain h2) (st_none rfl) rfl) ?_
  rintro D σ H ⟨rho, F, env, m, A, En, h⟩
  simp only [evS] at h
  refine ⟨rho, F, env, m, A, En, RdS.ahead En h fun d m1 v r1 F1 H1 s1 A1 q1 h1 => ?_⟩
  refine ⟨r1, F1, env, m1, A1, En.mono s1.onto, RdS.ahead (En.mono s1.onto) h1 fun e m2 u r2 F2 H2 s2 A2 q2 h2 => ?_⟩
  refine ⟨r2, F2, env, m2, A2, (En.mono s1.onto).mono s2.onto, RdS.ahead ((En.mono s1.onto).mono s2.onto) h2 fun f m3 w r3 F3 H3 s3 A3 q3 h3 => ?_⟩
  split at h3
  · rename_i m4 hs
    unfold setixD at hs
    split at hs
    · split at hs
      · split at hs
        · rename_i jj ii _ ds hm _ n hn
          cases hs
          cases q3
          cases q2 with
          | ref hi =>
            have hi3 := s3.ix hi
            obtain ⟨nF, vs, h0, r⟩ := A3.own _ _ _ hi3 hm
            have rv := (q1.mono s2.onto).mono s3.onto
            obtain ⟨st, A4⟩ := A3.write (o := .lst (vs.set n v)) (y := .lst (ds.set n d)) hi3 hm nF ⟨_, h0⟩ ⟨nF, _, upd_same, r.set rv n⟩
            exact ⟨_, vs, ii, n, rfl, rfl, h0, by rw [r.length]; exact hn, h3 σ _ _ _ st A4 ((((En.mono s1.onto).mono s2.onto).mono s3.onto).mono st.onto)⟩
        · cases hs
      · cases hs
    · cases hs
  · exact h3.elim
theorem snd_app (g : GdS X W C fs k) {o e : T} {p q : Expr} {x : Str} {ap pos pos2 : Pos} (h : chk1 C (.app o e) (.Expr (.Call (.Attribute p x ap) [q] [] pos) pos2) = true) : PS X (.Expr (.Call (.Attribute p x ap) [q] [] pos) pos2) (tSt X W (evS fs (.app o e))) := by
  simp only [chk1, Bool.and_eq_true, decide_eq_true_eq] at h
  obtain ⟨⟨⟨⟨⟨h1, h2⟩, h3⟩, h4⟩, h5⟩, h6⟩ := h
  subst h1
  refine PS.imp (ps_expr (pe_bm PySem.F.plainAttrs_list PySem.F.slot_list_append PySem.F.type_list_append mt_append ((sndAll o X W C k g.toGdE).1 _ h5).v (pa_cons ((sndAll e X W C k g.toGdE).1 _ h6).v pa_nil (star_cons h3)) (base_plain h2) (by rw [star_cons h3]; rfl) h4 (star_cons h3) rfl) rfl) ?_
  rintro D σ H ⟨rho, F, env, m, A, En, h⟩
  simp only [evS] at h
  refine ⟨rho, F, env, m, A, En, RdS.ahead En h fun d m1 v r1 F1 H1 s1 A1 q1 h1 => ?_⟩
  split at h1
  · rename_i j
    split at h1
    · rename_i hl
      unfold isLst at hl
      split at hl
      · rename_i ds hm
        cases q1 with
        | ref hi =>
          obtain ⟨_, vs0, h00, _⟩ := A1.own _ _ _ hi hm
          refine ⟨.inl ⟨rfl, _, SqL.of h00⟩, r1, F1, env, m1, A1, En.mono s1.onto, RdS.ahead (En.mono s1.onto) h1 fun f m2 u r2 F2 H2 s2 A2 q2 h2 => ?_⟩
          split at h2
          · rename_i m4 ha
            unfold appD at ha
            split at ha
            · split at ha
              · rename_i ds2 hm2 hlen
                cases ha
                have hi2 := s2.ix hi
                obtain ⟨nF, vs, h0, r⟩ := A2.own _ _ _ hi2 hm2
                obtain ⟨st, A4⟩ := A2.write (o := .lst (vs ++ [u])) (y := .lst (ds2 ++ [f])) hi2 hm2 nF ⟨_, h0⟩ ⟨nF, _, upd_same, r.append (.cons q2 .nil)⟩
                exact ⟨_, vs, u, rfl, rfl, h0, by rw [r.length]; exact hlen, h2 σ _ _ _ st A4 (((En.mono s1.onto).mono s2.onto).mono st.onto)⟩
              · cases ha
            · cases ha
          · exact h2.elim
      · cases hl
    · exact h1.elim
  · exact h1.elim
/-- a block: the induction's word -/
structure SndB (X : Cx) (W : WX) (C : Ck) (fs : List Sem) (s : S) : Prop where
  one : ∀ st, chk1 C s st = true → PS X st (tSt X W (evS fs s))
  blk : ∀ sts, chkB C s sts = true → PSs X sts (tSt X W (evS fs s))
theorem RdS.cons {K : PySem.W.Frag} {mg : Str → Option Value} {rho : List Addr} {F H : Hp} {D : Ends} {r : RS} {nx2 : L2.St → Hp → Prop} {q : RS} {f : Env → M → RS} (hq : q = match r with
    | .nx e m => f e m
    | x => x) (h : RdS K mg W rho F H D q) (hn : ∀ env m, r = .nx env m → ∀ σ rho' F' H', Step rho F H rho' F' H' → Abs K mg rho' F' H' m → RpEnv K mg rho' F' σ env → RdS K mg W rho' F' H' D (f env m) → nx2 σ H') : RdS K mg W rho F H { D with nx := nx2 } r := by
  subst hq
  cases r with
  | nx env m => exact fun σ r2 F2 H2 s A En => hn env m rfl σ r2 F2 H2 s A En (RdS.step (show RdS K mg W rho F H D (f env m) from h) s)
  | bk env m => exact h
  | ct env m => exact h
  | rt d m => exact h
  | ex c env m => exact h
  | no => exact h
theorem snd_for (g : GdS X W C fs k) {gg : G} {it : T} {b : S} {tg iter : Expr} {body : List Stmt} {pos : Pos} (hg : chkG C gg tg = true) (hi : chkI C it iter = true) (hs : noSet iter = true) (hb : PSs X body (tSt X W (evS fs b))) : PS X (.For tg iter body [] pos) (tSt X W (evS fs (.fr gg it b))) := by
  refine PS.imp (ps_for g.own g.calm (snd_iter g.toGdE (sndAll it) (fun a _ => sndAll a) (fun a b _ => ⟨sndAll a, sndAll b⟩) hi) (sndG g.toGdE.t gg hg) hb (folded_plain hs)) ?_
  rintro D σ H ⟨rho, F, env, m, A, En, h⟩
  simp only [evS] at h
  refine ⟨rho, F, env, m, A, En, ?_⟩
  cases ei : evE fs it env m with
  | no => rw [ei] at h; exact h
  | ex c m1 => rw [ei] at h; exact fun cls dx r1 F1 H1 s1 A1 q => h cls dx σ r1 F1 H1 s1 A1 (En.mono s1.onto) q
  | ok d m1 =>
    rw [ei] at h
    simp only [R.st] at h ⊢
    cases ev : viewI d m1 with
    | none => rw [ev] at h; exact h
    | some xs =>
      rw [ev] at h
      simp only at h ⊢
      intro J r1 F1 H1 s1 A1 wk
      generalize hstep : (fun x env m => match asgG gg x env with
        | some env2 => evS fs b env2 m
        | none => RS.no) = step at h
      refine ⟨fun i n σ' Hi => n = xs.length - i ∧ i ≤ xs.length ∧ ∃ ri Fi envi mi, Step r1 F1 H1 ri Fi Hi ∧ Abs X.K X.mg ri Fi Hi mi ∧ RpEnv X.K X.mg ri Fi σ' envi ∧ RdS X.K X.mg W r1 F1 H1 D (forGo step (xs.drop i) envi mi), ?_, ?_⟩
      · exact ⟨xs.length, by simp, Nat.zero_le _, r1, F1, env, m1, Step.refl, A1, En.mono s1.onto, RdS.step (by simpa using h) s1⟩
      · rintro i n σ' Hi ⟨rfl, hle, ri, Fi, envi, mi, st, Ai, Eni, hq⟩
        by_cases hlt : i < xs.length
        · right
          have ex : xs[i]? = some xs[i] := by simp [hlt]
          obtain ⟨hgo, hy⟩ := wk.go i xs[i] ri Fi Hi mi ex st.onto Ai
          refine ⟨hgo, fun σ2 H2 => i + 1 ≤ xs.length ∧ ∃ ri Fi envi mi, Step r1 F1 H1 ri Fi H2 ∧ Abs X.K X.mg ri Fi H2 mi ∧ RpEnv X.K X.mg ri Fi σ2 envi ∧ RdS X.K X.mg W r1 F1 H1 D (forGo step (xs.drop (i + 1)) envi mi), ?_, ?_⟩
          · rintro σ2 H2 ⟨a, b⟩
            exact ⟨xs.length - (i + 1), by omega, rfl, a, b⟩
          · intro v H2 hyl
            obtain ⟨F3, st3, A3, rv⟩ := hy v H2 hyl
            have dr : xs.drop i = xs[i] :: xs.drop (i + 1) := List.drop_eq_getElem_cons hlt
            rw [dr] at hq
            simp only [forGo] at hq
            refine ⟨ri, F3, envi, mi, xs[i], A3, Eni.mono st3.onto, rv, ?_⟩
            have e0 : step xs[i] envi mi = match asgG gg xs[i] envi with
              | some env2 => evS fs b env2 mi
              | none => RS.no := by rw [← hstep]
            cases ea : asgG gg xs[i] envi with
            | none =>
              rw [ea] at e0
              rw [e0] at hq
              exact hq
            | some env2 =>
              rw [ea] at e0
              simp only at e0
              rw [e0] at hq
              intro σ2 En2 _
              refine ⟨ri, F3, env2, mi, A3, En2, ?_⟩
              cases eb : evS fs b env2 mi with
              | no => rw [eb] at hq; exact hq
              | nx e2 m2 => rw [eb] at hq; exact fun σ3 r4 F4 H4 s4 A4 En4 => ⟨hlt, r4, F4, e2, m2, (st.trans st3).trans s4, A4, En4, hq⟩
              | ct e2 m2 => rw [eb] at hq; exact fun σ3 r4 F4 H4 s4 A4 En4 => ⟨hlt, r4, F4, e2, m2, (st.trans st3).trans s4, A4, En4, hq⟩
              | bk e2 m2 => rw [eb] at hq; exact fun σ3 r4 F4 H4 s4 A4 En4 => hq σ3 r4 F4 H4 ((st.trans st3).trans s4) A4 En4
              | rt d2 m2 => rw [eb] at hq; exact fun u r4 F4 H4 s4 A4 q4 => hq u r4 F4 H4 ((st.trans st3).trans s4) A4 q4
              | ex c e2 m2 => rw [eb] at hq; exact fun cls dx σ3 r4 F4 H4 s4 A4 En4 q4 => hq cls dx σ3 r4 F4 H4 ((st.trans st3).trans s4) A4 En4 q4
        · left
          have e : i = xs.length := by omega
          subst e
          refine ⟨wk.stop ri Fi Hi mi st.onto Ai, ?_⟩
          simp only [List.drop_length, forGo] at hq
          exact hq σ' ri Fi Hi st Ai Eni
theorem snd_while (g : GdS X W C fs k) {n : Nat} {c : T} {b : S} {p : Expr} {body : List Stmt} {pos : Pos} (hc : chk C c p = true) (hb : PSs X body (tSt X W (evS fs b))) : PS X (.While p body [] pos) (tSt X W (evS fs (.wh n c b))) := by
  refine PS.imp (ps_while g.own ((sndAll c X W C k g.toGdE).1 _ hc).t hb) ?_
  rintro D σ H ⟨rho, F, env, m, A, En, h⟩
  simp only [evS] at h
  refine ⟨fun n σ' Hi => ∃ ri Fi envi mi, Step rho F H ri Fi Hi ∧ Abs X.K X.mg ri Fi Hi mi ∧ RpEnv X.K X.mg ri Fi σ' envi ∧ RdS X.K X.mg W rho F H D (whGo (evT fs c) (evS fs b) n envi mi), ⟨n, rho, F, env, m, Step.refl, A, En, h⟩, ?_⟩
  rintro j σ' Hi ⟨ri, Fi, envi, mi, st, Ai, Eni, hq⟩
  refine ⟨ri, Fi, envi, mi, Ai, Eni, ?_⟩
  cases j with
  | zero => exact False.elim hq
  | succ j =>
    simp only [whGo] at hq
    cases ec : evT fs c envi mi with
    | no => rw [ec] at hq; exact hq
    | ex x m1 => rw [ec] at hq; exact fun cls dx r1 F1 H1 s1 A1 q => hq cls dx σ' r1 F1 H1 (st.trans s1) A1 (Eni.mono s1.onto) q
    | ok t m1 =>
      rw [ec] at hq
      simp only [R.st] at hq
      intro tv r1 F1 H1 s1 A1 et
      subst et
      cases tv with
      | false => exact iteF (hq σ' r1 F1 H1 (st.trans s1) A1 (Eni.mono s1.onto))
      | true =>
        refine iteT ⟨fun σ2 H2 => ∃ ri Fi envi mi, Step rho F H ri Fi H2 ∧ Abs X.K X.mg ri Fi H2 mi ∧ RpEnv X.K X.mg ri Fi σ2 envi ∧ RdS X.K X.mg W rho F H D (whGo (evT fs c) (evS fs b) j envi mi), fun σ2 H2 q => ⟨j, Nat.lt_succ_self j, q⟩, ?_⟩
        refine ⟨r1, F1, envi, m1, A1, Eni.mono s1.onto, ?_⟩
        simp only [if_true] at hq
        cases eb : evS fs b envi m1 with
        | no => rw [eb] at hq; exact hq
        | nx e2 m2 => rw [eb] at hq; exact fun σ3 r4 F4 H4 s4 A4 En4 => ⟨r4, F4, e2, m2, (st.trans s1).trans s4, A4, En4, hq⟩
        | ct e2 m2 => rw [eb] at hq; exact fun σ3 r4 F4 H4 s4 A4 En4 => ⟨r4, F4, e2, m2, (st.trans s1).trans s4, A4, En4, hq⟩
        | bk e2 m2 => rw [eb] at hq; exact fun σ3 r4 F4 H4 s4 A4 En4 => hq σ3 r4 F4 H4 ((st.trans s1).trans s4) A4 En4
        | rt d2 m2 => rw [eb] at hq; exact fun u r4 F4 H4 s4 A4 q4 => hq u r4 F4 H4 ((st.trans s1).trans s4) A4 q4
        | ex x e2 m2 => rw [eb] at hq; exact fun cls dx σ3 r4 F4 H4 s4 A4 En4 q4 => hq cls dx σ3 r4 F4 H4 ((st.trans s1).trans s4) A4 En4 q4
theorem set_same {α : Type} : ∀ {l : List α} {i : Nat} {x : α}, l[i]? = some x → l.set i x = l
  | [], _, _, h => by simp at h
  | a :: l, 0, x, h => by simp at h; subst h; rfl
  | a :: l, i + 1, x, h => by
    simp only [List.set_cons_succ]
    rw [set_same (by simpa using h)]
/-- an object of ours stands still from here on -/
theorem snd_frz {i : Nat} {r : S} {sts : List Stmt} (hr : PSs X sts (tSt X W (evS fs r))) : PSs X sts (tSt X W (evS fs (.cons (.frz i) r))) := by
  refine PSs.imp hr ?_
  rintro D σ H ⟨rho, F, env, m, A, En, h⟩
  simp only [evS] at h
  cases ef : frzD i env m with
  | none => rw [ef] at h; exact h.elim
  | some em =>
    obtain ⟨env2, m2⟩ := em
    rw [ef] at h
    simp only at h
    unfold frzD at ef
    split at ef
    · rename_i kk he
      obtain ⟨v, hv, rv⟩ := En.2 i _ he
      cases rv with
      | ref hi =>
        have hil : i < env.length := (List.getElem?_eq_some_iff.mp he).1
        split at ef
        · rename_i ds hm
          cases ef
          obtain ⟨nF, vs, h0, rr⟩ := A.own _ _ _ hi hm
          obtain ⟨st, A2⟩ := A.freeze hi hm nF h0
          refine ⟨rho, _, _, _, A2, ?_, RdS.step h st⟩
          have := (En.mono st.onto).set (v := V.ref _) (d := .lst ds) (.lst upd_same (rr.mono st.onto)) i
          rwa [set_same hv] at this
        · rename_i ds hm
          cases ef
          obtain ⟨nF, q⟩ := A.own _ _ _ hi hm
          rcases q with ⟨vs, h0, rr⟩ | ⟨vs, h0, rr⟩
          · obtain ⟨st, A2⟩ := A.freeze hi hm nF h0
            refine ⟨rho, _, _, _, A2, ?_, RdS.step h st⟩
            have := (En.mono st.onto).set (v := V.ref _) (d := .dct ds) (.dK upd_same (rr.mono st.onto)) i
            rwa [set_same hv] at this
          · obtain ⟨st, A2⟩ := A.freeze hi hm nF h0
            refine ⟨rho, _, _, _, A2, ?_, RdS.step h st⟩
            have := (En.mono st.onto).set (v := V.ref _) (d := .dct ds) (.dT upd_same (rr.mono st.onto)) i
            rwa [set_same hv] at this
        · cases ef
    · cases ef
end
end HB
namespace HB
open PySem L2
section
variable {fs : List Sem}
theorem chk_rai {C : Ck} {n f : Str} {e : T} {st : Stmt} (h : chk1 C (.rai n f e) st = true) : ∃ p q pos pos2, st = .Raise (some (.Call (.Name n p) [q] [] pos)) none pos2 ∧ glB C.sc n = true ∧ plainB q = true ∧ chk C e q = true ∧ (n, f) ∈ C.xcs := by
  unfold chk1 at h
  split at h
  all_goals try contradiction
  all_goals try (simp at h; done)
  rename_i h1
  cases h1
  simp only [Bool.and_eq_true, decide_eq_true_eq, List.contains_iff_mem] at h
  obtain ⟨⟨⟨⟨rfl, h2⟩, h3⟩, h4⟩, h5⟩ := h
  exact ⟨_, _, _, _, rfl, h2, h3, h4, h5⟩
theorem chk_try1 {C : Ck} {b : S} {x : Str} {tbl : List (Str × Bool)} {i : Nat} {e : XT} {st : Stmt} (h : chk1 C (.try1 b x tbl i e) st = true) : ∃ body np nm p rp hp pos, st = .Try body [.ExceptHandler (some (.Name x np)) (some nm) [.Return (some p) rp] hp] [] [] pos ∧
    glB C.sc x = true ∧ C.N[i]? = some nm ∧ C.sc.names.lookup nm = some .local ∧ okN nm = true ∧ tbl ≠ [] ∧ (∀ r ∈ tbl, (r.1, x, r.2) ∈ C.xsub) ∧ chkX nm C.xcs e p = true ∧ chkB C b body = true := by
  unfold chk1 at h
  split at h
  all_goals try contradiction
  all_goals try (simp at h; done)
  rename_i h1
  cases h1
  simp only [Bool.and_eq_true, decide_eq_true_eq, List.all_eq_true, List.contains_iff_mem, Bool.not_eq_true', List.isEmpty_eq_false_iff] at h
  obtain ⟨⟨⟨⟨⟨⟨⟨⟨rfl, h2⟩, h3⟩, h4⟩, h5⟩, h9⟩, h6⟩, h7⟩, h8⟩ := h
  exact ⟨_, _, _, _, _, _, _, rfl, h2, h3, h4, h5, h9, h6, h7, h8⟩
theorem snd_rai {n f : Str} {e : T} {X : Cx} {W : WX} {C : Ck} {k : Nat} (g : GdS X W C fs k) {st : Stmt} (h : chk1 C (.rai n f e) st = true) : PS X st (tSt X W (evS fs (.rai n f e))) := by
  obtain ⟨p, q, pos, pos2, rfl, h1, h2, h3, h4⟩ := chk_rai h
  obtain ⟨vn, Cl, fI, T, hv, hd⟩ := g.xok _ _ h4
  obtain ⟨gl, _, _⟩ := gl_of g.toGdE h1
  refine PS.imp (ps_raise g.calm g.tk (pmk_x T hv g.sup g.room (pa_cons ((sndAll e X W C k g.toGdE).1 _ h3).v pa_nil (star_cons h2)) gl hd (star_cons h2) rfl)) ?_
  rintro D σ H ⟨rho, F, env, m, A, En, h⟩
  simp only [evS] at h
  refine ⟨rho, F, env, m, A, En, RdS.ahead En h fun d m1 v r1 F1 H1 s1 A1 q1 h1 => ⟨v, rfl, fun dx nd => ?_⟩⟩
  obtain ⟨st, A'⟩ := A1.fresh (o := .xd [(f, v)]) nd
  exact h1 _ _ σ _ _ _ st A' ((En.mono s1.onto).mono st.onto) (.own T.gC upd_same (.cons (q1.mono st.onto) .nil))
theorem lookup_mem {α β : Type} [BEq α] [LawfulBEq α] {a : α} {b : β} : ∀ {l : List (α × β)}, l.lookup a = some b → (a, b) ∈ l
  | [], h => by cases h
  | (x, y) :: l, h => by
    simp only [List.lookup] at h
    split at h
    · rename_i e
      have := eq_of_beq e
      subst this; cases h
      exact List.mem_cons_self
    · exact List.mem_cons_of_mem _ (lookup_mem h)
theorem evX_noex : ∀ (e : XT) (c : Exc), (∀ m c' m', evX c e m ≠ .ex c' m') ∧ (∀ m c' m', evXA c e m ≠ .ex c' m') := by
  have bnd : ∀ {α β : Type} {r : R α} {k : α → M → R β} {c' : Exc} {m' : M}, (∀ c m, r ≠ .ex c m) → (∀ a m c m', k a m ≠ .ex c m') → r.bind k ≠ .ex c' m' := by
    intro α β r k c' m' h1 h2
    cases r with
    | ok a m => exact h2 a m c' m'
    | ex c m => exact absurd rfl (h1 c m)
    | no => exact nofun
  intro e c
  induction e with
  | fld ns f =>
    refine ⟨fun m c' m' => ?_, fun m c' m' => by simp [evXA]⟩
    simp only [evX]
    split
    · split <;> exact nofun
    · exact nofun
  | non => exact ⟨fun m c' m' => by simp [evX], fun m c' m' => by simp [evXA]⟩
  | bl b => exact ⟨fun m c' m' => by simp [evX], fun m c' m' => by simp [evXA]⟩
  | int b => exact ⟨fun m c' m' => by simp [evX], fun m c' m' => by simp [evXA]⟩
  | str b => exact ⟨fun m c' m' => by simp [evX], fun m c' m' => by simp [evXA]⟩
  | tup es ih =>
    refine ⟨fun m c' m' => ?_, fun m c' m' => by simp [evXA]⟩
    simp only [evX]
    exact bnd (ih.2 m) fun a m c m' => by split <;> exact nofun
  | lst es ih =>
    refine ⟨fun m c' m' => ?_, fun m c' m' => by simp [evXA]⟩
    simp only [evX]
    exact bnd (ih.2 m) fun a m c m' => by split <;> exact nofun
  | nil => exact ⟨fun m c' m' => by simp [evX], fun m c' m' => by simp [evXA]⟩
  | cons x es i1 i2 =>
    refine ⟨fun m c' m' => by simp [evX], fun m c' m' => ?_⟩
    simp only [evXA]
    exact bnd (i1.1 m) fun a m c m' => bnd (i2.2 m) fun a m c m' => nofun
  | add x y i1 i2 =>
    refine ⟨fun m c' m' => ?_, fun m c' m' => by simp [evXA]⟩
    simp only [evX]
    exact bnd (i1.1 m) fun a m c m' => bnd (i2.1 m) fun b m c m' => bop_noex (o := .add)
theorem snd_try1 {b : S} {x : Str} {tbl : List (Str × Bool)} {i : Nat} {e : XT} {X : Cx} {W : WX} {C : Ck} {k : Nat} (ib : ∀ {X : Cx} {W : WX} {C : Ck} {k : Nat}, GdS X W C fs k → SndB X W C fs b) (g : GdS X W C fs k) {st : Stmt} (h : chk1 C (.try1 b x tbl i e) st = true) : PS X st (tSt X W (evS fs (.try1 b x tbl i e))) := by
  obtain ⟨body, np, nm, p, rp, hp, pos, rfl, h1, h2, h3, h4, ht, h5, h6, h7⟩ := chk_try1 h
  obtain ⟨gl, gd, _⟩ := gl_of g.toGdE h1
  obtain ⟨o1, o2, o3⟩ := okN_of h4
  have hl : X.env.kindOf nm = some .local := by
    show X.env.scope.names.lookup nm = _
    rw [g.sc]; exact h3
  obtain ⟨r0, hr0⟩ : ∃ r0, r0 ∈ tbl := List.exists_mem_of_ne_nil _ ht
  obtain ⟨_, Cx', _, hx, _⟩ := g.xsb _ _ _ (h5 _ hr0)
  refine PS.imp (ps_try_as (i := i) (c := .ref Cx') (tb := fun W => tSt X W (evS fs b)) (ts := fun a cls d => fun D σ H => tX X i a cls d (fun c m => evX c e m) σ H D.rt) (Wout := W) g.stk g.frm g.nd (by rw [g.N]; exact h2) hl ⟨gl, gd, .inl hx⟩ g.tk ?_ ?_) ?_
  · intro W' pn xe tk own
    have g' : GdS (X.tr pn xe) W' C fs k := { g with tk := tk, own := own }
    exact (ib g').blk _ h7
  · intro a oe cls d pn hz hf
    exact pss_one (ps_ret ((sndX (X := X) (i := i) (n := nm) (xcs := C.xcs) (a := a) (oe := oe) (cls := cls) (d := d) (pn := pn) (by rw [g.N]; exact h2) (.inl hl) o1 o2 g.xok hz hf e).1 _ h6))
  · rintro D σ H ⟨rho, F, env, m, A, En, h⟩
    refine ⟨rho, F, env, m, A, En, ?_⟩
    simp only [evS] at h
    cases ev : evS fs b env m with
    | nx e2 m2 => rw [ev] at h; exact h
    | rt d2 m2 => rw [ev] at h; exact h
    | bk e2 m2 => rw [ev] at h; exact h
    | ct e2 m2 => rw [ev] at h; exact h
    | no => rw [ev] at h; exact h
    | ex c e2 m2 =>
      rw [ev] at h
      simp only at h
      intro cls dx σ2 r2 F2 H2 s2 A2 En2 rx
      cases lk : tbl.lookup c.name with
      | none => rw [lk] at h; exact h.elim
      | some yes =>
        rw [lk] at h
        obtain ⟨Ac, Bc, m1, m2', ex⟩ := g.xsb _ _ _ (h5 _ (lookup_mem lk))
        have eB : Bc = Cx' := by
          have := Option.some.inj (m2'.symm.trans hx)
          cases this; rfl
        have eA : cls = .ref Ac := by
          cases rx with
          | bare q => exact Option.some.inj (q.symm.trans m1)
          | own q _ _ => exact Option.some.inj (q.symm.trans m1)
        subst eB eA
        refine ⟨yes, ex, fun hy a na => ?_, fun hy => ?_⟩
        · subst hy
          simp only at h
          split at h
          · rename_i il
            have rd := h
            refine ⟨r2, F2, c, m2, A2, rx, ?_, ?_⟩
            · rw [List.getElem?_set_self (by rw [En2.1]; exact il)]
            · cases ee : evX c e m2 with
              | ok d3 m3 =>
                rw [ee] at h
                show RdE _ _ _ _ _ _ _ _ _ (evX c e m2)
                rw [ee]
                exact fun v r3 F3 H3 s3 A3 q3 => h v _ _ _ (s2.trans s3) A3 q3
              | ex c3 m3 => exact absurd ee ((evX_noex e c).1 _ _ _)
              | no => rw [ee] at h; exact h.elim
          · exact h.elim
        · subst hy
          exact h _ _ _ _ _ _ s2 A2 En2 rx
theorem sndS : ∀ (s : S) {X : Cx} {W : WX} {C : Ck} {k : Nat}, GdS X W C fs k → SndB X W C fs s := by
  intro s
  induction s with
  | nil =>
    intro X W C k g
    refine ⟨fun st h => by cases st <;> simp [chk1] at h, fun sts h => ?_⟩
    cases sts with
    | nil =>
      refine PSs.imp pss_nil ?_
      rintro D σ H ⟨rho, F, env, m, A, En, h⟩
      simp only [evS] at h
      exact h σ _ _ _ Step.refl A En
    | cons st sts => simp [chkB] at h
  | cons s r is ir =>
    intro X W C k g
    refine ⟨fun st h => by cases st <;> simp [chk1] at h, fun sts h => ?_⟩
    by_cases hz : ∃ i, s = .frz i
    · obtain ⟨i, rfl⟩ := hz
      simp only [chkB] at h
      exact snd_frz ((ir g).blk _ h)
    · cases sts with
      | nil => cases s <;> first | (simp [chkB] at h; done) | exact absurd ⟨_, rfl⟩ hz
      | cons st sts =>
        have h2 : chk1 C s st = true ∧ chkB C r sts = true := by
          cases s <;> first | exact absurd ⟨_, rfl⟩ hz | simpa only [chkB, Bool.and_eq_true] using h
        refine PSs.imp (pss_cons ((is g).one st h2.1) ((ir g).blk sts h2.2)) ?_
        rintro D σ H ⟨rho, F, env, m, A, En, h⟩
        simp only [evS] at h
        refine ⟨rho, F, env, m, A, En, RdS.cons (f := evS fs r) rfl h fun e2 m2 _ σ2 r2 F2 H2 s2 A2 En2 h2 => ⟨r2, F2, e2, m2, A2, En2, h2⟩⟩
  | asg gg e =>
    intro X W C k g
    refine ⟨fun st h => ?_, fun sts h => by cases sts <;> simp [chkB] at h⟩
    cases st with
    | Assign ts v pos =>
      match ts, h with
      | [tg], h =>
        simp only [chk1, Bool.and_eq_true] at h
        obtain ⟨⟨⟨h1, h2⟩, h3⟩, h4⟩ := h
        exact snd_asg g h1 h2 h3 h4
      | [], h => simp [chk1] at h
      | _ :: _ :: _, h => simp [chk1] at h
    | _ => simp [chk1] at h
  | par i j a b =>
    intro X W C k g
    refine ⟨fun st h => ?_, fun sts h => by cases sts <;> simp [chkB] at h⟩
    have h0 := h
    unfold chk1 at h
    split at h
    all_goals first
      | (rename_i heq; cases heq; done)
      | (rename_i heq; cases heq; exact snd_par g h0; done)
      | (cases h; done)
  | par3 i j l a b c =>
    intro X W C k g
    refine ⟨fun st h => ?_, fun sts h => by cases sts <;> simp [chkB] at h⟩
    have h0 := h
    unfold chk1 at h
    split at h
    all_goals first
      | (rename_i heq; cases heq; done)
      | (rename_i heq; cases heq; exact snd_par3 g h0; done)
      | (cases h; done)
  | setix o i e =>
    intro X W C k g
    refine ⟨fun st h => ?_, fun sts h => by cases sts <;> simp [chkB] at h⟩
    have h0 := h
    unfold chk1 at h
    split at h
    all_goals first
      | (rename_i heq; cases heq; done)
      | (rename_i heq; cases heq; exact snd_setix g h0; done)
      | (cases h; done)
  | app o e =>
    intro X W C k g
    refine ⟨fun st h => ?_, fun sts h => by cases sts <;> simp [chkB] at h⟩
    have h0 := h
    unfold chk1 at h
    split at h
    all_goals first
      | (rename_i heq; cases heq; done)
      | (rename_i heq; cases heq; exact snd_app g h0; done)
      | (cases h; done)
  | exp e =>
    intro X W C k g
    refine ⟨fun st h => ?_, fun sts h => by cases sts <;> simp [chkB] at h⟩
    have h0 := h
    unfold chk1 at h
    split at h
    all_goals first
      | (rename_i heq; cases heq; done)
      | (rename_i heq; cases heq; (simp only [Bool.and_eq_true] at h; refine PS.imp (ps_expr ((sndAll e X W C k g.toGdE).1 _ h.2).v (sw_plain h.1)) ?_; rintro D σ H ⟨rho, F, env, m, A, En, h⟩; simp only [evS] at h; exact ⟨rho, F, env, m, A, En, RdS.ahead En h fun d m1 v r1 F1 H1 s1 A1 q1 h1 => h1 σ _ _ _ Step.refl A1 (En.mono s1.onto)⟩); done)
      | (cases h; done)
  | ret e =>
    intro X W C k g
    refine ⟨fun st h => ?_, fun sts h => by cases sts <;> simp [chkB] at h⟩
    have h0 := h
    unfold chk1 at h
    split at h
    all_goals first
      | (rename_i heq; cases heq; done)
      | (rename_i heq; cases heq; (refine PS.imp (ps_ret ((sndAll e X W C k g.toGdE).1 _ h).v) ?_; rintro D σ H ⟨rho, F, env, m, A, En, h⟩; simp only [evS] at h; exact ⟨rho, F, env, m, A, En, RdS.ahead En h fun d m1 v r1 F1 H1 s1 A1 q1 h1 => h1 v _ _ _ Step.refl A1 q1⟩); done)
      | (cases h; done)
  | retN =>
    intro X W C k g
    refine ⟨fun st h => ?_, fun sts h => by cases sts <;> simp [chkB] at h⟩
    have h0 := h
    unfold chk1 at h
    split at h
    all_goals first
      | (rename_i heq; cases heq; done)
      | (rename_i heq; cases heq; (refine PS.imp ps_retN ?_; rintro D σ H ⟨rho, F, env, m, A, En, h⟩; simp only [evS] at h; exact h _ _ _ _ Step.refl A .non); done)
      | (cases h; done)
  | ife c a b ia ib =>
    intro X W C k g
    refine ⟨fun st h => ?_, fun sts h => by cases sts <;> simp [chkB] at h⟩
    have h0 := h
    unfold chk1 at h
    split at h
    all_goals first
      | (rename_i heq; cases heq; done)
      | (rename_i heq; cases heq; (simp only [Bool.and_eq_true] at h; refine PS.imp (ps_if ((sndAll c X W C k g.toGdE).1 _ h.1.1).t ((ia g).blk _ h.1.2) ((ib g).blk _ h.2)) ?_; rintro D σ H ⟨rho, F, env, m, A, En, h⟩; simp only [evS] at h; exact ⟨rho, F, env, m, A, En, RdS.ahead En h fun t m1 v r1 F1 H1 s1 A1 q1 h1 => by (subst q1; cases v <;> exact ⟨r1, F1, env, m1, A1, En.mono s1.onto, by simpa using h1⟩)⟩); done)
      | (cases h; done)
  | fr gg it b ib =>
    intro X W C k g
    refine ⟨fun st h => ?_, fun sts h => by cases sts <;> simp [chkB] at h⟩
    have h0 := h
    unfold chk1 at h
    split at h
    all_goals first
      | (rename_i heq; cases heq; done)
      | (rename_i heq; cases heq; (simp only [Bool.and_eq_true] at h; exact snd_for g h.1.1.1 h.1.1.2 h.1.2 ((ib g).blk _ h.2)); done)
      | (cases h; done)
  | wh n c b ib =>
    intro X W C k g
    refine ⟨fun st h => ?_, fun sts h => by cases sts <;> simp [chkB] at h⟩
    have h0 := h
    unfold chk1 at h
    split at h
    all_goals first
      | (rename_i heq; cases heq; done)
      | (rename_i heq; cases heq; (simp only [Bool.and_eq_true] at h; exact snd_while g h.1 ((ib g).blk _ h.2)); done)
      | (cases h; done)
  | pass =>
    intro X W C k g
    refine ⟨fun st h => ?_, fun sts h => by cases sts <;> simp [chkB] at h⟩
    have h0 := h
    unfold chk1 at h
    split at h
    all_goals first
      | (rename_i heq; cases heq; done)
      | (rename_i heq; cases heq; (refine PS.imp ps_pass ?_; rintro D σ H ⟨rho, F, env, m, A, En, h⟩; simp only [evS] at h; exact h σ _ _ _ Step.refl A En); done)
      | (cases h; done)
  | brk =>
    intro X W C k g
    refine ⟨fun st h => ?_, fun sts h => by cases sts <;> simp [chkB] at h⟩
    have h0 := h
    unfold chk1 at h
    split at h
    all_goals first
      | (rename_i heq; cases heq; done)
      | (rename_i heq; cases heq; (refine PS.imp ps_break ?_; rintro D σ H ⟨rho, F, env, m, A, En, h⟩; simp only [evS] at h; exact h σ _ _ _ Step.refl A En); done)
      | (cases h; done)
  | cont =>
    intro X W C k g
    refine ⟨fun st h => ?_, fun sts h => by cases sts <;> simp [chkB] at h⟩
    have h0 := h
    unfold chk1 at h
    split at h
    all_goals first
      | (rename_i heq; cases heq; done)
      | (rename_i heq; cases heq; (refine PS.imp ps_continue ?_; rintro D σ H ⟨rho, F, env, m, A, En, h⟩; simp only [evS] at h; exact h σ _ _ _ Step.refl A En); done)
      | (cases h; done)
  | rai n f e =>
    intro X W C k g
    exact ⟨fun st h => snd_rai g h, fun sts h => by cases sts <;> simp [chkB] at h⟩
  | try1 b x tbl i e ib =>
    intro X W C k g
    exact ⟨fun st h => snd_try1 ib g h, fun sts h => by cases sts <;> simp [chkB] at h⟩
  | frz i =>
    intro X W C k g
    exact ⟨fun st h => by cases st <;> simp [chk1] at h, fun sts h => by cases sts <;> simp [chkB] at h⟩
end
/-! ### a def of the text -/
/-- what a body comes to -/
def runB (fs : List Sem) (n : Nat) (b : S) : Sem := fun ds m => match evS fs b (ds.map some ++ List.replicate (n - ds.length) none) m with
  | .nx _ m => .ok .non m
  | .rt d m => .ok d m
  | .ex c _ m => .ex c m
  | _ => .no
end HB
namespace HB
open PySem L2
/-- the world of a law: what its top has left -/
structure Wld (K : PySem.W.Frag) (mg : Str → Option Value) (base : Heap) : Prop where
  bs : ∃ o, base.get? sysModules = some o
  nob : ∀ x ∈ bltAll, mg x = none
  sup : mg "super" = none
section
variable {P : Program} {w : World} {K : PySem.W.Frag} {mg : Str → Option Value} {base : Heap}
theorem rp_start {rho : List Addr} {F : Hp} {vs : List V} {ds : List D} {n : Nat} (r : RpL K mg rho F vs ds) : RpEnv K mg rho F (vs.map some ++ List.replicate (n - vs.length) none) (ds.map some ++ List.replicate (n - ds.length) none) := by
  refine ⟨by simp [r.length], fun i d h => ?_⟩
  by_cases hi : i < ds.length
  · rw [List.getElem?_append_left (by simpa using hi), List.getElem?_map] at h
    cases e : ds[i]? with
    | none => rw [e] at h; cases h
    | some d' =>
      rw [e] at h
      cases h
      obtain ⟨v, hv, rv⟩ := r.get e
      refine ⟨v, ?_, rv⟩
      rw [List.getElem?_append_left (by simpa [r.length] using hi), List.getElem?_map, hv]
      rfl
  · rw [List.getElem?_append_right (by simpa using hi), List.getElem?_replicate] at h
    split at h <;> cases h
theorem def_ok {x qual : Str} {st : Stmt} {f : Addr} {fd : FuncData} {N ps : List Str} {k : Nat} {fns : List (Str × Nat)} {fs : List Sem} {gints : List (Str × Int)} {xcs : List (Str × Str)} {xsub : List (Str × Str × Bool)} {b : S} (Wd : Wld K mg base) (Fn : Fun K x qual st f fd) (Sc : FnScope N ps (defScope st)) (hc : chkB ⟨N, defScope st, none, fns, gints, xcs, xsub⟩ b (defBody st) = true)
    (hl : fns.length ≤ fs.length) (hf : ∀ (j : Nat) y n sem, fns[j]? = some (y, n) → fs[j]? = some sem → Callee P w K mg base k y n sem) (hi : ∀ y i, (y, i) ∈ gints → ∃ t, mg y = some (.int i t)) (hx : ∀ x f, (x, f) ∈ xcs → XOk P w K mg x f) (hs : ∀ r x b, (r, x, b) ∈ xsub → ∃ A B, mg r = some (.ref A) ∧ mg x = some (.ref B) ∧ PySem.W.exmOne K (.ref A) (.ref B) = some b) :
    FnG P w K mg base (k + 1) f fd ps (spD K mg ps.length (runB fs N.length b)) := by
  refine fnG_of Fn Sc fun cdv B fr s H vs Q E room gd hlen want => ?_
  have g : GdS (cxOf (L2.CX P w) P w K mg base N qual (defScope st) f cdv B fr s H E) (fun cls d _ H => E cls d H) ⟨N, defScope st, none, fns, gints, xcs, xsub⟩ fs k :=
    { N := rfl, sc := rfl, fn := fun _ _ => rfl, nd := Sc.nd, calm := rfl, room := room, gd := gd, tk := takes_of rfl rfl rfl rfl, fl := hl, fok := hf, gi := hi, bs := Wd.bs, nob := Wd.nob, own := passes_of rfl, stk := rfl, frm := rfl, kind := Sc.kind, rw0 := rfl, xok := hx, xsb := hs, sup := Wd.sup }
  refine ⟨_, (sndS b g).blk _ hc, ?_⟩
  obtain ⟨_, rho, F, ds, m, A, r, h⟩ := want
  refine ⟨rho, F, ds.map some ++ List.replicate (N.length - ds.length) none, m, A, rp_start r, ?_⟩
  unfold runB at h
  cases e : evS fs b (ds.map some ++ List.replicate (N.length - ds.length) none) m with
  | no => rw [e] at h; exact h
  | nx env m2 => rw [e] at h; exact fun σ r2 F2 H2 s2 A2 _ => h _ r2 F2 H2 s2 A2 .non
  | rt d m2 => rw [e] at h; exact h
  | bk env m2 => rw [e] at h; exact h.elim
  | ct env m2 => rw [e] at h; exact h.elim
  | ex c env m2 => rw [e] at h; exact fun cls dx σ r2 F2 H2 s2 A2 _ q => h cls dx r2 F2 H2 s2 A2 q
theorem callee_of {x qual : Str} {st : Stmt} {f : Addr} {fd : FuncData} {N ps : List Str} {k : Nat} {fns : List (Str × Nat)} {fs : List Sem} {gints : List (Str × Int)} {xcs : List (Str × Str)} {xsub : List (Str × Str × Bool)} {b : S} (Wd : Wld K mg base) (Fn : Fun K x qual st f fd) (Sc : FnScope N ps (defScope st)) (hc : chkB ⟨N, defScope st, none, fns, gints, xcs, xsub⟩ b (defBody st) = true)
    (hm : mg x = some (.ref f)) (hb : Binds K fd ps [])
    (hl : fns.length ≤ fs.length) (hf : ∀ (j : Nat) y n sem, fns[j]? = some (y, n) → fs[j]? = some sem → Callee P w K mg base k y n sem) (hi : ∀ y i, (y, i) ∈ gints → ∃ t, mg y = some (.int i t)) (hx : ∀ x f, (x, f) ∈ xcs → XOk P w K mg x f) (hs : ∀ r x b, (r, x, b) ∈ xsub → ∃ A B, mg r = some (.ref A) ∧ mg x = some (.ref B) ∧ PySem.W.exmOne K (.ref A) (.ref B) = some b) : Callee P w K mg base (k + 1) x ps.length (runB fs N.length b) :=
  ⟨f, fd, ps, hm, Fn.kp, hb, rfl, def_ok Wd Fn Sc hc hl hf hi hx hs⟩
theorem Callee.mono {j k : Nat} {x : Str} {n : Nat} {sem : Sem} (h : Callee P w K mg base j x n sem) (hjk : j ≤ k) : Callee P w K mg base k x n sem := by
  obtain ⟨f, fd, ps, a, b, c, d, e⟩ := h
  exact ⟨f, fd, ps, a, b, c, d, e.mono hjk⟩
end
end HB
namespace HB
open PySem L2 PySem.Spec PyProof.Rows PySem.Calls
/-! ### the law's own call, by data -/
/-- the script alone -/
def scrH (a : Addr) (o : Obj) (ns : List Int) : Hp := fun b => if b = a then some (.frz o (.lst (ns.map V.int))) else none
theorem scrH_at {a : Addr} {o : Obj} {ns : List Int} : scrH a o ns a = some (.frz o (.lst (ns.map V.int))) := by unfold scrH; rw [if_pos rfl]
theorem scrH_ne {a b : Addr} {o : Obj} {ns : List Int} (h : b ≠ a) : scrH a o ns b = none := by unfold scrH; rw [if_neg h]
/-- nothing but the script may be tracked -/
structure Scr (K : PySem.W.Frag) (a : Addr) (o : Obj) (ns : List Int) (H : Hp) : Prop where
  kind : H = (fun _ => none) ∨ (H = scrH a o ns ∧ K.lookup a = none)
  seq : SqL K H a (ns.map V.int)
theorem Scr.other {K : PySem.W.Frag} {a b : Addr} {o : Obj} {ns : List Int} {H : Hp} (S : Scr K a o ns H) (h : b ≠ a) : H b = none := by
  rcases S.kind with e | ⟨e, _⟩
  · rw [e]
  · rw [e]; exact scrH_ne h
section
variable {P : Program} {w : World} {K : PySem.W.Frag} {mg mb : Str → Option Value} {k : Nat} {fa a : Addr} {fd : FuncData} {x : Str} {sem : Sem} {s₁ : Shared} {us : List Value} {ns : List Int}
theorem law_core (KX : K.In s₁.heap) (gl : s₁.heap.Ns mainGlobals mg) (bl : s₁.heap.Ns builtinsNs mb) (bb : ∀ y : Str, y ≠ "__name__" → mb y = bootBuiltins y) (nl : s₁.heap.NoLimit) (ng : s₁.gens = #[])
    (at_ : s₁.heap.get? a = some { cls := .type "list", data := .seq us.toArray }) (room : Room k callerA)
    (G : ∀ base : Heap, K.In base → base.Ns mainGlobals mg → FnG P w K mg base k fa fd [x] (spD K mg 1 sem)) (bnd : ∀ (s : Shared) (u : Value), BindsTo s fd ⟨[u], []⟩ [(x, u)])
    (val : ∃ m, sem [.scr ns] [] = .ok (.bl true) m) {H : Hp} (S : Scr K a { cls := .type "list", data := .seq us.toArray } ns H) (hok : HOk P w H s₁.heap) :
    codeAny (model P w) callerA (.call (.ref fa) ⟨[.ref a], []⟩) (fun r s' => r = .ok (.ret (.bool true)) ∧ OldK s₁.heap s'.heap ∧ s'.os = s₁.os ∧ AllBare s'.gens) s₁ := by
  have dictNo : ∀ {b : Addr} {o : Obj} {es : Array DictEntry} {ep : Nat}, s₁.heap.get? b = some o → o.data = .dict es ep → b ≠ a := by
    intro b o es ep e d z
    subst z
    rw [at_] at e
    cases e
    exact nomatch (show Data.seq us.toArray _ = Data.dict es ep from d)
  have nsB : ∀ {b : Addr} {m : Str → Option Value}, s₁.heap.Ns b m → (hidT s₁.heap H).Ns b m := by
    rintro b m ⟨o, es, ep, e, d, r⟩
    exact ⟨o, es, ep, hidT_get e (S.other (dictNo e d)), d, r⟩
  have kB : K.In (hidT s₁.heap H) := by
    intro b o e
    refine hidT_get (KX b o e) ?_
    rcases S.kind with z | ⟨z, na⟩
    · rw [z]
    · refine S.other fun y => ?_
      rw [y, na] at e
      cases e
  obtain ⟨mc, n1, n2⟩ := nl
  have md : Mod K mg (hidT s₁.heap H) := { kin := kB, glob := nsB gl, blt := ⟨mb, nsB bl, bb⟩, nolimit := ⟨mc, nsB n1, n2⟩ }
  have en : Env0 P w K mg (hidT s₁.heap H) callerA [] s₁ H :=
    { frames := rfl, mod := md, bs := fun b o e => of_hidT e, bsz := Nat.le_of_eq (hidT_size _ _), funs := trivial, frf := fun b z => (List.not_mem_nil z).elim, hok := hok, bare := .of_eq ng }
  obtain ⟨m, hv⟩ := val
  have want : spD K mg 1 sem [.ref a] H (fun v _ => v = .bl true) (fun _ _ _ => False) := by
    refine ⟨rfl, [], H, [.scr ns], [], ⟨Same.refl H, rfl, List.nodup_nil, fun i b o e => by simp at e, fun b z => (List.not_mem_nil z).elim⟩, .cons (.scr S.seq) .nil, ?_⟩
    rw [hv]
    intro v r2 F2 H2 s2 A2 q
    cases q
    rfl
  refine codeAny_mono (G _ kB (nsB gl) callerA [] s₁ H ⟨[.ref a], []⟩ [.ref a] [.ref a] _ _ room rfl en (bnd s₁ (.ref a)) (.cons rfl .nil) rfl want) ?_
  rintro (e | fl) s' h
  · have h2 : L2.CX P w [] H s₁ (fun _ _ _ => False) e s' := h
    obtain ⟨_, _, _, _, _, _, _, _, _, _, _, _, no⟩ := h2
    exact no.elim
  · cases fl with
    | ret u =>
      obtain ⟨v, H', os, bare, un, hok', r', q⟩ := h
      have q2 : v = V.bl true := q
      subst q2
      have u2 : u = Value.bool true := r'
      subst u2
      refine ⟨rfl, OldK.of_keep fun b o e => ?_, os, bare⟩
      by_cases ba : b = a
      · rcases S.kind with z | ⟨z, _⟩
        · exact un.keep b o e (by rw [z]) (fun y => (List.not_mem_nil y).elim) (by simp)
        · subst ba
          have h0 : H b = some (.frz { cls := .type "list", data := .seq us.toArray } (.lst (ns.map V.int))) := by rw [z]; exact scrH_at
          obtain ⟨k1, _⟩ := hok b _ h0
          obtain ⟨k2, _⟩ := hok' b _ (un.frzs b _ _ h0)
          rw [e] at k1
          cases k1
          exact k2
      · exact un.keep b o e (S.other ba) (fun y => (List.not_mem_nil y).elim) (by simp)
    | next => exact h.elim
    | brk => exact h.elim
    | cont => exact h.elim
theorem law_data (KX : K.In s₁.heap) (gl : s₁.heap.Ns mainGlobals mg) (bl : s₁.heap.Ns builtinsNs mb) (bb : ∀ y : Str, y ≠ "__name__" → mb y = bootBuiltins y) (nl : s₁.heap.NoLimit) (ng : s₁.gens = #[])
    (at_ : s₁.heap.get? a = some { cls := .type "list", data := .seq us.toArray }) (hin : IntsAre us ns) (len : ns.length ≤ sizeLine) (room : Room k callerA)
    (G : ∀ base : Heap, K.In base → base.Ns mainGlobals mg → FnG P w K mg base k fa fd [x] (spD K mg 1 sem)) (bnd : ∀ (s : Shared) (u : Value), BindsTo s fd ⟨[u], []⟩ [(x, u)])
    (val : ∃ m, sem [.scr ns] [] = .ok (.bl true) m) :
    codeAny (model P w) callerA (.call (.ref fa) ⟨[.ref a], []⟩) (fun r s' => r = .ok (.ret (.bool true)) ∧ OldK s₁.heap s'.heap ∧ s'.os = s₁.os ∧ AllBare s'.gens) s₁ := by
  have rv := vals_ints hin
  cases hk : K.lookup a with
  | some o =>
    have e := KX a o hk
    rw [at_] at e
    cases e
    refine law_core (H := fun _ => none) KX gl bl bb nl ng at_ room G bnd val ⟨.inl rfl, ?_⟩ fun b u z => nomatch z
    exact .inr ⟨_, us.toArray, _, hk, rfl, rfl, rfl, by rw [List.size_toArray, hin.length]; exact len, by simpa using rv⟩
  | none =>
    refine law_core (H := scrH a { cls := .type "list", data := .seq us.toArray } ns) KX gl bl bb nl ng at_ room G bnd val ⟨.inr ⟨rfl, hk⟩, .inl (.inr ⟨_, scrH_at⟩)⟩ fun b u z => ?_
    by_cases ba : b = a
    · subst ba
      rw [scrH_at] at z
      cases z
      exact ⟨at_, by rw [List.length_map]; exact len, us, _, rv, at_⟩
    · rw [scrH_ne ba] at z
      cases z
/-- the law's walk, over a head by facts -/
theorem walk_data {l : PySem.W.OpenLaw} {n k : Nat} {q : Program} {loose : List Str} {XP : (Str → Option Value) → Heap → Prop} {YP : World → Heap → Prop} {d : DefRec} {x : Str}
    (hn : l.most = some n) (hn2 : n ≤ sizeLine) (hdf : d.params.defaults = []) (room : Room k callerA)
    (F : ∀ (w : World) (mg : Str → Option Value) (fa : Addr) (h : Heap), YP w h → h.Ns mainGlobals mg → mg d.name = some (.ref fa) →
      ∃ (K : PySem.W.Frag) (fd : FuncData) (sem : Sem), K.In h ∧ (∀ (s : Shared) (u : Value), BindsTo s fd ⟨[u], []⟩ [(x, u)]) ∧
        (∀ ns : List Int, ns.length ≤ n → (∀ z ∈ ns, Builtin.Int.intBits z ≤ 1048576) → ∃ m, sem [.scr ns] [] = .ok (.bl true) m) ∧
        ∀ base : Heap, K.In base → base.Ns mainGlobals mg → FnG l.prog w K mg base k fa fd [x] (spD K mg 1 sem)) :
    PySem.W.WalkO q loose XP YP l.row.toRowW d [] (fun f vs => PySem.call f vs) := by
  refine Att.attach_callB hn hdf ?_
  intro w s0 s1 mg mb fa o pm cd doc a us ns gr yy ho hd hcd hmg hobj hin hlen hbits hgen
  obtain ⟨K, fd, sem, kx, bnd, val, G⟩ := F w mg fa _ yy gr.T.g hmg
  exact law_data kx gr.T.g gr.T.b gr.T.builtins gr.T.nolimit hgen hobj hin (Nat.le_trans hlen hn2) room G bnd (val ns hlen hbits)
end
end HB
namespace HB
open PySem L2 PySem.Spec PyProof.Rows PySem.HBX
/-! ### what a head tells: names, defs, own errors -/
structure XD where
  x : Str
  f : Str
  v : Str
  qual : Str
  params : Arguments
  body : List Stmt
  scope : Scope
  bas : String
  newId : String
  initId : String
  bm : List Value
abbrev XW : Type := Option (Str × Str × Arguments × FuncBody × Scope × Addr × List Str × Addr)
def xW (K : PySem.W.Frag) (x : Str) : XW := match K.lookup (He.ma K (He.ga K x) "__init__") with
  | some ⟨.type "function", _, .func fd, _⟩ => some (fd.name, fd.qualname, fd.params, fd.body, fd.scope, fd.globals, fd.closure.map (·.1), fd.builtins)
  | _ => none
def XD.val (d : XD) : XW := some ("__init__", d.qual, d.params, .stmts d.body, d.scope, mainGlobals, ["__class__"], builtinsNs)
def codeB (K : PySem.W.Frag) (file : Str) (v : Value) : Bool := match v with
  | .ref a => (match K.lookup a with
    | some ⟨_, _, .fields vs, _⟩ => (match (vs[2]? : Option Value) with
      | some (.str y _) => file == y
      | _ => false)
    | _ => false)
  | _ => false
def cellB (K : PySem.W.Frag) (C : Addr) (cl : List (Str × Addr)) : Bool := match cl with
  | [(_, c)] => (match K.lookup c with
    | some ⟨_, _, .cell (some (.ref C')), _⟩ => C' == C
    | _ => false)
  | _ => false
def fnB (K : PySem.W.Frag) (file qual : Str) (C fI : Addr) : Bool := match K.lookup fI with
  | some ⟨.type "function", _, .func fd, _⟩ => (match fd.defaults with
    | .none => PySem.W.codeIn K fd.code qual && codeB K file fd.code && cellB K C fd.closure
    | _ => false)
  | _ => false
def XD.ok (file : Str) (K : PySem.W.Frag) (d : XD) : Bool :=
  let C := He.ga K d.x
  let fI := He.ma K C "__init__"
  He.eqO (PySem.W.nsIn K mainGlobals d.x) (some (some (.ref C))) && (PySem.W.keepIn K (.ref C) && (decide (PySem.W.subIn K (.ref C) (.type "BaseException") = some true) && (decide (PySem.W.typeIn K (.ref C) = some (.type "type")) && (PySem.W.hasDictIn K C &&
  (He.eqO (PySem.W.findIn K (.ref C) "__init__") (some (some (.ref fI))) && (He.eqO (PySem.W.findIn K (.ref C) "__setattr__") (some (some (.builtin "object.__setattr__"))) && (He.eqO (PySem.W.findIn K (.ref C) "__getattribute__") (some (some (.builtin "BaseException.__getattribute__"))) &&
  (He.eqO (PySem.W.findIn K (.ref C) "__getattr__") (some none) && (He.eqO (PySem.W.findIn K (.ref C) d.f) (some none) && (He.eqO (PySem.W.takerIn K C d.f) (some none) && (decide (PySem.W.mroIn K C (.ref C) = some true) && (He.eqO (PySem.W.nsIn K cStatics "thirdparty.any") (some none) &&
  (He.eqO (PySem.W.nsIn K mainGlobals "super") (some none) && (PySem.W.excInitIn K C d.bm d.newId && (PySem.W.excOver K C d.bm && (decide (PySem.W.subIn K (.ref C) (.type d.bas) = some true) && (He.eqO (PySem.W.ks_superIn K C C "__init__") (some (some (.builtin d.initId))) &&
  (fnB K file d.qual C fI && (PySem.W.clsIn K C).isSome))))))))))))))))))
/-- what the text of such a class must be -/
structure XD.Txt (P : Program) (w : World) (d : XD) : Prop where
  bs : XBase d.bas d.newId d.initId d.bm
  vn : vnOk d.v = true
  dbg : (d.x == ("__debug__" : Str)) = false
  top : (P.main.scope.names.lookup ("super" : Str)).isSome = false
  txt : ∃ (q : Nat → Pos) (p1 p2 : Pos) (msg : Expr), d.params = xParams p1 p2 d.v ∧ d.body = xBody q d.f d.v msg ∧ MsgOk P w msg ∧ ((q 2).endLine == (q 3).line) = true
  nms : d.scope.names = [(("self" : Str), NameKind.local), (d.v, .local), ("__class__", .free), ("super", .globalImplicit)]
  knd : d.scope.kind = .function ∧ d.scope.isCoroutine = false ∧ d.scope.isGenerator = false
  bnd : ∀ (kV doc pm ct : Value) (an : Option Addr) (cda cc : Addr) (s : Shared) (a b : Value), BindsTo s (PySem.W.ksFn "__init__" d.qual d.params d.body d.scope .none kV doc pm an (.ref cda) ct cc) ⟨[a, b], []⟩ [("self", a), (d.v, b)]
theorem xok_of {P : Program} {w : World} {K : PySem.W.Frag} {h : Heap} {mg : Str → Option Value} {d : XD} (X : K.In h) (G : h.Ns mainGlobals mg) (c : d.ok P.main.file K = true) (e : xW K d.x = d.val) (T : d.Txt P w) : XOk P w K mg d.x d.f := by
  simp only [XD.ok, Bool.and_eq_true, decide_eq_true_eq] at c
  obtain ⟨c1, c2, c3, c4, c5, c6, c7, c8, c9, c10, c11, c12, c13, c14, c15, c16, c17, c18, c19, c20⟩ := c
  refine ⟨d.v, He.ga K d.x, He.ma K (He.ga K d.x) "__init__", ?_, T.vn, T.dbg⟩
  obtain ⟨q, p1, p2, msg, t1, t2, t3, t4⟩ := T.txt
  obtain ⟨k1, k2, k3⟩ := T.knd
  refine { gC := PySem.W.mg_of X G (He.eqO_ok c1), kC := c2, exC := c3, tyC := c4, hdC := c5, iC := He.eqO_ok c6, sa := He.eqO_ok c7, ga := He.eqO_ok c8, gg := He.eqO_ok c9, noN := He.eqO_ok c10, tk := He.eqO_ok c11, sC := c12, tp := He.eqO_ok c13, sup := He.eqO_ok c14, top := T.top, bsx := ⟨d.bas, d.newId, d.initId, d.bm, T.bs, c15, c16, c17, He.eqO_ok c18⟩, fn := ?_ }
  unfold xW at e
  unfold fnB at c19
  cases lk : K.lookup (He.ma K (He.ga K d.x) "__init__") with
  | none => rw [lk] at c19; cases c19
  | some o =>
    obtain ⟨oc, od, dt, osl⟩ := o
    rw [lk] at c19 e
    split at c19
    · rename_i fd sl hh
      cases hh
      rename_i od2
      split at c19
      · rename_i hd
        simp only [Bool.and_eq_true] at c19
        obtain ⟨⟨d1, d2⟩, d3⟩ := c19
        simp only [XD.val, Option.some.injEq, Prod.mk.injEq] at e
        obtain ⟨e1, e2, e3, e4, e5, e6, e7, e8⟩ := e
        obtain ⟨n1, n2, n3, n4, n5, n6, n7, n8, n9, n10, n11, n12, n13, n14, n15⟩ := fd
        dsimp only at e1 e2 e3 e4 e5 e6 e7 e8 d1 d2 d3 hd
        subst e1 e2 e3 e4 e5 e6 e8 hd
        unfold codeB at d2
        split at d2
        · rename_i cda
          split at d2
          · rename_i ccl cdd vs ccs lc
            split at d2
            · rename_i y tf hy
              unfold cellB at d3
              split at d3
              · rename_i nm cc
                split at d3
                · rename_i cl cld C' csl lcc
                  have hC := eq_of_beq d3
                  subst hC
                  have hn : nm = "__class__" := by simpa using e7
                  subst hn
                  obtain ⟨cdD, hD⟩ := Option.isSome_iff_exists.mp c20
                  refine ⟨q, p1, p2, d.qual, d.scope, n9, n10, n11, n14, ccl, cl, od, n12, cdd, cld, cda, cc, osl, ccs, csl, vs, y, tf, msg, cdD, ?_, d1, lc, hy, d2, lcc, hD, T.nms, k1, k2, k3, t3, t4, ?_⟩
                  · rw [← t1, ← t2]
                  · intro s a b
                    rw [← t1, ← t2]
                    exact T.bnd _ _ _ _ _ _ _ s a b
                · cases d3
              · cases d3
            · cases d2
          · cases d2
        · cases d2
      · cases c19
    · cases c19
/-! ### the Hook -/
abbrev AlX : Type := Bool × List He.FnW × List XW
def obsX (file : Str) (fa : List He.Fa) (fn : List He.DefD) (xs : List XD) (K : PySem.W.Frag) : AlX :=
  ((fa.all fun f => f.ok K) && (fn.all fun d => d.ok K) && (xs.all fun d => d.ok file K) && (K.lookup sysModules).isSome, fn.map fun d => He.fnW K d.at_, xs.map fun d => xW K d.x)
def valX (fn : List He.DefD) (xs : List XD) : AlX := (true, fn.map He.DefD.val, xs.map XD.val)
def SaysX (file : Str) (fa : List He.Fa) (fn : List He.DefD) (xs : List XD) (K : PySem.W.Frag) : Prop := obsX file fa fn xs K = valX fn xs
def asX (g : Addr → Option Obj) (n : Nat) : List Addr := sysModules :: cStatics :: He.asD g n
def obsXG (file : Str) (n : Nat) (fa : List He.Fa) (fn : List He.DefD) (xs : List XD) (g : Addr → Option Obj) : AlX := obsX file fa fn xs (He.frG g (asX g n))
def hookX (file : Str) (n : Nat) (fa : List He.Fa) (fn : List He.DefD) (xs : List XD) : PySem.W.Hook where
  α := AlX
  obs := fun s => obsXG file n fa fn xs s.heap.get?
  val := fun _ => valX fn xs
  says := fun _ h => ∃ K : PySem.W.Frag, K.In h ∧ SaysX file fa fn xs K
  of := fun _ _ e => ⟨_, He.frG_in, e⟩
  keeps := fun _ _ _ ⟨K, hK, c⟩ k => ⟨K, PySem.W.Frag.In.keeps hK k, c⟩
theorem obsXG_eq {file : Str} {n : Nat} {fa : List He.Fa} {fn : List He.DefD} {xs : List XD} {g : Addr → Option Obj} {s : Shared} (h : ∀ a, g a = s.heap.get? a) : obsXG file n fa fn xs g = (hookX file n fa fn xs).obs s := by
  have e : g = s.heap.get? := funext h
  subst e
  rfl
section
variable {file : Str} {fa : List He.Fa} {fn : List He.DefD} {xs : List XD} {K : PySem.W.Frag}
theorem SaysX.all (c : SaysX file fa fn xs K) : ((fa.all fun f => f.ok K) = true ∧ (fn.all fun d => d.ok K) = true) ∧ (xs.all fun d => d.ok file K) = true ∧ (K.lookup sysModules).isSome = true := by
  have z : ((fa.all fun f => f.ok K) && (fn.all fun d => d.ok K) && (xs.all fun d => d.ok file K) && (K.lookup sysModules).isSome) = true := congrArg (fun z : AlX => z.1) c
  simp only [Bool.and_eq_true] at z
  exact ⟨z.1.1, z.1.2, z.2⟩
theorem SaysX.fact (c : SaysX file fa fn xs K) {f : He.Fa} (h : f ∈ fa) : f.ok K = true := List.all_eq_true.mp c.all.1.1 f h
theorem SaysX.def_ (c : SaysX file fa fn xs K) (i : Nat) {d : He.DefD} (h : fn[i]? = some d := by rfl) : ∃ fd, FunD K d.name d.qual d.params d.body d.scope (d.dvs K) (d.kws K) (He.fAd K d.at_) fd := by
  have e : fn.map (fun d => He.fnW K d.at_) = fn.map He.DefD.val := congrArg (fun z : AlX => z.2.1) c
  have e2 : (fn.map fun d => He.fnW K d.at_)[i]? = (fn.map He.DefD.val)[i]? := by rw [e]
  rw [List.getElem?_map, List.getElem?_map, h] at e2
  exact He.DefD.funD (Option.some.inj e2) (List.all_eq_true.mp c.all.1.2 d (List.mem_of_getElem? h))
theorem SaysX.cls {P : Program} {w : World} {h : Heap} {mg : Str → Option Value} (c : SaysX P.main.file fa fn xs K) (X : K.In h) (G : h.Ns mainGlobals mg) (i : Nat) {d : XD} (hi : xs[i]? = some d) (T : d.Txt P w) : XOk P w K mg d.x d.f := by
  have e : xs.map (fun d => xW K d.x) = xs.map XD.val := congrArg (fun z : AlX => z.2.2) c
  have e2 : (xs.map fun d => xW K d.x)[i]? = (xs.map XD.val)[i]? := by rw [e]
  rw [List.getElem?_map, List.getElem?_map, hi] at e2
  exact xok_of X G (List.all_eq_true.mp c.all.2.1 d (List.mem_of_getElem? hi)) (Option.some.inj e2) T
end
end HB
namespace HB
open PySem L2 PySem.Spec PyProof.Rows PySem.HBX
/-! ### a law's defs, one after the other -/
/-- what is known behind the top -/
structure Al (P : Program) (w : World) (fa : List He.Fa) (fn : List He.DefD) (xs : List XD) (K : PySem.W.Frag) (mg : Str → Option Value) (h base : Heap) (gints : List (Str × Int)) (xcs : List (Str × Str)) (xsub : List (Str × Str × Bool)) : Prop where
  kx : K.In h
  ns : h.Ns mainGlobals mg
  says : SaysX P.main.file fa fn xs K
  wld : Wld K mg base
  gi : ∀ y i, (y, i) ∈ gints → ∃ t, mg y = some (.int i t)
  hx : ∀ x f, (x, f) ∈ xcs → XOk P w K mg x f
  hs : ∀ r x b, (r, x, b) ∈ xsub → ∃ A B, mg r = some (.ref A) ∧ mg x = some (.ref B) ∧ PySem.W.exmOne K (.ref A) (.ref B) = some b
def clsBody : Stmt → List Stmt
  | .ClassDef (body := b) .. => b
  | _ => []
/-- the datum of a plain def -/
def dOf (x : Str) (st : Stmt) : He.DefD := { at_ := (x, none), name := x, qual := x, params := defArgs st, body := defBody st, scope := defScope st }
/-- the facts of the names -/
def faOf (gl : List Str) (fr : List Str) (zs : List (Str × Int)) (ex : List (Str × Str × Bool)) : List He.Fa := gl.map .glo ++ (fr.map .free ++ (zs.map (fun p => .int p.1 p.2) ++ ex.map fun p => .exm p.1 p.2.1 p.2.2))
theorem fun_of {K : PySem.W.Frag} {x : Str} {st : Stmt} {f : Addr} {fd : FuncData} (F : FunD K x x (defArgs st) (defBody st) (defScope st) [] [] f fd) : Fun K x x st f fd := by
  obtain ⟨oc, od, dV, kV, doc, pm, an, cdv, ct, osl, e, lk, hcd, hD, _⟩ := F.ex
  rcases hD with ⟨_, z⟩ | ⟨z, _⟩
  · subst z
    exact ⟨⟨oc, od, kV, doc, pm, an, cdv, ct, osl, e, lk, hcd⟩, F.kp⟩
  · exact absurd rfl z
abbrev Bnd (x : Str) (st : Stmt) (ps : List Str) : Prop := ∀ (kV doc pm : Value) (an : Option Addr) (cdv ct : Value) (us : List Value), us.length = ps.length → bindArgs (PySem.W.fnOf x x (defArgs st) (defBody st) (defScope st) .none kV doc pm an cdv ct) ⟨us, []⟩ = pure (ps.zip us)
section
variable {P : Program} {w : World} {fn : List He.DefD} {xs : List XD} {K : PySem.W.Frag} {mg : Str → Option Value} {h base : Heap} {gints : List (Str × Int)} {xcs : List (Str × Str)} {xsub : List (Str × Str × Bool)} {gl fr : List Str}
theorem al_of {ix : List (Str × Str × Bool)} (kx : K.In h) (ns : h.Ns mainGlobals mg) (says : SaysX P.main.file (faOf gl fr gints xsub) fn xs K) (kb : K.In base) (hb : ∀ x ∈ bltAll, x ∈ fr) (hsu : ("super" : Str) ∈ fr) (hx : ∀ x f, (x, f) ∈ xcs → XOk P w K mg x f) (hg : ∀ r x b, (r, x, b) ∈ xsub → r ∈ gl ∧ x ∈ gl) :
    Al P w (faOf gl fr gints xsub) fn xs K mg h base gints xcs xsub where
  kx := kx
  ns := ns
  says := says
  wld := by
    have free : ∀ x ∈ fr, mg x = none := fun x hx => He.free_ok kx ns (says.fact (f := .free x) (by simp [faOf, hx]))
    refine ⟨?_, fun x hx => free x (hb x hx), free _ hsu⟩
    obtain ⟨o, ho⟩ := Option.isSome_iff_exists.mp says.all.2.2
    exact ⟨o, kb _ _ ho⟩
  gi := fun y i hm => He.int_ok kx ns (says.fact (f := .int y i) (by simp only [faOf, List.mem_append, List.mem_map]; exact .inr (.inr (.inl ⟨_, hm, rfl⟩))))
  hx := hx
  hs := fun r x b hm => by
    obtain ⟨h1, h2⟩ := hg r x b hm
    refine ⟨_, _, He.glo_ok kx ns (says.fact (f := .glo r) (by simp [faOf, h1])), He.glo_ok kx ns (says.fact (f := .glo x) (by simp [faOf, h2])), ?_⟩
    have z := says.fact (f := .exm r x b) (by simp only [faOf, List.mem_append, List.mem_map]; exact .inr (.inr (.inr ⟨_, hm, rfl⟩)))
    exact of_decide_eq_true z
/-- all callees of a def -/
def Cals (P : Program) (w : World) (K : PySem.W.Frag) (mg : Str → Option Value) (base : Heap) (k : Nat) : List (Str × Nat) → List Sem → Prop
  | [], [] => True
  | (x, n) :: r, s :: t => (∃ j, j ≤ k ∧ Callee P w K mg base j x n s) ∧ Cals P w K mg base k r t
  | _, _ => False
theorem cals_len {k : Nat} : ∀ {fns : List (Str × Nat)} {fs : List Sem}, Cals P w K mg base k fns fs → fns.length ≤ fs.length
  | [], [], _ => Nat.le_refl _
  | [], _ :: _, c => c.elim
  | (_, _) :: _, [], c => c.elim
  | (_, _) :: r, _ :: t, c => Nat.succ_le_succ (cals_len c.2)
theorem cals_at {k : Nat} : ∀ {fns : List (Str × Nat)} {fs : List Sem}, Cals P w K mg base k fns fs → ∀ (j : Nat) y n sem, fns[j]? = some (y, n) → fs[j]? = some sem → Callee P w K mg base k y n sem
  | [], [], _, j, y, n, sem, e, _ => by simp at e
  | [], _ :: _, c, _, _, _, _, _, _ => c.elim
  | (_, _) :: _, [], c, _, _, _, _, _, _ => c.elim
  | (x, m) :: r, s :: t, c, 0, y, n, sem, e1, e2 => by
    simp only [List.getElem?_cons_zero, Option.some.injEq, Prod.mk.injEq] at e1 e2
    obtain ⟨rfl, rfl⟩ := e1
    subst e2
    obtain ⟨i, hi, ci⟩ := c.1
    exact ci.mono hi
  | (x, m) :: r, s :: t, c, j + 1, y, n, sem, e1, e2 => cals_at c.2 j y n sem (by simpa using e1) (by simpa using e2)
theorem callee_D (A : Al P w (faOf gl fr gints xsub) fn xs K mg h base gints xcs xsub) (i : Nat) {x : Str} {st : Stmt} {N ps : List Str} {k : Nat} {fns : List (Str × Nat)} {fs : List Sem} {b : S} (hd : fn[i]? = some (dOf x st)) (hg : x ∈ gl) (Sc : FnScope N ps (defScope st)) (hb : Bnd x st ps)
    (cs : Cals P w K mg base k fns fs) (hc : chkB ⟨N, defScope st, none, fns, gints, xcs, xsub⟩ b (defBody st) = true) : Callee P w K mg base (k + 1) x ps.length (runB fs N.length b) := by
  obtain ⟨fd, F⟩ := A.says.def_ i hd
  have hm := He.glo_ok A.kx A.ns (A.says.fact (f := .glo x) (by simp [faOf, hg]))
  exact callee_of A.wld (fun_of F) Sc hc hm (FunD.bindsN F hb) (cals_len cs) (cals_at cs) A.gi A.hx A.hs
/-- the law's own def -/
theorem law_D (A : Al P w (faOf gl fr gints xsub) fn xs K mg h base gints xcs xsub) {i : Nat} {x : Str} {st : Stmt} {N ps : List Str} {k : Nat} {fns : List (Str × Nat)} {fs : List Sem} {b : S} {fd : FuncData} (F : FunD K x x (defArgs st) (defBody st) (defScope st) [] [] (He.ga K x) fd) (Sc : FnScope N ps (defScope st))
    (cs : Cals P w K mg base k fns fs) (hc : chkB ⟨N, defScope st, none, fns, gints, xcs, xsub⟩ b (defBody st) = true) : FnG P w K mg base (k + 1) (He.ga K x) fd ps (spD K mg ps.length (runB fs N.length b)) :=
  def_ok A.wld (fun_of F) Sc hc (cals_len cs) (cals_at cs) A.gi A.hx A.hs
end
end HB
namespace HB
open PySem L2
/-! ### small data: their texts -/
def strB (x : Str) : Bool := decide (x.length ≤ 100) && x.cps.toList.all (fun c => decide (c < 0x110000))
def small : Nat → D → Bool
  | _, .non => true
  | _, .bl _ => true
  | _, .int i => decide (i.natAbs.log2 < 1920)
  | _, .str x => strB x
  | n + 1, .tup ds => decide (ds.length ≤ 4) && ds.all (small n)
  | n + 1, .lst ds => decide (ds.length ≤ 4) && ds.all (small n)
  | n + 1, .dct kvs => decide (kvs.length ≤ 4) && kvs.all fun p => small n p.1 && small n p.2
  | _, _ => false
def smB : Nat → Nat
  | 0 => 2000
  | n + 1 => 9 * smB n
theorem smB_ge : ∀ n, 2000 ≤ smB n
  | 0 => Nat.le_refl _
  | n + 1 => by have := smB_ge n; unfold smB; omega
theorem smB_mono (n : Nat) : smB n ≤ smB (n + 1) := by show smB n ≤ 9 * smB n; omega
/-- what a text costs -/
structure Shw (p : PyData) (k n : Nat) : Prop where
  s : p.showable = true
  d : p.depth ≤ k
  l : p.shown.length ≤ n
structure ShwL (ps : List PyData) (k n : Nat) : Prop where
  s : PyData.showableAll ps = true
  d : PyData.depthAll ps ≤ k
  l : piled (PyData.shownAll ps) ≤ n
theorem shwL_of {k B : Nat} : ∀ (ds : List D), (∀ d ∈ ds, ∃ p, pyR d = some p ∧ Shw p k B) → ∃ ps, pyRL ds = some ps ∧ ShwL ps k (ds.length * (B + 2))
  | [], _ => ⟨[], rfl, ⟨rfl, Nat.zero_le _, Nat.zero_le _⟩⟩
  | d :: ds, h => by
    obtain ⟨p, h1, h2⟩ := h d List.mem_cons_self
    obtain ⟨ps, h3, h4⟩ := shwL_of ds fun x hx => h x (List.mem_cons_of_mem _ hx)
    refine ⟨p :: ps, by simp [pyRL, h1, h3], ⟨by simp [PyData.showableAll, h2.s, h4.s], ?_, ?_⟩⟩
    · simp only [PyData.depthAll]; exact Nat.max_le.mpr ⟨h2.d, h4.d⟩
    · simp only [PyData.shownAll, piled_cons, List.length_cons]
      have := h2.l
      have := h4.l
      rw [Nat.succ_mul]; omega
structure ShwK (ps : List (PyData × PyData)) (k n : Nat) : Prop where
  s : PyData.showableKv ps = true
  d : PyData.depthKv ps ≤ k
  l : piled (PyData.shownKv ps) ≤ n
theorem shwK_of {k B : Nat} : ∀ (ds : List (D × D)), (∀ d ∈ ds, (∃ p, pyR d.1 = some p ∧ Shw p k B) ∧ ∃ p, pyR d.2 = some p ∧ Shw p k B) → ∃ ps, pyRK ds = some ps ∧ ShwK ps k (ds.length * (2 * B + 4))
  | [], _ => ⟨[], rfl, ⟨rfl, Nat.zero_le _, Nat.zero_le _⟩⟩
  | (a, b) :: ds, h => by
    obtain ⟨⟨p, h1, h2⟩, q, h5, h6⟩ := h (a, b) List.mem_cons_self
    obtain ⟨ps, h3, h4⟩ := shwK_of ds fun x hx => h x (List.mem_cons_of_mem _ hx)
    refine ⟨(p, q) :: ps, by simp only at h1 h5; simp [pyRK, h1, h3, h5], ⟨by simp [PyData.showableKv, h2.s, h6.s, h4.s], ?_, ?_⟩⟩
    · simp only [PyData.depthKv]; exact Nat.max_le.mpr ⟨Nat.max_le.mpr ⟨h2.d, h6.d⟩, h4.d⟩
    · simp only [PyData.shownKv, piled_cons, List.length_cons, strLen_append]
      have := h2.l
      have := h4.l
      have := h6.l
      have e : ((": " : String) : Str).length = 2 := rfl
      rw [Nat.succ_mul, e]; omega
theorem piled_sum : ∀ ts : List Str, (ts.map (·.length)).sum + 2 * ts.length = piled ts
  | [] => rfl
  | t :: ts => by
    have := piled_sum ts
    simp only [List.map_cons, List.sum_cons, List.length_cons, piled_cons]; omega
theorem listText_le (ts : List Str) : (listText ts).length ≤ piled ts + 3 := by
  have h := listText_len_le ts
  rw [← piled_sum]; exact h
theorem join_le (ts : List Str) : (Str.join ", " ts).length ≤ piled ts := by
  cases ts with
  | nil => exact Nat.zero_le _
  | cons t ts =>
    have := join_length_add (t :: ts) (by simp)
    omega
theorem tupleText_le (ts : List Str) : (tupleText ts).length ≤ piled ts + 3 := by
  unfold tupleText
  rw [strLen_append, strLen_append]
  have h := join_le ts
  have e1 : ((("(" : String) : Str)).length = 1 := rfl
  have e2 : ((if ts.length == 1 then ",)" else ")" : String) : Str).length ≤ 2 := by split <;> decide
  omega
theorem dictText_le (ts : List Str) : (dictText ts).length ≤ piled ts + 2 := by
  unfold dictText
  rw [strLen_append, strLen_append]
  have h := join_le ts
  have e1 : ((("{" : String) : Str)).length = 1 := rfl
  have e2 : ((("}" : String) : Str)).length = 1 := rfl
  omega
theorem small_shw : ∀ (n : Nat) (d : D), small n d = true → ∃ p, pyR d = some p ∧ Shw p n (smB n) := by
  have flat : ∀ n d, small n d = true → (match d with
      | .tup _ => False
      | .lst _ => False
      | .dct _ => False
      | _ => True) → ∃ p, pyR d = some p ∧ Shw p n (smB n) := by
    intro n d h hd
    have hb := smB_ge n
    cases d with
    | non => exact ⟨_, rfl, ⟨rfl, Nat.zero_le _, Nat.le_trans (by decide : 4 ≤ 2000) hb⟩⟩
    | bl b => exact ⟨_, rfl, ⟨rfl, Nat.zero_le _, Nat.le_trans (by cases b <;> decide) hb⟩⟩
    | int i =>
      have hi : i.natAbs.log2 < 1920 := by cases n <;> simpa [small] using h
      refine ⟨_, rfl, ⟨by simp [PyData.showable, hi], Nat.zero_le _, Nat.le_trans (Nat.le_trans (PyProof.Rows.int_text_len_1921 hi) (by decide)) hb⟩⟩
    | str x =>
      have hx : strB x = true := by cases n <;> simpa [small] using h
      simp only [strB, Bool.and_eq_true, decide_eq_true_eq, List.all_eq_true] at hx
      refine ⟨_, rfl, ⟨rfl, Nat.zero_le _, ?_⟩⟩
      have := StrLaws.reprText_len x (fun c hc => Nat.lt_of_lt_of_le (hx.2 c hc) (by decide))
      show (reprText x).length ≤ _
      omega
    | tup _ => exact hd.elim
    | lst _ => exact hd.elim
    | dct _ => exact hd.elim
    | obj _ _ => cases n <;> simp [small] at h
    | ref _ => cases n <;> simp [small] at h
    | scr _ => cases n <;> simp [small] at h
  intro n
  induction n with
  | zero =>
    intro d h
    refine flat 0 d h ?_
    cases d <;> first | trivial | (simp [small] at h)
  | succ n ih =>
    intro d h
    cases d with
    | tup ds =>
      simp only [small, Bool.and_eq_true, decide_eq_true_eq, List.all_eq_true] at h
      obtain ⟨ps, h1, h2⟩ := shwL_of ds fun d hd => ih d (h.2 d hd)
      refine ⟨.tuple ps, by simp [pyR, h1], ⟨by simpa [PyData.showable] using h2.s, by simpa [PyData.depth] using h2.d, ?_⟩⟩
      have e := tupleText_le (PyData.shownAll ps)
      have := h2.l
      have hb := smB_ge n
      have hm : ds.length * (smB n + 2) ≤ 4 * (smB n + 2) := Nat.mul_le_mul_right _ h.1
      show (tupleText (PyData.shownAll ps)).length ≤ 9 * smB n
      omega
    | lst ds =>
      simp only [small, Bool.and_eq_true, decide_eq_true_eq, List.all_eq_true] at h
      obtain ⟨ps, h1, h2⟩ := shwL_of ds fun d hd => ih d (h.2 d hd)
      refine ⟨.list ps, by simp [pyR, h1], ⟨by simpa [PyData.showable] using h2.s, by simpa [PyData.depth] using h2.d, ?_⟩⟩
      have e := listText_le (PyData.shownAll ps)
      have := h2.l
      have hb := smB_ge n
      have hm : ds.length * (smB n + 2) ≤ 4 * (smB n + 2) := Nat.mul_le_mul_right _ h.1
      show (listText (PyData.shownAll ps)).length ≤ 9 * smB n
      omega
    | dct ds =>
      simp only [small, Bool.and_eq_true, decide_eq_true_eq, List.all_eq_true] at h
      obtain ⟨ps, h1, h2⟩ := shwK_of ds fun d hd => ⟨ih _ (h.2 d hd).1, ih _ (h.2 d hd).2⟩
      refine ⟨.dict ps, by simp [pyR, h1], ⟨by simpa [PyData.showable] using h2.s, by simpa [PyData.depth] using h2.d, ?_⟩⟩
      have e := dictText_le (PyData.shownKv ps)
      have := h2.l
      have hb := smB_ge n
      have hm : ds.length * (2 * smB n + 4) ≤ 4 * (2 * smB n + 4) := Nat.mul_le_mul_right _ h.1
      show (dictText (PyData.shownKv ps)).length ≤ 9 * smB n
      omega
    | non => exact flat _ _ h trivial
    | bl b => exact flat _ _ h trivial
    | int i => exact flat _ _ h trivial
    | str x => exact flat _ _ h trivial
    | obj _ _ => exact flat _ _ h trivial
    | ref _ => exact flat _ _ h trivial
    | scr _ => exact flat _ _ h trivial
theorem repr_small {n : Nat} (hn : n ≤ 4) {d : D} (h : small n d = true) (m : M) : ∃ s, reprD [d] m = .ok (.str s) m := by
  obtain ⟨p, h1, h2⟩ := small_shw n d h
  have hl : smB n ≤ sizeLine := by
    rw [sizeLine_eq]
    match n, hn with
    | 0, _ => decide
    | 1, _ => decide
    | 2, _ => decide
    | 3, _ => decide
    | 4, _ => decide
  have e : pyRT d m = some p := by
    cases d <;> first | exact h1 | (cases n <;> simp [small] at h)
  refine ⟨p.shown, ?_⟩
  simp only [reprD, e]
  rw [if_pos ⟨h2.s, Nat.le_trans h2.d (by omega), Nat.le_trans h2.l hl⟩]
theorem norefL_all : ∀ {ds : List D}, (∀ d ∈ ds, noref d = true) → norefL ds = true
  | [], _ => rfl
  | d :: ds, h => by simp [norefL, h d List.mem_cons_self, norefL_all fun x hx => h x (List.mem_cons_of_mem _ hx)]
theorem norefK_all : ∀ {ds : List (D × D)}, (∀ d ∈ ds, noref d.1 = true ∧ noref d.2 = true) → norefK ds = true
  | [], _ => rfl
  | (a, b) :: ds, h => by
    have := h (a, b) List.mem_cons_self
    simp [norefK, this.1, this.2, norefK_all fun x hx => h x (List.mem_cons_of_mem _ hx)]
theorem small_noref : ∀ (n : Nat) (d : D), small n d = true → noref d = true := by
  intro n
  induction n with
  | zero => intro d h; cases d <;> first | rfl | (simp [small] at h)
  | succ n ih =>
    intro d h
    cases d with
    | tup ds =>
      simp only [small, Bool.and_eq_true, decide_eq_true_eq, List.all_eq_true] at h
      simp only [noref]; exact norefL_all fun d hd => ih d (h.2 d hd)
    | lst ds =>
      simp only [small, Bool.and_eq_true, decide_eq_true_eq, List.all_eq_true] at h
      simp only [noref]; exact norefL_all fun d hd => ih d (h.2 d hd)
    | dct ds =>
      simp only [small, Bool.and_eq_true, decide_eq_true_eq, List.all_eq_true] at h
      simp only [noref]; exact norefK_all fun d hd => ⟨ih _ (h.2 d hd).1, ih _ (h.2 d hd).2⟩
    | non => rfl
    | bl b => rfl
    | int i => rfl
    | str x => rfl
    | obj _ _ => simp [small] at h
    | ref _ => simp [small] at h
    | scr _ => simp [small] at h
theorem small_up : ∀ (n : Nat) (d : D), small n d = true → small (n + 1) d = true := by
  intro n
  induction n with
  | zero => intro d h; cases d <;> first | exact h | (simp [small] at h)
  | succ n ih =>
    intro d h
    cases d with
    | tup ds =>
      simp only [small, Bool.and_eq_true, decide_eq_true_eq, List.all_eq_true] at h ⊢
      exact ⟨h.1, fun d hd => ih d (h.2 d hd)⟩
    | lst ds =>
      simp only [small, Bool.and_eq_true, decide_eq_true_eq, List.all_eq_true] at h ⊢
      exact ⟨h.1, fun d hd => ih d (h.2 d hd)⟩
    | dct ds =>
      simp only [small, Bool.and_eq_true, decide_eq_true_eq, List.all_eq_true] at h ⊢
      exact ⟨h.1, fun d hd => ⟨ih _ (h.2 d hd).1, ih _ (h.2 d hd).2⟩⟩
    | non => rfl
    | bl b => rfl
    | int i => exact h
    | str x => exact h
    | obj _ _ => simp [small] at h
    | ref _ => simp [small] at h
    | scr _ => simp [small] at h
/-! ### isinstance of plain data -/
def tyP : D → String
  | .non => "NoneType" | .bl _ => "bool" | .int _ => "int" | .str _ => "str" | .tup _ => "tuple" | .lst _ => "list" | .dct _ => "dict" | _ => ""
def plainD : D → Bool
  | .obj _ _ => false | .ref _ => false | .scr _ => false | _ => true
theorem small_plain {n : Nat} {d : D} (h : small n d = true) : plainD d = true := by
  cases d <;> first | rfl | (cases n <;> simp [small] at h)
theorem isi_all : (["NoneType", "bool", "int", "str", "tuple", "list", "dict"].all fun t => clsNames.all fun c => decide (kitB t c = some (isiB t c))) = true := by decide +kernel
theorem isi_plain {d : D} {c : String} {m : M} (h : plainD d = true) (hc : c ∈ clsNames) : isiD d c m = .ok (.bl (isiB (tyP d) c)) m := by
  have key : ∀ t ∈ ["NoneType", "bool", "int", "str", "tuple", "list", "dict"], kitB t c = some (isiB t c) := by
    intro t ht
    have z := isi_all
    rw [List.all_eq_true] at z
    have z2 := z t ht
    rw [List.all_eq_true] at z2
    exact of_decide_eq_true (z2 c hc)
  unfold isiD
  have e : tyD d m = some (tyP d) := by cases d <;> first | rfl | (simp [plainD] at h)
  have e2 : tyP d ∈ ["NoneType", "bool", "int", "str", "tuple", "list", "dict"] := by cases d <;> first | (simp [tyP]; done) | (simp [plainD] at h)
  rw [e]
  simp only
  rw [key _ e2]
end HB
namespace HB
open PySem L2
/-! ### steps of the evaluator -/
theorem R.bind_ok {α β : Type} {a : α} {m : M} {k : α → M → R β} : (R.ok a m).bind k = k a m := rfl
theorem R.bind_ex {α β : Type} {c : Exc} {m : M} {k : α → M → R β} : (R.ex c m : R α).bind k = .ex c m := rfl
theorem R.st_ok {α : Type} {a : α} {m : M} {env : Env} {k : α → M → RS} : (R.ok a m).st env k = k a m := rfl
theorem R.st_ex {α : Type} {c : Exc} {m : M} {env : Env} {k : α → M → RS} : (R.ex c m : R α).st env k = .ex c env m := rfl
theorem truth_bl {b : Bool} {m : M} : truthB (.bl b) m = .ok b m := rfl
theorem truth_int {i : Int} {m : M} : truthB (.int i) m = .ok (i != 0) m := rfl
section
variable {fs : List Sem} {env : Env} {m m1 m2 m3 : M}
theorem ev_var {i : Nat} {d : D} (h : env[i]? = some (some d)) : evE fs (.var i) env m = .ok d m := by simp only [evE, h]
theorem ev_int {i : Int} : evE fs (.int i) env m = .ok (.int i) m := by simp only [evE]
theorem ev_bl {i : Bool} : evE fs (.bl i) env m = .ok (.bl i) m := by simp only [evE]
theorem ev_str {i : Str} : evE fs (.str i) env m = .ok (.str i) m := by simp only [evE]
theorem ev_non : evE fs .non env m = .ok .non m := by simp only [evE]
theorem ev_gint {x : Str} {i : Int} : evE fs (.gint x i) env m = .ok (.int i) m := by simp only [evE]
theorem ev_neg {a : T} {i : Int} (ha : evE fs a env m = .ok (.int i) m1) : evE fs (.neg a) env m = .ok (.int (-i)) m1 := by simp only [evE, ha, R.bind_ok]
theorem ev_bin {o : BOp} {a b : T} {d e : D} {r : R D} (ha : evE fs a env m = .ok d m1) (hb : evE fs b env m1 = .ok e m2) (h : bopD o d e m2 = r) : evE fs (.bin o a b) env m = r := by simp only [evE, ha, hb, R.bind_ok, h]
theorem ev_cmp {o : COp} {a b : T} {d e : D} {r : R D} (ha : evE fs a env m = .ok d m1) (hb : evE fs b env m1 = .ok e m2) (h : copD o d e m2 = r) : evE fs (.cmp o a b) env m = r := by simp only [evE, ha, hb, R.bind_ok, h]
theorem ev_chain {o p : COp} {a b c : T} {d e g : D} {x y : Bool} (ha : evE fs a env m = .ok d m1) (hb : evE fs b env m1 = .ok e m2) (h : copD o d e m2 = .ok (.bl x) m2) (hc : x = true → evE fs c env m2 = .ok g m3 ∧ copD p e g m3 = .ok (.bl y) m3 ∧ m3 = m2) :
    evE fs (.chain o p a b c) env m = .ok (.bl (x && y)) m2 := by
  simp only [evE, ha, hb, R.bind_ok, h]
  cases x with
  | true =>
    obtain ⟨h1, h2, rfl⟩ := hc rfl
    simp only [h1, R.bind_ok, h2, Bool.true_and]
  | false => simp only [Bool.false_and]
theorem ev_and {a b : T} {x y : Bool} (ha : evE fs a env m = .ok (.bl x) m1) (hb : x = true → evE fs b env m1 = .ok (.bl y) m1) : evE fs (.and a b) env m = .ok (.bl (x && y)) m1 := by
  simp only [evE, ha, R.bind_ok, truth_bl]
  cases x with
  | true => simp only [if_true, hb rfl, Bool.true_and]
  | false => simp
theorem ev_or {a b : T} {x y : Bool} (ha : evE fs a env m = .ok (.bl x) m1) (hb : x = false → evE fs b env m1 = .ok (.bl y) m1) : evE fs (.or a b) env m = .ok (.bl (x || y)) m1 := by
  simp only [evE, ha, R.bind_ok, truth_bl]
  cases x with
  | true => simp
  | false => simp [hb rfl]
theorem ev_not {a : T} {x : Bool} (ha : evE fs a env m = .ok (.bl x) m1) : evE fs (.not a) env m = .ok (.bl (!x)) m1 := by simp only [evE, ha, R.bind_ok, truth_bl]
theorem ev_ite {c a b : T} {x : Bool} {r : R D} (hc : evE fs c env m = .ok (.bl x) m1) (h1 : x = true → evE fs a env m1 = r) (h2 : x = false → evE fs b env m1 = r) : evE fs (.ite c a b) env m = r := by
  simp only [evE, hc, R.bind_ok, truth_bl]
  cases x with
  | true => simpa using h1 rfl
  | false => simpa using h2 rfl
theorem ev_isi {a : T} {c : String} {d : D} (ha : evE fs a env m = .ok d m1) (h : plainD d = true) (hc : c ∈ clsNames := by decide) : evE fs (.isi a c) env m = .ok (.bl (isiB (tyP d) c)) m1 := by simp only [evE, ha, R.bind_ok, isi_plain h hc]
theorem ev_blt {b : BF} {es : T} {ds : List D} {r : R D} (he : evA fs es env m = .ok ds m1) (h : bfD b ds m1 = r) : evE fs (.blt b es) env m = r := by simp only [evE, he, R.bind_ok, h]
theorem ev_nil : evA fs .nil env m = .ok [] m := by simp only [evA]
theorem ev_cons {a es : T} {d : D} {ds : List D} (ha : evE fs a env m = .ok d m1) (he : evA fs es env m1 = .ok ds m2) : evA fs (.cons a es) env m = .ok (d :: ds) m2 := by simp only [evA, ha, he, R.bind_ok]
theorem ev_ix {a b : T} {d e : D} {r : R D} (ha : evE fs a env m = .ok d m1) (hb : evE fs b env m1 = .ok e m2) (h : ixD d e m2 = r) : evE fs (.ix a b) env m = r := by simp only [evE, ha, hb, R.bind_ok, h]
theorem ev_tup {es : T} {ds : List D} (he : evA fs es env m = .ok ds m1) (h : ds.length ≤ 1000) : evE fs (.tup es) env m = .ok (.tup ds) m1 := by
  simp only [evE, he, R.bind_ok]
  rw [if_pos (by rw [sizeLine_eq]; omega)]
theorem ev_lst {es : T} {ds : List D} (he : evA fs es env m = .ok ds m1) (h : ds.length ≤ 1000) : evE fs (.lst es) env m = .ok (.lst ds) m1 := by
  simp only [evE, he, R.bind_ok]
  rw [if_pos (by rw [sizeLine_eq]; omega)]
theorem ev_tupB {es : T} {ds : List D} (he : evA fs es env m = .ok ds m1) (h : Nat.ble ds.length 1000 = true) : evE fs (.tup es) env m = .ok (.tup ds) m1 := ev_tup he (Nat.le_of_ble_eq_true h)
theorem ev_lstB {es : T} {ds : List D} (he : evA fs es env m = .ok ds m1) (h : Nat.ble ds.length 1000 = true) : evE fs (.lst es) env m = .ok (.lst ds) m1 := ev_lst he (Nat.le_of_ble_eq_true h)
theorem ev_dct0 : evE fs .dct0 env m = .ok (.dct []) m := by simp only [evE]
theorem ev_dctI {i j : Int} : evE fs (.dctI i j) env m = .ok (.dct [(.int i, .int j)]) m := by simp only [evE]
theorem ev_lstM {es : T} {ds : List D} (he : evA fs es env m = .ok ds m1) (h : ds.length ≤ 1000) : evE fs (.lstM es) env m = .ok (.ref m1.length) (m1 ++ [.lst ds]) := by
  simp only [evE, he, R.bind_ok]
  rw [if_pos (by rw [sizeLine_eq]; omega)]
theorem ev_call {j : Nat} {es : T} {ds : List D} {sem : Sem} {r : R D} (he : evA fs es env m = .ok ds m1) (hj : fs[j]? = some sem) (h : callD sem ds m1 = r) : evE fs (.call j es) env m = r := by simp only [evE, he, R.bind_ok, hj, h]
theorem ev_join {a b : T} {x : Str} {e : D} {r : R D} (ha : evE fs a env m = .ok (.str x) m1) (hb : evE fs b env m1 = .ok e m2) (h : joinD (.str x) e m2 = r) : evE fs (.join a b) env m = r := by simp only [evE, ha, hb, R.bind_ok, h]
theorem ev_rng1 {a : T} {j : Int} (ha : evE fs a env m = .ok (.int j) m1) (h0 : -(2 ^ 62) ≤ j) (h1 : j < 2 ^ 62) : evE fs (.rng1 a) env m = .ok (.lst ((List.range j.toNat).map fun (i : Nat) => D.int (i : Int))) m1 := by
  simp only [evE, ha, R.bind_ok, rngD]
  rw [if_pos ⟨h0, h1⟩]
theorem ev_slH {a hi : T} {d : D} {v : Int} {r : R D} (ha : evE fs a env m = .ok d m1) (hn : isNoP hi = false) (hh : evE fs hi env m1 = .ok (.int v) m2) (h : slD d none (some v) m2 = r) : evE fs (.sl a .noP hi) env m = r := by
  have e : isNoP .noP = true := rfl
  simp only [evE, ha, R.bind_ok, e, hn, Bool.false_eq_true, if_true, if_false, hh, partD, h]
theorem ev_slL {a lo : T} {d : D} {v : Int} {r : R D} (ha : evE fs a env m = .ok d m1) (hn : isNoP lo = false) (hh : evE fs lo env m1 = .ok (.int v) m2) (h : slD d (some v) none m2 = r) : evE fs (.sl a lo .noP) env m = r := by
  have e : isNoP .noP = true := rfl
  simp only [evE, ha, R.bind_ok, e, hn, Bool.false_eq_true, if_true, if_false, hh, partD, h]
theorem st_nil : evS fs .nil env m = .nx env m := by simp only [evS]
theorem st_ret {e : T} {r : S} {d : D} (h : evE fs e env m = .ok d m1) : evS fs (.cons (.ret e) r) env m = .rt d m1 := by simp only [evS, h, R.st_ok]
theorem st_asg {g : G} {e : T} {r : S} {d : D} {env2 : Env} (h : evE fs e env m = .ok d m1) (hg : asgG g d env = some env2) : evS fs (.cons (.asg g e) r) env m = evS fs r env2 m1 := by simp only [evS, h, R.st_ok, hg]
theorem st_asg1 {i : Nat} {e : T} {r : S} {d : D} (h : evE fs e env m = .ok d m1) : evS fs (.cons (.asg (.name i) e) r) env m = evS fs r (env.set i (some d)) m1 := st_asg h (by simp only [asgG])
theorem st_par {i j : Nat} {a b : T} {r : S} {d e : D} (ha : evE fs a env m = .ok d m1) (hb : evE fs b env m1 = .ok e m2) : evS fs (.cons (.par i j a b) r) env m = evS fs r ((env.set i (some d)).set j (some e)) m2 := by simp only [evS, ha, hb, R.st_ok]
theorem st_par3 {i j l : Nat} {a b c : T} {r : S} {d e f : D} (ha : evE fs a env m = .ok d m1) (hb : evE fs b env m1 = .ok e m2) (hc : evE fs c env m2 = .ok f m3) : evS fs (.cons (.par3 i j l a b c) r) env m = evS fs r (((env.set i (some d)).set j (some e)).set l (some f)) m3 := by
  simp only [evS, ha, hb, hc, R.st_ok]
/-- an if whose branches leave or go on -/
theorem st_ife {c : T} {a b r : S} {x : Bool} (hc : evE fs c env m = .ok (.bl x) m1) : evS fs (.cons (.ife c a b) r) env m = match (if x then evS fs a env m1 else evS fs b env m1) with
    | .nx e m => evS fs r e m
    | y => y := by
  first
    | (simp only [evS, evT, hc, R.bind_ok, truth_bl, R.st_ok]; done)
    | (simp only [evS, evT, hc, R.bind_ok, truth_bl, R.st_ok]; generalize (if x = true then evS fs a env m1 else evS fs b env m1) = q; cases q <;> rfl)
theorem st_ifT {c : T} {a b r : S} {x : Bool} {d : D} (hc : evE fs c env m = .ok (.bl x) m1) (hx : x = true) (ha : evS fs a env m1 = .rt d m2) : evS fs (.cons (.ife c a b) r) env m = .rt d m2 := by
  rw [st_ife hc, hx, if_pos rfl, ha]
theorem st_ifF {c : T} {a r : S} {x : Bool} (hc : evE fs c env m = .ok (.bl x) m1) (hx : x = false) : evS fs (.cons (.ife c a .nil) r) env m = evS fs r env m1 := by
  rw [st_ife hc, hx, if_neg (by simp), st_nil]
theorem st_rai {n f : Str} {e : T} {r : S} {d : D} (h : evE fs e env m = .ok d m1) : evS fs (.cons (.rai n f e) r) env m = .ex ⟨n, [(f, d)]⟩ env m1 := by simp only [evS, h, R.st_ok]
theorem st_exp {e : T} {r : S} {d : D} (h : evE fs e env m = .ok d m1) : evS fs (.cons (.exp e) r) env m = evS fs r env m1 := by simp only [evS, h, R.st_ok]
theorem st_expX {e : T} {r : S} {c : Exc} (h : evE fs e env m = .ex c m1) : evS fs (.cons (.exp e) r) env m = .ex c env m1 := by simp only [evS, h, R.st_ex]
theorem st_retX {e : T} {r : S} {c : Exc} (h : evE fs e env m = .ex c m1) : evS fs (.cons (.ret e) r) env m = .ex c env m1 := by simp only [evS, h, R.st_ex]
theorem st_ifX {c : T} {a b r : S} {x : Bool} {k : Exc} {env2 : Env} (hc : evE fs c env m = .ok (.bl x) m1) (hx : x = true) (ha : evS fs a env m1 = .ex k env2 m2) : evS fs (.cons (.ife c a b) r) env m = .ex k env2 m2 := by
  rw [st_ife hc, hx, if_pos rfl, ha]
theorem st_ifN {c : T} {a b r : S} {x : Bool} {env2 : Env} (hc : evE fs c env m = .ok (.bl x) m1) (hx : x = true) (ha : evS fs a env m1 = .nx env2 m2) : evS fs (.cons (.ife c a b) r) env m = evS fs r env2 m2 := by
  rw [st_ife hc, hx, if_pos rfl, ha]
theorem ev_consX {a es : T} {c : Exc} (ha : evE fs a env m = .ex c m1) : evA fs (.cons a es) env m = .ex c m1 := by simp only [evA, ha, R.bind_ex]
theorem ev_consX2 {a es : T} {d : D} {c : Exc} (ha : evE fs a env m = .ok d m1) (he : evA fs es env m1 = .ex c m2) : evA fs (.cons a es) env m = .ex c m2 := by simp only [evA, ha, he, R.bind_ok, R.bind_ex]
theorem ev_tupX {es : T} {c : Exc} (he : evA fs es env m = .ex c m1) : evE fs (.tup es) env m = .ex c m1 := by simp only [evE, he, R.bind_ex]
theorem st_setix {o i e : T} {r : S} {d k v : D} {m4 : M} (he : evE fs e env m = .ok v m1) (ho : evE fs o env m1 = .ok d m2) (hi : evE fs i env m2 = .ok k m3) (h : setixD d k v m3 = some m4) : evS fs (.cons (.setix o i e) r) env m = evS fs r env m4 := by
  simp only [evS, he, ho, hi, R.st_ok, h]
end
theorem op_fd {i j : Int} {m : M} (h : j ≠ 0) (hl : j.natAbs.log2 < 9000) : bopD .fdiv (.int i) (.int j) m = .ok (.int (i.fdiv j)) m := by simp only [bopD, fdivD]; rw [if_pos ⟨h, hl⟩]
theorem op_md {i j : Int} {m : M} (h : j ≠ 0) : bopD .mod (.int i) (.int j) m = .ok (.int (i.fmod j)) m := by simp only [bopD, modD]; rw [if_pos h]
theorem op_ml {i j : Int} {m : M} (h : i.natAbs.log2 + j.natAbs.log2 < 1000000) : bopD .mul (.int i) (.int j) m = .ok (.int (i * j)) m := by simp only [bopD, mulD]; rw [if_pos h]
theorem op_ad {i j : Int} {m : M} : bopD .add (.int i) (.int j) m = .ok (.int (i + j)) m := rfl
theorem op_sb {i j : Int} {m : M} : bopD .sub (.int i) (.int j) m = .ok (.int (i - j)) m := rfl
theorem op_eqI {i j : Int} {m : M} : copD .eq (.int i) (.int j) m = .ok (.bl (decide (i = j))) m := rfl
theorem op_neI {i j : Int} {m : M} : copD .ne (.int i) (.int j) m = .ok (.bl (!decide (i = j))) m := rfl
theorem op_eqS {i j : Str} {m : M} : copD .eq (.str i) (.str j) m = .ok (.bl (decide (i = j))) m := rfl
theorem op_neS {i j : Str} {m : M} : copD .ne (.str i) (.str j) m = .ok (.bl (!decide (i = j))) m := rfl
theorem op_eqB {i j : Bool} {m : M} : copD .eq (.bl i) (.bl j) m = .ok (.bl (decide (i = j))) m := rfl
theorem op_ltI {i j : Int} {m : M} : copD .lt (.int i) (.int j) m = .ok (.bl (decide (i < j))) m := rfl
theorem op_leI {i j : Int} {m : M} : copD .le (.int i) (.int j) m = .ok (.bl (decide (i ≤ j))) m := rfl
theorem op_gtI {i j : Int} {m : M} : copD .gt (.int i) (.int j) m = .ok (.bl (decide (j < i))) m := rfl
theorem op_geI {i j : Int} {m : M} : copD .ge (.int i) (.int j) m = .ok (.bl (decide (j ≤ i))) m := rfl
/-! ### comprehensions, loops -/
def lcSt (fs : List Sem) (own : List (Str × Nat)) (g : G) (c e : T) (env : Env) (x : D) (m : M) : R (Option D) := match asgG g x (wipeD env (own.map (·.2))) with
  | some env2 => (if isNoP c then R.ok true m else (evE fs c env2 m).bind truthB).bind fun t m => if t then (evE fs e env2 m).bind fun y m => .ok (some y) m else .ok none m
  | none => .no
theorem ev_lc {fs : List Sem} {env : Env} {m m1 m2 : M} {own : List (Str × Nat)} {g : G} {it c e : T} {d : D} {xs ys : List D} (hi : evE fs it env m = .ok d m1) (hv : viewI d m1 = some xs) (hl : xs.length ≤ 1000000) (h : lcGo (lcSt fs own g c e env) xs [] m1 = .ok ys m2) :
    evE fs (.lc own g it c e) env m = .ok (.lst ys) m2 := by
  rw [evE, hi, R.bind_ok, hv]
  dsimp only
  rw [if_pos (by rw [sizeLine_eq]; omega)]
  have e1 : (fun x m => match asgG g x (wipeD env (own.map (·.2))) with
          | some env2 => (if isNoP c then R.ok true m else (evE fs c env2 m).bind truthB).bind fun t m => if t then (evE fs e env2 m).bind fun y m => R.ok (some y) m else .ok none m
          | none => .no) = lcSt fs own g c e env := by
    funext x m
    unfold lcSt
    cases asgG g x (wipeD env (own.map (·.2))) <;> rfl
  have e2 : ∀ q, q = lcGo (lcSt fs own g c e env) xs [] m1 → (q.bind fun ys m => R.ok (D.lst ys) m) = R.ok (D.lst ys) m2 := by
    intro q hq
    rw [hq, h]; rfl
  exact e2 _ (congrArg (fun f => lcGo f xs [] m1) e1)
theorem lc_map {step : D → M → R (Option D)} {f : D → D} {m : M} : ∀ {xs acc : List D}, (∀ x ∈ xs, step x m = .ok (some (f x)) m) → lcGo step xs acc m = .ok (acc ++ xs.map f) m
  | [], acc, _ => by simp [lcGo]
  | x :: xs, acc, h => by
    simp only [lcGo, h x List.mem_cons_self]
    rw [lc_map fun y hy => h y (List.mem_cons_of_mem _ hy)]
    simp
theorem lc_filter {step : D → M → R (Option D)} {p : D → Bool} {m : M} : ∀ {xs acc : List D}, (∀ x ∈ xs, step x m = .ok (if p x then some x else none) m) → lcGo step xs acc m = .ok (acc ++ xs.filter p) m
  | [], acc, _ => by simp [lcGo]
  | x :: xs, acc, h => by
    have h1 := h x List.mem_cons_self
    simp only [lcGo]
    rw [h1]
    cases hp : p x with
    | true =>
      simp only [if_true]
      rw [lc_filter fun y hy => h y (List.mem_cons_of_mem _ hy)]
      simp [hp]
    | false =>
      simp only [Bool.false_eq_true, if_false]
      rw [lc_filter fun y hy => h y (List.mem_cons_of_mem _ hy)]
      simp [hp]
/-- a comprehension whose store goes on -/
theorem lc_inv {step : D → M → R (Option D)} (P : Nat → M → Prop) (Q : D → Prop) : ∀ {xs acc : List D} {m : M} {n : Nat}, P n m → (∀ x ∈ xs, ∀ k m, k < n + xs.length → P k m → ∃ y m2, step x m = .ok (some y) m2 ∧ P (k + 1) m2 ∧ Q y) → ∃ ys m2, lcGo step xs acc m = .ok (acc ++ ys) m2 ∧ P (n + xs.length) m2 ∧ ys.length = xs.length ∧ ∀ y ∈ ys, Q y
  | [], acc, m, n, h, _ => ⟨[], m, by simp [lcGo], h, rfl, by simp⟩
  | x :: xs, acc, m, n, h, hs => by
    obtain ⟨y, m2, e1, p1, q1⟩ := hs x List.mem_cons_self n m (by simp) h
    obtain ⟨ys, m3, e2, p2, l2, q2⟩ := lc_inv P Q (xs := xs) (acc := acc ++ [y]) p1 fun z hz k mk hk => hs z (List.mem_cons_of_mem _ hz) k mk (by rw [List.length_cons]; omega)
    refine ⟨y :: ys, m3, by simp only [lcGo, e1, e2]; simp, ?_, by simp [l2], ?_⟩
    · rw [List.length_cons, ← Nat.add_assoc, Nat.add_right_comm]; exact p2
    · intro z hz
      rcases List.mem_cons.mp hz with rfl | hz
      · exact q1
      · exact q2 z hz
def frStep (fs : List Sem) (g : G) (b : S) (x : D) (env : Env) (m : M) : RS := match asgG g x env with
  | some env2 => evS fs b env2 m
  | none => .no
theorem st_fr {fs : List Sem} {env env2 : Env} {m m1 m2 : M} {g : G} {it : T} {b r : S} {d : D} {xs : List D} (hi : evE fs it env m = .ok d m1) (hv : viewI d m1 = some xs) (h : forGo (frStep fs g b) xs env m1 = .nx env2 m2) : evS fs (.cons (.fr g it b) r) env m = evS fs r env2 m2 := by
  have e1 : (fun x env m => match asgG g x env with
        | some env2 => evS fs b env2 m
        | none => .no) = frStep fs g b := by
    funext x env m
    unfold frStep
    cases asgG g x env <;> rfl
  rw [evS, evS, hi, R.st_ok, hv]
  have e2 : ∀ q, q = forGo (frStep fs g b) xs env m1 → (match q with
    | .nx e m => evS fs r e m
    | x => x) = evS fs r env2 m2 := by
    intro q hq
    rw [hq, h]
  exact e2 _ (congrArg (fun f => forGo f xs env m1) e1)
/-- a loop with an invariant, through which nothing leaves -/
theorem for_inv {step : D → Env → M → RS} (P : Nat → Env → M → Prop) : ∀ {xs : List D} {env : Env} {m : M} {n : Nat}, P n env m → (∀ x ∈ xs, ∀ k env m, k < n + xs.length → P k env m → ∃ e2 m2, step x env m = .nx e2 m2 ∧ P (k + 1) e2 m2) → ∃ e2 m2, forGo step xs env m = .nx e2 m2 ∧ P (n + xs.length) e2 m2
  | [], env, m, n, h, _ => ⟨env, m, rfl, h⟩
  | x :: xs, env, m, n, h, hs => by
    obtain ⟨e1, m1, q1, p1⟩ := hs x List.mem_cons_self n env m (by simp) h
    obtain ⟨e2, m2, q2, p2⟩ := for_inv P p1 fun z hz k ek mk hk => hs z (List.mem_cons_of_mem _ hz) k ek mk (by rw [List.length_cons]; omega)
    refine ⟨e2, m2, by simp only [forGo, q1, q2], ?_⟩
    rw [List.length_cons, ← Nat.add_assoc, Nat.add_right_comm]; exact p2
/-! ### calls -/
theorem refsOf_no : ∀ {ds : List D}, norefL ds = true → refsOf ds = [] ∧ seen 0 ds = ds ∧ ∀ k, seen k ds = ds
  | [], _ => ⟨rfl, rfl, fun _ => rfl⟩
  | d :: ds, h => by
    simp only [norefL, Bool.and_eq_true] at h
    obtain ⟨a, b, c⟩ := refsOf_no h.2
    cases d <;> first | (simp [noref] at h; done) | (exact ⟨by simpa [refsOf] using a, by simp [seen, c], fun k => by simp [seen, c]⟩)
theorem all_no {ds : List D} (h : norefL ds = true) : ds.all (fun d => isRef d || noref d) = true := by
  induction ds with
  | nil => rfl
  | cons d ds ih =>
    simp only [norefL, Bool.and_eq_true] at h
    simp [h.1, ih h.2]
/-- a call that is handed nothing of ours -/
theorem call_pure {sem : Sem} {ds : List D} {m m2 : M} {d : D} (h : norefL ds = true) (hs : sem ds [] = .ok d m2) (hd : noref d = true) : callD sem ds m = .ok d m := by
  obtain ⟨a, b, _⟩ := refsOf_no h
  unfold callD
  rw [all_no h, a]
  simp only [nodupB, Bool.and_self, if_true, hand, b, hs, back]
  cases d <;> first | (simp [hd]; done) | (simp [noref] at hd)
theorem call_pure_ex {sem : Sem} {ds : List D} {m m2 : M} {c : Exc} (h : norefL ds = true) (hs : sem ds [] = .ex c m2) (hd : norefF c.fs = true) : callD sem ds m = .ex c m := by
  obtain ⟨a, b, _⟩ := refsOf_no h
  unfold callD
  rw [all_no h, a]
  simp only [nodupB, Bool.and_self, if_true, hand, b, hs, back]
  simp [hd]
/-- a call that makes an object -/
theorem call_new {sem : Sem} {ds : List D} {m : M} {o : MO} (h : norefL ds = true) (hs : sem ds [] = .ok (.ref 0) [o]) (ho : norefM o = true) : callD sem ds m = .ok (.ref m.length) (m ++ [o]) := by
  obtain ⟨a, b, _⟩ := refsOf_no h
  unfold callD
  rw [all_no h, a]
  simp only [nodupB, Bool.and_self, if_true, hand, b, hs, back]
  simp [ho]
theorem has_self {env : Env} {i : Nat} {d : D} (h : i < env.length) : (env.set i (some d))[i]? = some (some d) := List.getElem?_set_self h
theorem has_ne {env : Env} {i j : Nat} {d : D} {x : Option D} (h : env[i]? = some (some d)) (n : j ≠ i) : (env.set j x)[i]? = some (some d) := by rw [List.getElem?_set_ne n]; exact h
theorem last_get {m : M} {o : MO} : (m ++ [o])[m.length]? = some o := by simp
theorem last_set {m : M} {o o2 : MO} : (m ++ [o]).set m.length o2 = m ++ [o2] := by simp
/-- a call that is handed one object of ours, first -/
theorem call_one {sem : Sem} {ds : List D} {j : Nat} {o o2 : MO} {m : M} {d : D} (h : norefL ds = true) (hj : m[j]? = some o) (ho : norefM o = true) (hs : sem (.ref 0 :: ds) [o] = .ok d [o2]) (hd : noref d = true) (h2 : norefM o2 = true) :
    callD sem (.ref j :: ds) m = .ok d (m.set j o2) := by
  obtain ⟨a, b, c⟩ := refsOf_no h
  unfold callD
  have e1 : (D.ref j :: ds).all (fun d => isRef d || noref d) = true := by rw [List.all_cons, all_no h]; rfl
  rw [e1]
  simp only [refsOf, a, nodupB, seen, c, hand, hj, ho, if_true, hs, back, h2, Option.map_some]
  cases d <;> first | (simp [hd]; done) | (simp [noref] at hd)
end HB
namespace K00
open PySem PySem.Spec PyProof.Rows L2 HB
def top (i : Nat) : Stmt := PySem.Challenge.pw_huebill_k00_integers_names_and_fractions.main.body.getD i (.Pass ⟨0, 0, 0, 0⟩)
abbrev st_law_pot : Stmt := top 15
def b_law_pot : S := (.cons (.asg (.name 2) (.ite (.cmp .lt (.var 1) (.blt .len (.cons (.var 0) .nil))) (.ix (.var 0) (.var 1)) (.bin .add (.bin .mul (.int 97) (.var 1)) (.int 59))))
    (.cons (.asg (.name 3) (.bin .mod (.blt .int (.cons (.blt .abs (.cons (.var 2) .nil)) .nil)) (.bin .pow (.bin .pow (.int 10) (.int 59)) (.int 9))))
    (.cons (.asg (.name 4) (.bin .add (.bin .add (.bin .add (.bin .mul (.bin .mod (.blt .int (.cons (.var 3) .nil)) (.int 2305843009213693921)) (.int 1000187)) (.bin .mul (.int 7013) (.var 1))) (.bin .mul (.int 29) (.blt .int (.cons (.cmp .lt (.var 2) (.int 0)) .nil)))) (.int 17)))
    (.cons (.ret (.lstM (.cons (.blt .max (.cons (.int 0) (.cons (.bin .sub (.var 3) (.bin .pow (.int 10) (.int 18))) .nil))) (.cons (.bin .mod (.blt .int (.cons (.var 4) .nil)) (.int 2305843009213693951)) (.cons (.int 0) .nil)))))
    .nil))))
def F_law_pot : Sem := runB [] 5 b_law_pot
abbrev st_law_stir : Stmt := top 16
def b_law_stir : S := (.cons (.ife (.cmp .gt (.ix (.var 0) (.int 0)) (.int 0)) (.cons (.asg (.name 4) (.bin .mod (.blt .int (.cons (.ix (.var 0) (.int 0)) .nil)) (.var 1)))
    (.cons (.setix (.var 0) (.int 0) (.bin .fdiv (.ix (.var 0) (.int 0)) (.var 1)))
    (.cons (.ret (.var 4))
    .nil))) .nil)
    (.cons (.setix (.var 0) (.int 2) (.bin .add (.ix (.var 0) (.int 2)) (.int 1)))
    (.cons (.asg (.name 2) (.bin .mod (.blt .int (.cons (.bin .add (.ix (.var 0) (.int 1)) (.bin .mul (.int 1048583) (.ix (.var 0) (.int 2)))) .nil)) (.int 2305843009213693951)))
    (.cons (.asg (.name 3) (.bin .add (.bin .mul (.bin .mod (.blt .int (.cons (.bin .mul (.var 2) (.var 2)) .nil)) (.int 2305843009213693907)) (.var 2)) (.bin .mul (.int 8101) (.ix (.var 0) (.int 2)))))
    (.cons (.ret (.bin .mod (.blt .int (.cons (.bin .fdiv (.bin .mod (.blt .int (.cons (.var 3) .nil)) (.int 2305843009213693921)) (.int 16384)) .nil)) (.var 1)))
    .nil)))))
def F_law_stir : Sem := runB [] 5 b_law_stir
abbrev st_law_whole : Stmt := top 18
def b_law_whole : S := (.cons (.par 1 2 (.call 0 (.cons (.var 0) (.cons (.int 6) .nil))) (.bin .sub (.int 1) (.bin .mul (.int 2) (.call 0 (.cons (.var 0) (.cons (.int 2) .nil))))))
    (.cons (.ife (.cmp .lt (.var 1) (.int 2)) (.cons (.ret (.bin .mul (.var 2) (.call 0 (.cons (.var 0) (.cons (.int 21) .nil)))))
    .nil) .nil)
    (.cons (.ife (.cmp .eq (.var 1) (.int 2)) (.cons (.ret (.bin .mul (.var 2) (.call 0 (.cons (.var 0) (.cons (.bin .pow (.int 10) (.int 13)) .nil)))))
    .nil) .nil)
    (.cons (.ife (.cmp .eq (.var 1) (.int 3)) (.cons (.ret (.bin .mul (.var 2) (.bin .sub (.bin .sub (.bin .pow (.int 10) (.int 60)) (.int 1)) (.call 0 (.cons (.var 0) (.cons (.int 3) .nil))))))
    .nil) .nil)
    (.cons (.ret (.ite (.cmp .eq (.var 1) (.int 4)) (.bin .mul (.var 2) (.bin .add (.bin .pow (.int 10) (.int 59)) (.call 0 (.cons (.var 0) (.cons (.int 9) .nil))))) (.bin .mul (.var 2) (.bin .add (.bin .pow (.int 10) (.int 60)) (.call 0 (.cons (.var 0) (.cons (.int 2) .nil)))))))
    .nil)))))
def F_law_whole : Sem := runB [F_law_stir] 3 b_law_whole
abbrev st_law_one_of : Stmt := top 17
def b_law_one_of : S := (.cons (.ret (.ix (.var 1) (.call 0 (.cons (.var 0) (.cons (.blt .len (.cons (.var 1) .nil)) .nil)))))
    .nil)
def F_law_one_of : Sem := runB [F_law_stir] 2 b_law_one_of
abbrev st_law_letters : Stmt := top 23
def b_law_letters : S := (.cons (.asg (.name 1) (.join (.str "") (.lc [("_law_turn", 3)] (.name 3) (.rng1 (.call 0 (.cons (.var 0) (.cons (.int 10) .nil)))) .noP (.call 1 (.cons (.var 0) (.cons (.str "abcdefghijklmnopqrstuvwxyz") .nil))))))
    (.cons (.asg (.name 2) (.call 0 (.cons (.var 0) (.cons (.bin .add (.blt .len (.cons (.var 1) .nil)) (.int 1)) .nil))))
    (.cons (.ret (.bin .add (.bin .add (.sl (.var 1) .noP (.var 2)) (.call 1 (.cons (.var 0) (.cons (.lst (.cons (.str "") (.cons (.str "") (.cons (.str "A") (.cons (.str "0") (.cons (.str " ") (.cons (.str "_") (.cons (.str "-") (.cons (.str "\n") (.cons (.str "Z") (.cons (.str "{") (.cons (.str "`") .nil)))))))))))) .nil)))) (.sl (.var 1) (.var 2) .noP)))
    .nil)))
def F_law_letters : Sem := runB [F_law_stir, F_law_one_of] 4 b_law_letters
abbrev st_law_near_values : Stmt := top 24
def b_law_near_values : S := (.cons (.par3 2 3 4 (.call 0 (.cons (.var 0) .nil)) (.call 0 (.cons (.var 0) .nil)) (.call 1 (.cons (.var 0) .nil)))
    (.cons (.asg (.name 1) (.lst (.cons (.var 2) (.cons (.var 3) (.cons (.var 4) (.cons (.tup (.cons (.var 2) (.cons (.var 3) .nil))) (.cons (.tup (.cons (.var 2) (.cons (.int 1) .nil))) (.cons (.tup (.cons (.int 1) (.cons (.var 2) .nil))) (.cons (.tup (.cons (.int 0) (.cons (.var 2) .nil))) (.cons (.lst (.cons (.var 2) (.cons (.int 1) .nil))) (.cons (.tup (.cons (.var 2) .nil)) (.cons (.tup (.cons (.var 2) (.cons (.var 3) (.cons (.int 1) .nil)))) (.cons (.tup (.cons (.var 4) (.cons (.int 1) .nil))) .nil)))))))))))))
    (.cons (.asg (.name 1) (.bin .add (.var 1) (.lst (.cons (.tup (.cons (.bin .mul (.int 2) (.call 2 (.cons (.var 0) (.cons (.int 9) .nil)))) (.cons (.bin .add (.int 2) (.bin .mul (.int 2) (.call 2 (.cons (.var 0) (.cons (.int 9) .nil))))) .nil))) (.cons (.tup (.cons (.bin .add (.int 1) (.call 2 (.cons (.var 0) (.cons (.int 30) .nil)))) (.cons (.bin .add (.int 1) (.call 2 (.cons (.var 0) (.cons (.int 30) .nil)))) .nil))) .nil)))))
    (.cons (.asg (.name 1) (.bin .add (.var 1) (.lst (.cons (.tup (.cons (.var 2) (.cons (.bl true) .nil))) (.cons (.tup (.cons (.bl true) (.cons (.int 1) .nil))) (.cons (.tup (.cons .non (.cons (.int 1) .nil))) (.cons (.tup (.cons (.int 1) (.cons .non .nil))) (.cons (.tup (.cons (.str "1") (.cons (.int 2) .nil))) (.cons (.tup (.cons (.tup (.cons (.int 1) (.cons (.int 2) .nil))) (.cons (.tup (.cons (.int 1) (.cons (.int 2) .nil))) .nil))) (.cons (.dctI 1 2) (.cons (.blt .str (.cons (.var 2) .nil)) .nil)))))))))))
    (.cons (.ret (.bin .add (.var 1) (.lst (.cons .non (.cons (.bl true) (.cons (.bl false) (.cons (.str "") (.cons (.str "a") (.cons (.tup .nil) (.cons (.lst .nil) (.cons .dct0 (.cons (.tup (.cons (.int 0) (.cons (.int 1) .nil))) (.cons (.tup (.cons (.int 1) (.cons (.int 0) .nil))) (.cons (.tup (.cons (.int 0) (.cons (.int 0) .nil))) (.cons (.tup (.cons (.int 1) (.cons (.neg (.int 1)) .nil))) (.cons (.tup (.cons (.neg (.int 1)) (.cons (.int 1) .nil))) (.cons (.lst (.cons (.var 4) .nil)) (.cons (.tup (.cons (.var 4) .nil)) .nil))))))))))))))))))
    .nil)))))
def F_law_near_values : Sem := runB [F_law_whole, F_law_letters, F_law_stir] 5 b_law_near_values
abbrev st_is_integer : Stmt := top 7
def b_is_integer : S := (.cons (.ret (.and (.isi (.var 0) "int") (.and (.not (.isi (.var 0) "bool")) (.chain .le .le (.neg (.gint "GREATEST" 999999999999999999999999999999999999999999999999999999999999)) (.var 0) (.gint "GREATEST" 999999999999999999999999999999999999999999999999999999999999)))))
    .nil)
def F_is_integer : Sem := runB [] 1 b_is_integer
abbrev st_divisor_of : Stmt := top 9
def b_divisor_of : S := (.cons (.wh (10 ^ 60 + 1) (.cmp .ne (.var 1) (.int 0)) (.cons (.par 0 1 (.var 1) (.bin .mod (.var 0) (.var 1)))
    .nil))
    (.cons (.ret (.blt .abs (.cons (.var 0) .nil)))
    .nil))
def F_divisor_of : Sem := runB [] 2 b_divisor_of
abbrev st_is_fraction : Stmt := top 10
def b_is_fraction : S := (.cons (.ife (.or (.not (.isi (.var 0) "tuple")) (.or (.cmp .ne (.blt .len (.cons (.var 0) .nil)) (.int 2)) (.or (.not (.call 0 (.cons (.ix (.var 0) (.int 0)) .nil))) (.not (.call 0 (.cons (.ix (.var 0) (.int 1)) .nil)))))) (.cons (.ret (.bl false))
    .nil) .nil)
    (.cons (.ret (.and (.cmp .ge (.ix (.var 0) (.int 1)) (.int 1)) (.cmp .eq (.call 1 (.cons (.ix (.var 0) (.int 0)) (.cons (.ix (.var 0) (.int 1)) .nil))) (.int 1))))
    .nil))
def F_is_fraction : Sem := runB [F_is_integer, F_divisor_of] 1 b_is_fraction
abbrev st_is_name : Stmt := top 8
def b_is_name : S := (.cons (.ret (.and (.isi (.var 0) "str") (.and (.chain .le .le (.int 1) (.blt .len (.cons (.var 0) .nil)) (.gint "MAX_NAME" 8)) (.blt .all (.cons (.lc [("sign", 1)] (.name 1) (.var 0) .noP (.chain .le .le (.str "a") (.var 1) (.str "z"))) .nil)))))
    .nil)
def F_is_name : Sem := runB [] 2 b_is_name
abbrev st_law_is_whole : Stmt := top 19
def b_law_is_whole : S := (.cons (.ret (.and (.isi (.var 0) "int") (.and (.not (.isi (.var 0) "bool")) (.cmp .lt (.blt .abs (.cons (.var 0) .nil)) (.bin .pow (.int 10) (.int 60))))))
    .nil)
def F_law_is_whole : Sem := runB [] 1 b_law_is_whole
abbrev st_law_shared : Stmt := top 20
def b_law_shared : S := (.cons (.par 2 3 (.blt .abs (.cons (.var 0) .nil)) (.blt .abs (.cons (.var 1) .nil)))
    (.cons (.wh (10 ^ 60 + 1) (.cmp .gt (.var 3) (.int 0)) (.cons (.par 2 3 (.var 3) (.bin .mod (.blt .int (.cons (.var 2) .nil)) (.var 3)))
    .nil))
    (.cons (.ret (.var 2))
    .nil)))
def F_law_shared : Sem := runB [] 4 b_law_shared
abbrev st_law_is_quotient : Stmt := top 21
def b_law_is_quotient : S := (.cons (.ife (.or (.not (.isi (.var 0) "tuple")) (.or (.cmp .ne (.blt .len (.cons (.var 0) .nil)) (.int 2)) (.or (.not (.call 0 (.cons (.ix (.var 0) (.int 0)) .nil))) (.not (.call 0 (.cons (.ix (.var 0) (.int 1)) .nil)))))) (.cons (.ret (.bl false))
    .nil) .nil)
    (.cons (.ret (.and (.cmp .gt (.ix (.var 0) (.int 1)) (.int 0)) (.cmp .eq (.call 1 (.cons (.ix (.var 0) (.int 0)) (.cons (.ix (.var 0) (.int 1)) .nil))) (.int 1))))
    .nil))
def F_law_is_quotient : Sem := runB [F_law_is_whole, F_law_shared] 1 b_law_is_quotient
abbrev st_law_is_word : Stmt := top 22
def b_law_is_word : S := (.cons (.ife (.or (.not (.isi (.var 0) "str")) (.not (.chain .le .le (.int 1) (.blt .len (.cons (.var 0) .nil)) (.int 8)))) (.cons (.ret (.bl false))
    .nil) .nil)
    (.cons (.ret (.cmp .eq (.lc [("_law_sign", 1)] (.name 1) (.var 0) (.not (.chain .le .le (.str "a") (.var 1) (.str "z"))) (.var 1)) (.lst .nil)))
    .nil))
def F_law_is_word : Sem := runB [] 2 b_law_is_word
abbrev st_require_integer : Stmt := top 11
def b_require_integer : S := (.cons (.ife (.not (.call 0 (.cons (.var 0) .nil))) (.cons (.rai "InvalidNumber" "value" (.var 0))
    .nil) .nil)
    .nil)
def F_require_integer : Sem := runB [F_is_integer] 1 b_require_integer
abbrev st_lowest_of : Stmt := top 12
def b_lowest_of : S := (.cons (.asg (.name 2) (.call 0 (.cons (.var 0) (.cons (.var 1) .nil))))
    (.cons (.ife (.cmp .lt (.var 1) (.int 0)) (.cons (.asg (.name 2) (.neg (.var 2)))
    .nil) .nil)
    (.cons (.ret (.tup (.cons (.bin .fdiv (.var 0) (.var 2)) (.cons (.bin .fdiv (.var 1) (.var 2)) .nil))))
    .nil)))
def F_lowest_of : Sem := runB [F_divisor_of] 3 b_lowest_of
abbrev st_lowest : Stmt := top 13
def b_lowest : S := (.cons (.exp (.call 0 (.cons (.var 0) .nil)))
    (.cons (.ife (.or (.not (.call 1 (.cons (.var 1) .nil))) (.cmp .eq (.var 1) (.int 0))) (.cons (.rai "InvalidNumber" "value" (.var 1))
    .nil) .nil)
    (.cons (.ret (.call 2 (.cons (.var 0) (.cons (.var 1) .nil))))
    .nil)))
def F_lowest : Sem := runB [F_require_integer, F_is_integer, F_lowest_of] 2 b_lowest
abbrev st_law_lowest_told : Stmt := top 25
def b_law_lowest_told : S := (.cons (.try1 (.cons (.ret (.tup (.cons (.str "told") (.cons (.call 0 (.cons (.var 0) (.cons (.var 1) .nil))) .nil))))
    .nil) "InvalidNumber" [("InvalidNumber", true)] 2 (.tup (.cons (.str "no") (.cons (.fld ["InvalidNumber"] "value") .nil))))
    .nil)
def F_law_lowest_told : Sem := runB [F_lowest] 3 b_law_lowest_told
abbrev st_law_lowest_due : Stmt := top 26
def b_law_lowest_due : S := (.cons (.ife (.not (.call 0 (.cons (.var 0) .nil))) (.cons (.ret (.tup (.cons (.str "no") (.cons (.var 0) .nil))))
    .nil) .nil)
    (.cons (.ife (.or (.not (.call 0 (.cons (.var 1) .nil))) (.cmp .eq (.var 1) (.int 0))) (.cons (.ret (.tup (.cons (.str "no") (.cons (.var 1) .nil))))
    .nil) .nil)
    (.cons (.asg (.name 2) (.call 1 (.cons (.var 0) (.cons (.var 1) .nil))))
    (.cons (.par 3 4 (.bin .fdiv (.blt .abs (.cons (.var 0) .nil)) (.var 2)) (.bin .fdiv (.blt .abs (.cons (.var 1) .nil)) (.var 2)))
    (.cons (.ret (.tup (.cons (.str "told") (.cons (.tup (.cons (.ite (.cmp .eq (.cmp .lt (.var 0) (.int 0)) (.cmp .lt (.var 1) (.int 0))) (.var 3) (.bin .sub (.int 0) (.var 3))) (.cons (.var 4) .nil))) .nil))))
    .nil)))))
def F_law_lowest_due : Sem := runB [F_law_is_whole, F_law_shared] 5 b_law_lowest_due
abbrev st_law : Stmt := top 27
def b_law : S := (.cons (.fr (.name 1) (.rng1 (.blt .max (.cons (.int 1) (.cons (.blt .min (.cons (.int 3) (.cons (.blt .len (.cons (.var 0) .nil)) .nil))) .nil)))) (.cons (.asg (.name 3) (.call 0 (.cons (.var 0) (.cons (.var 1) .nil))))
    (.cons (.asg (.name 4) (.call 1 (.cons (.var 3) .nil)))
    (.cons (.fr (.name 5) (.var 4) (.cons (.asg (.name 2) (.lst (.cons (.call 4 (.cons (.var 5) .nil)) (.cons (.call 3 (.cons (.var 5) .nil)) (.cons (.call 2 (.cons (.var 5) .nil)) .nil)))))
    (.cons (.ife (.cmp .ne (.blt .repr (.cons (.var 2) .nil)) (.blt .repr (.cons (.lst (.cons (.call 7 (.cons (.var 5) .nil)) (.cons (.call 6 (.cons (.var 5) .nil)) (.cons (.call 5 (.cons (.var 5) .nil)) .nil)))) .nil))) (.cons (.ret (.bl false))
    .nil) .nil)
    .nil)))
    (.cons (.par 7 8 (.call 8 (.cons (.var 3) .nil)) (.call 8 (.cons (.var 3) .nil)))
    (.cons (.par 9 10 (.bin .add (.int 1) (.call 9 (.cons (.var 3) (.cons (.int 99) .nil)))) (.call 10 (.cons (.var 3) (.cons (.var 4) .nil))))
    (.cons (.par 11 12 (.bin .sub (.call 9 (.cons (.var 3) (.cons (.int 61) .nil))) (.int 30)) (.bin .sub (.call 9 (.cons (.var 3) (.cons (.int 61) .nil))) (.int 30)))
    (.cons (.asg (.name 6) (.lst (.cons (.tup (.cons (.var 7) (.cons (.var 8) .nil))) (.cons (.tup (.cons (.var 8) (.cons (.var 7) .nil))) (.cons (.tup (.cons (.var 11) (.cons (.var 12) .nil))) (.cons (.tup (.cons (.bin .mul (.var 11) (.var 9)) (.cons (.bin .mul (.var 12) (.var 9)) .nil))) (.cons (.tup (.cons (.var 7) (.cons (.var 10) .nil))) (.cons (.tup (.cons (.var 10) (.cons (.int 0) .nil))) (.cons (.tup (.cons (.var 10) (.cons (.var 8) .nil))) (.cons (.tup (.cons (.int 0) (.cons (.var 7) .nil))) .nil))))))))))
    (.cons (.fr (.tup (.cons (.name 13) (.cons (.name 14) .nil))) (.var 6) (.cons (.asg (.name 2) (.call 11 (.cons (.var 13) (.cons (.var 14) .nil))))
    (.cons (.ife (.or (.cmp .ne (.blt .repr (.cons (.var 2) .nil)) (.blt .repr (.cons (.call 12 (.cons (.var 13) (.cons (.var 14) .nil))) .nil))) (.and (.cmp .eq (.ix (.var 2) (.int 0)) (.str "told")) (.not (.call 2 (.cons (.ix (.var 2) (.int 1)) .nil))))) (.cons (.ret (.bl false))
    .nil) .nil)
    .nil)))
    .nil)))))))))
    (.cons (.asg (.name 2) (.lst (.cons (.call 13 (.cons (.int 4) (.cons (.neg (.int 6)) .nil))) (.cons (.call 13 (.cons (.int 0) (.cons (.int 5) .nil))) (.cons (.call 2 (.cons (.tup (.cons (.int 1) (.cons (.int 2) .nil))) .nil)) (.cons (.call 2 (.cons (.tup (.cons (.int 2) (.cons (.int 4) .nil))) .nil)) (.cons (.call 2 (.cons (.tup (.cons (.neg (.int 3)) (.cons (.int 1) .nil))) .nil)) (.cons (.call 4 (.cons (.bl true) .nil)) .nil))))))))
    (.cons (.ret (.and (.cmp .eq (.var 2) (.lst (.cons (.tup (.cons (.neg (.int 2)) (.cons (.int 3) .nil))) (.cons (.tup (.cons (.int 0) (.cons (.int 1) .nil))) (.cons (.bl true) (.cons (.bl false) (.cons (.bl true) (.cons (.bl false) .nil)))))))) (.cmp .eq (.lst (.cons (.gint "MAX_DIGITS" 60) (.cons (.gint "MAX_NAME" 8) (.cons (.gint "MAX_THINGS" 8) .nil)))) (.lst (.cons (.int 60) (.cons (.int 8) (.cons (.int 8) .nil)))))))
    .nil)))
def F_law : Sem := runB [F_law_pot, F_law_near_values, F_is_fraction, F_is_name, F_is_integer, F_law_is_quotient, F_law_is_word, F_law_is_whole, F_law_whole, F_law_stir, F_law_one_of, F_law_lowest_told, F_law_lowest_due, F_lowest] 15 b_law
def fn : List He.DefD := [dOf "_law_pot" st_law_pot, dOf "_law_stir" st_law_stir, dOf "_law_whole" st_law_whole, dOf "_law_one_of" st_law_one_of, dOf "_law_letters" st_law_letters, dOf "_law_near_values" st_law_near_values, dOf "is_integer" st_is_integer, dOf "divisor_of" st_divisor_of, dOf "is_fraction" st_is_fraction, dOf "is_name" st_is_name, dOf "_law_is_whole" st_law_is_whole, dOf "_law_shared" st_law_shared, dOf "_law_is_quotient" st_law_is_quotient, dOf "_law_is_word" st_law_is_word, dOf "require_integer" st_require_integer, dOf "lowest_of" st_lowest_of, dOf "lowest" st_lowest, dOf "_law_lowest_told" st_law_lowest_told, dOf "_law_lowest_due" st_law_lowest_due, dOf "law" st_law]
def gl : List Str := ["_law_pot", "_law_stir", "_law_whole", "_law_one_of", "_law_letters", "_law_near_values", "is_integer", "divisor_of", "is_fraction", "is_name", "_law_is_whole", "_law_shared", "_law_is_quotient", "_law_is_word", "require_integer", "lowest_of", "lowest", "_law_lowest_told", "_law_lowest_due", "law", "InvalidNumber"]
def fr : List Str := ["abs", "max", "min", "sum", "int", "str", "len", "all", "any", "tuple", "list", "repr", "isinstance", "bool", "dict", "range", "zip", "enumerate", "sorted", "set", "reversed", "iter", "next", "super"]
def gints : List (Str × Int) := [("GREATEST", 999999999999999999999999999999999999999999999999999999999999), ("MAX_NAME", 8), ("MAX_DIGITS", 60), ("MAX_THINGS", 8)]
def xcs : List (Str × Str) := [("InvalidNumber", "value")]
def xsub : List (Str × Str × Bool) := [("InvalidNumber", "InvalidNumber", true)]
abbrev it_InvalidNumber : Stmt := (clsBody (top 1)).getD 0 (.Pass ⟨0, 0, 0, 0⟩)
def x_InvalidNumber : XD := ⟨"InvalidNumber", "value", "value", "InvalidNumber.__init__", defArgs it_InvalidNumber, defBody it_InvalidNumber, defScope it_InvalidNumber, "IndexError", "IndexError.__new__", "IndexError.__init__", [.type "IndexError", .type "LookupError", .type "Exception", .type "BaseException", .type "object"]⟩
theorem t_InvalidNumber (w : World) : x_InvalidNumber.Txt PySem.Challenge.pw_huebill_k00_integers_names_and_fractions w where
  bs := ⟨PySem.F.excBase_IndexError, PySem.W.kxs_IndexError, PySem.F.store_IndexError⟩
  vn := by decide +kernel
  dbg := by decide +kernel
  top := by decide +kernel
  txt := ⟨fun i => ([⟨5, 8, 5, 13⟩, ⟨5, 8, 5, 15⟩, ⟨5, 8, 5, 24⟩, ⟨5, 8, 5, 57⟩, ⟨5, 8, 5, 57⟩, ⟨6, 8, 6, 12⟩, ⟨6, 8, 6, 18⟩, ⟨6, 21, 6, 26⟩, ⟨6, 8, 6, 26⟩] : List Pos).getD i ⟨0, 0, 0, 0⟩, ⟨4, 17, 4, 21⟩, ⟨4, 23, 4, 28⟩, .Constant (.str "the number is not as expected") 0 ⟨5, 25, 5, 56⟩, rfl, rfl, PySem.HBX.msgOk_str, rfl⟩
  nms := by decide +kernel
  knd := ⟨rfl, rfl, rfl⟩
  bnd := fun _ _ _ _ _ _ _ _ _ _ => .of_eq rfl
def xs : List XD := [x_InvalidNumber]
def names0 : List PySem.Str := ["InvalidNumber", "MAX_DIGITS", "MAX_NAME", "MAX_THINGS", "GREATEST", "is_integer", "is_name", "divisor_of", "is_fraction", "require_integer", "lowest_of", "lowest", "_law_pot", "_law_stir", "_law_one_of", "_law_whole", "_law_is_whole", "_law_shared", "_law_is_quotient", "_law_is_word", "_law_letters", "_law_near_values", "_law_lowest_told", "_law_lowest_due"]
def names : List PySem.Str := names0
abbrev R : PySem.W.OpenRow := PySem.W.OpenLaw.row PySem.Challenge.rw_huebill_k00_integers_names_and_fractions
abbrev hk : PySem.W.Hook := hookX PySem.Challenge.pw_huebill_k00_integers_names_and_fractions.main.file 5 (faOf gl fr gints xsub) fn xs
def ob (s : PySem.W.SharedT) : AlX := obsXG PySem.Challenge.pw_huebill_k00_integers_names_and_fractions.main.file 5 (faOf gl fr gints xsub) fn xs (HandSHeadRun.getT s)
theorem ob_eq (s : PySem.W.SharedT) : ob s = hk.obs s.abs := obsXG_eq (HandSHeadRun.getT_eq s)
theorem run (w : World) : HandSHeadRun.RunEq R (PySem.W.view R.prog [27]) hk ob 4000 names w := by
  intro os
  kernel_rfl
abbrev AlH (w : World) (K : PySem.W.Frag) (mg : Str → Option Value) (h base : Heap) : Prop := Al PySem.Challenge.pw_huebill_k00_integers_names_and_fractions w (faOf gl fr gints xsub) fn xs K mg h base gints xcs xsub
section
variable {w : World} {K : PySem.W.Frag} {mg : Str → Option Value} {h base : Heap}
theorem sc_law_pot : FnScope ["_law_script", "_law_at", "_law_cell", "_law_great", "_law_mixed"] ["_law_script", "_law_at"] (defScope st_law_pot) := ⟨rfl, rfl, rfl, by decide +kernel, rfl, by decide +kernel, by decide +kernel⟩
theorem k_law_pot : chkB ⟨["_law_script", "_law_at", "_law_cell", "_law_great", "_law_mixed"], defScope st_law_pot, none, [], gints, xcs, xsub⟩ b_law_pot (defBody st_law_pot) = true := by decide +kernel
theorem bd_law_pot : Bnd "_law_pot" st_law_pot ["_law_script", "_law_at"] := fun _ _ _ _ _ _ us hl => match us, hl with | [_, _], _ => rfl
theorem c_law_pot (A : AlH w K mg h base) : Callee PySem.Challenge.pw_huebill_k00_integers_names_and_fractions w K mg base 1 "_law_pot" 2 F_law_pot := callee_D A 0 rfl (by decide +kernel) sc_law_pot bd_law_pot (show Cals PySem.Challenge.pw_huebill_k00_integers_names_and_fractions w K mg base 0 [] _ from trivial) k_law_pot
theorem sc_law_stir : FnScope ["_law_pot_here", "_law_total", "_law_one", "_law_two", "_law_found"] ["_law_pot_here", "_law_total"] (defScope st_law_stir) := ⟨rfl, rfl, rfl, by decide +kernel, rfl, by decide +kernel, by decide +kernel⟩
theorem k_law_stir : chkB ⟨["_law_pot_here", "_law_total", "_law_one", "_law_two", "_law_found"], defScope st_law_stir, none, [], gints, xcs, xsub⟩ b_law_stir (defBody st_law_stir) = true := by decide +kernel
theorem bd_law_stir : Bnd "_law_stir" st_law_stir ["_law_pot_here", "_law_total"] := fun _ _ _ _ _ _ us hl => match us, hl with | [_, _], _ => rfl
theorem c_law_stir (A : AlH w K mg h base) : Callee PySem.Challenge.pw_huebill_k00_integers_names_and_fractions w K mg base 1 "_law_stir" 2 F_law_stir := callee_D A 1 rfl (by decide +kernel) sc_law_stir bd_law_stir (show Cals PySem.Challenge.pw_huebill_k00_integers_names_and_fractions w K mg base 0 [] _ from trivial) k_law_stir
theorem sc_law_whole : FnScope ["_law_pot_here", "_law_lot", "_law_sign"] ["_law_pot_here"] (defScope st_law_whole) := ⟨rfl, rfl, rfl, by decide +kernel, rfl, by decide +kernel, by decide +kernel⟩
theorem k_law_whole : chkB ⟨["_law_pot_here", "_law_lot", "_law_sign"], defScope st_law_whole, none, [("_law_stir", 2)], gints, xcs, xsub⟩ b_law_whole (defBody st_law_whole) = true := by decide +kernel
theorem bd_law_whole : Bnd "_law_whole" st_law_whole ["_law_pot_here"] := fun _ _ _ _ _ _ us hl => match us, hl with | [_], _ => rfl
theorem c_law_whole (A : AlH w K mg h base) : Callee PySem.Challenge.pw_huebill_k00_integers_names_and_fractions w K mg base 2 "_law_whole" 1 F_law_whole := callee_D A 2 rfl (by decide +kernel) sc_law_whole bd_law_whole (show Cals PySem.Challenge.pw_huebill_k00_integers_names_and_fractions w K mg base 1 [("_law_stir", 2)] _ from ⟨⟨1, by decide, c_law_stir A⟩, trivial⟩) k_law_whole
theorem sc_law_one_of : FnScope ["_law_pot_here", "_law_items"] ["_law_pot_here", "_law_items"] (defScope st_law_one_of) := ⟨rfl, rfl, rfl, by decide +kernel, rfl, by decide +kernel, by decide +kernel⟩
theorem k_law_one_of : chkB ⟨["_law_pot_here", "_law_items"], defScope st_law_one_of, none, [("_law_stir", 2)], gints, xcs, xsub⟩ b_law_one_of (defBody st_law_one_of) = true := by decide +kernel
theorem bd_law_one_of : Bnd "_law_one_of" st_law_one_of ["_law_pot_here", "_law_items"] := fun _ _ _ _ _ _ us hl => match us, hl with | [_, _], _ => rfl
theorem c_law_one_of (A : AlH w K mg h base) : Callee PySem.Challenge.pw_huebill_k00_integers_names_and_fractions w K mg base 2 "_law_one_of" 2 F_law_one_of := callee_D A 3 rfl (by decide +kernel) sc_law_one_of bd_law_one_of (show Cals PySem.Challenge.pw_huebill_k00_integers_names_and_fractions w K mg base 1 [("_law_stir", 2)] _ from ⟨⟨1, by decide, c_law_stir A⟩, trivial⟩) k_law_one_of
theorem sc_law_letters : FnScope ["_law_pot_here", "_law_text", "_law_spot", "_law_turn"] ["_law_pot_here"] (defScope st_law_letters) := ⟨rfl, rfl, rfl, by decide +kernel, rfl, by decide +kernel, by decide +kernel⟩
theorem k_law_letters : chkB ⟨["_law_pot_here", "_law_text", "_law_spot", "_law_turn"], defScope st_law_letters, none, [("_law_stir", 2), ("_law_one_of", 2)], gints, xcs, xsub⟩ b_law_letters (defBody st_law_letters) = true := by decide +kernel
theorem bd_law_letters : Bnd "_law_letters" st_law_letters ["_law_pot_here"] := fun _ _ _ _ _ _ us hl => match us, hl with | [_], _ => rfl
theorem c_law_letters (A : AlH w K mg h base) : Callee PySem.Challenge.pw_huebill_k00_integers_names_and_fractions w K mg base 3 "_law_letters" 1 F_law_letters := callee_D A 4 rfl (by decide +kernel) sc_law_letters bd_law_letters (show Cals PySem.Challenge.pw_huebill_k00_integers_names_and_fractions w K mg base 2 [("_law_stir", 2), ("_law_one_of", 2)] _ from ⟨⟨1, by decide, c_law_stir A⟩, ⟨⟨2, by decide, c_law_one_of A⟩, trivial⟩⟩) k_law_letters
theorem sc_law_near_values : FnScope ["_law_pot_here", "_law_found", "_law_one", "_law_other", "_law_word"] ["_law_pot_here"] (defScope st_law_near_values) := ⟨rfl, rfl, rfl, by decide +kernel, rfl, by decide +kernel, by decide +kernel⟩
theorem k_law_near_values : chkB ⟨["_law_pot_here", "_law_found", "_law_one", "_law_other", "_law_word"], defScope st_law_near_values, none, [("_law_whole", 1), ("_law_letters", 1), ("_law_stir", 2)], gints, xcs, xsub⟩ b_law_near_values (defBody st_law_near_values) = true := by decide +kernel
theorem bd_law_near_values : Bnd "_law_near_values" st_law_near_values ["_law_pot_here"] := fun _ _ _ _ _ _ us hl => match us, hl with | [_], _ => rfl
theorem c_law_near_values (A : AlH w K mg h base) : Callee PySem.Challenge.pw_huebill_k00_integers_names_and_fractions w K mg base 4 "_law_near_values" 1 F_law_near_values := callee_D A 5 rfl (by decide +kernel) sc_law_near_values bd_law_near_values (show Cals PySem.Challenge.pw_huebill_k00_integers_names_and_fractions w K mg base 3 [("_law_whole", 1), ("_law_letters", 1), ("_law_stir", 2)] _ from ⟨⟨2, by decide, c_law_whole A⟩, ⟨⟨3, by decide, c_law_letters A⟩, ⟨⟨1, by decide, c_law_stir A⟩, trivial⟩⟩⟩) k_law_near_values
theorem sc_is_integer : FnScope ["value"] ["value"] (defScope st_is_integer) := ⟨rfl, rfl, rfl, by decide +kernel, rfl, by decide +kernel, by decide +kernel⟩
theorem k_is_integer : chkB ⟨["value"], defScope st_is_integer, none, [], gints, xcs, xsub⟩ b_is_integer (defBody st_is_integer) = true := by decide +kernel
theorem bd_is_integer : Bnd "is_integer" st_is_integer ["value"] := fun _ _ _ _ _ _ us hl => match us, hl with | [_], _ => rfl
theorem c_is_integer (A : AlH w K mg h base) : Callee PySem.Challenge.pw_huebill_k00_integers_names_and_fractions w K mg base 1 "is_integer" 1 F_is_integer := callee_D A 6 rfl (by decide +kernel) sc_is_integer bd_is_integer (show Cals PySem.Challenge.pw_huebill_k00_integers_names_and_fractions w K mg base 0 [] _ from trivial) k_is_integer
theorem sc_divisor_of : FnScope ["one", "other"] ["one", "other"] (defScope st_divisor_of) := ⟨rfl, rfl, rfl, by decide +kernel, rfl, by decide +kernel, by decide +kernel⟩
theorem k_divisor_of : chkB ⟨["one", "other"], defScope st_divisor_of, none, [], gints, xcs, xsub⟩ b_divisor_of (defBody st_divisor_of) = true := by decide +kernel
theorem bd_divisor_of : Bnd "divisor_of" st_divisor_of ["one", "other"] := fun _ _ _ _ _ _ us hl => match us, hl with | [_, _], _ => rfl
theorem c_divisor_of (A : AlH w K mg h base) : Callee PySem.Challenge.pw_huebill_k00_integers_names_and_fractions w K mg base 1 "divisor_of" 2 F_divisor_of := callee_D A 7 rfl (by decide +kernel) sc_divisor_of bd_divisor_of (show Cals PySem.Challenge.pw_huebill_k00_integers_names_and_fractions w K mg base 0 [] _ from trivial) k_divisor_of
theorem sc_is_fraction : FnScope ["value"] ["value"] (defScope st_is_fraction) := ⟨rfl, rfl, rfl, by decide +kernel, rfl, by decide +kernel, by decide +kernel⟩
theorem k_is_fraction : chkB ⟨["value"], defScope st_is_fraction, none, [("is_integer", 1), ("divisor_of", 2)], gints, xcs, xsub⟩ b_is_fraction (defBody st_is_fraction) = true := by decide +kernel
theorem bd_is_fraction : Bnd "is_fraction" st_is_fraction ["value"] := fun _ _ _ _ _ _ us hl => match us, hl with | [_], _ => rfl
theorem c_is_fraction (A : AlH w K mg h base) : Callee PySem.Challenge.pw_huebill_k00_integers_names_and_fractions w K mg base 2 "is_fraction" 1 F_is_fraction := callee_D A 8 rfl (by decide +kernel) sc_is_fraction bd_is_fraction (show Cals PySem.Challenge.pw_huebill_k00_integers_names_and_fractions w K mg base 1 [("is_integer", 1), ("divisor_of", 2)] _ from ⟨⟨1, by decide, c_is_integer A⟩, ⟨⟨1, by decide, c_divisor_of A⟩, trivial⟩⟩) k_is_fraction
theorem sc_is_name : FnScope ["value", "sign"] ["value"] (defScope st_is_name) := ⟨rfl, rfl, rfl, by decide +kernel, rfl, by decide +kernel, by decide +kernel⟩
theorem k_is_name : chkB ⟨["value", "sign"], defScope st_is_name, none, [], gints, xcs, xsub⟩ b_is_name (defBody st_is_name) = true := by decide +kernel
theorem bd_is_name : Bnd "is_name" st_is_name ["value"] := fun _ _ _ _ _ _ us hl => match us, hl with | [_], _ => rfl
theorem c_is_name (A : AlH w K mg h base) : Callee PySem.Challenge.pw_huebill_k00_integers_names_and_fractions w K mg base 1 "is_name" 1 F_is_name := callee_D A 9 rfl (by decide +kernel) sc_is_name bd_is_name (show Cals PySem.Challenge.pw_huebill_k00_integers_names_and_fractions w K mg base 0 [] _ from trivial) k_is_name
theorem sc_law_is_whole : FnScope ["_law_value"] ["_law_value"] (defScope st_law_is_whole) := ⟨rfl, rfl, rfl, by decide +kernel, rfl, by decide +kernel, by decide +kernel⟩
theorem k_law_is_whole : chkB ⟨["_law_value"], defScope st_law_is_whole, none, [], gints, xcs, xsub⟩ b_law_is_whole (defBody st_law_is_whole) = true := by decide +kernel
theorem bd_law_is_whole : Bnd "_law_is_whole" st_law_is_whole ["_law_value"] := fun _ _ _ _ _ _ us hl => match us, hl with | [_], _ => rfl
theorem c_law_is_whole (A : AlH w K mg h base) : Callee PySem.Challenge.pw_huebill_k00_integers_names_and_fractions w K mg base 1 "_law_is_whole" 1 F_law_is_whole := callee_D A 10 rfl (by decide +kernel) sc_law_is_whole bd_law_is_whole (show Cals PySem.Challenge.pw_huebill_k00_integers_names_and_fractions w K mg base 0 [] _ from trivial) k_law_is_whole
theorem sc_law_shared : FnScope ["_law_one", "_law_other", "_law_big", "_law_low"] ["_law_one", "_law_other"] (defScope st_law_shared) := ⟨rfl, rfl, rfl, by decide +kernel, rfl, by decide +kernel, by decide +kernel⟩
theorem k_law_shared : chkB ⟨["_law_one", "_law_other", "_law_big", "_law_low"], defScope st_law_shared, none, [], gints, xcs, xsub⟩ b_law_shared (defBody st_law_shared) = true := by decide +kernel
theorem bd_law_shared : Bnd "_law_shared" st_law_shared ["_law_one", "_law_other"] := fun _ _ _ _ _ _ us hl => match us, hl with | [_, _], _ => rfl
theorem c_law_shared (A : AlH w K mg h base) : Callee PySem.Challenge.pw_huebill_k00_integers_names_and_fractions w K mg base 1 "_law_shared" 2 F_law_shared := callee_D A 11 rfl (by decide +kernel) sc_law_shared bd_law_shared (show Cals PySem.Challenge.pw_huebill_k00_integers_names_and_fractions w K mg base 0 [] _ from trivial) k_law_shared
theorem sc_law_is_quotient : FnScope ["_law_value"] ["_law_value"] (defScope st_law_is_quotient) := ⟨rfl, rfl, rfl, by decide +kernel, rfl, by decide +kernel, by decide +kernel⟩
theorem k_law_is_quotient : chkB ⟨["_law_value"], defScope st_law_is_quotient, none, [("_law_is_whole", 1), ("_law_shared", 2)], gints, xcs, xsub⟩ b_law_is_quotient (defBody st_law_is_quotient) = true := by decide +kernel
theorem bd_law_is_quotient : Bnd "_law_is_quotient" st_law_is_quotient ["_law_value"] := fun _ _ _ _ _ _ us hl => match us, hl with | [_], _ => rfl
theorem c_law_is_quotient (A : AlH w K mg h base) : Callee PySem.Challenge.pw_huebill_k00_integers_names_and_fractions w K mg base 2 "_law_is_quotient" 1 F_law_is_quotient := callee_D A 12 rfl (by decide +kernel) sc_law_is_quotient bd_law_is_quotient (show Cals PySem.Challenge.pw_huebill_k00_integers_names_and_fractions w K mg base 1 [("_law_is_whole", 1), ("_law_shared", 2)] _ from ⟨⟨1, by decide, c_law_is_whole A⟩, ⟨⟨1, by decide, c_law_shared A⟩, trivial⟩⟩) k_law_is_quotient
theorem sc_law_is_word : FnScope ["_law_value", "_law_sign"] ["_law_value"] (defScope st_law_is_word) := ⟨rfl, rfl, rfl, by decide +kernel, rfl, by decide +kernel, by decide +kernel⟩
theorem k_law_is_word : chkB ⟨["_law_value", "_law_sign"], defScope st_law_is_word, none, [], gints, xcs, xsub⟩ b_law_is_word (defBody st_law_is_word) = true := by decide +kernel
theorem bd_law_is_word : Bnd "_law_is_word" st_law_is_word ["_law_value"] := fun _ _ _ _ _ _ us hl => match us, hl with | [_], _ => rfl
theorem c_law_is_word (A : AlH w K mg h base) : Callee PySem.Challenge.pw_huebill_k00_integers_names_and_fractions w K mg base 1 "_law_is_word" 1 F_law_is_word := callee_D A 13 rfl (by decide +kernel) sc_law_is_word bd_law_is_word (show Cals PySem.Challenge.pw_huebill_k00_integers_names_and_fractions w K mg base 0 [] _ from trivial) k_law_is_word
theorem sc_require_integer : FnScope ["value"] ["value"] (defScope st_require_integer) := ⟨rfl, rfl, rfl, by decide +kernel, rfl, by decide +kernel, by decide +kernel⟩
theorem k_require_integer : chkB ⟨["value"], defScope st_require_integer, none, [("is_integer", 1)], gints, xcs, xsub⟩ b_require_integer (defBody st_require_integer) = true := by decide +kernel
theorem bd_require_integer : Bnd "require_integer" st_require_integer ["value"] := fun _ _ _ _ _ _ us hl => match us, hl with | [_], _ => rfl
theorem c_require_integer (A : AlH w K mg h base) : Callee PySem.Challenge.pw_huebill_k00_integers_names_and_fractions w K mg base 2 "require_integer" 1 F_require_integer := callee_D A 14 rfl (by decide +kernel) sc_require_integer bd_require_integer (show Cals PySem.Challenge.pw_huebill_k00_integers_names_and_fractions w K mg base 1 [("is_integer", 1)] _ from ⟨⟨1, by decide, c_is_integer A⟩, trivial⟩) k_require_integer
theorem sc_lowest_of : FnScope ["top", "bottom", "shared"] ["top", "bottom"] (defScope st_lowest_of) := ⟨rfl, rfl, rfl, by decide +kernel, rfl, by decide +kernel, by decide +kernel⟩
theorem k_lowest_of : chkB ⟨["top", "bottom", "shared"], defScope st_lowest_of, none, [("divisor_of", 2)], gints, xcs, xsub⟩ b_lowest_of (defBody st_lowest_of) = true := by decide +kernel
theorem bd_lowest_of : Bnd "lowest_of" st_lowest_of ["top", "bottom"] := fun _ _ _ _ _ _ us hl => match us, hl with | [_, _], _ => rfl
theorem c_lowest_of (A : AlH w K mg h base) : Callee PySem.Challenge.pw_huebill_k00_integers_names_and_fractions w K mg base 2 "lowest_of" 2 F_lowest_of := callee_D A 15 rfl (by decide +kernel) sc_lowest_of bd_lowest_of (show Cals PySem.Challenge.pw_huebill_k00_integers_names_and_fractions w K mg base 1 [("divisor_of", 2)] _ from ⟨⟨1, by decide, c_divisor_of A⟩, trivial⟩) k_lowest_of
theorem sc_lowest : FnScope ["numerator", "denominator"] ["numerator", "denominator"] (defScope st_lowest) := ⟨rfl, rfl, rfl, by decide +kernel, rfl, by decide +kernel, by decide +kernel⟩
theorem k_lowest : chkB ⟨["numerator", "denominator"], defScope st_lowest, none, [("require_integer", 1), ("is_integer", 1), ("lowest_of", 2)], gints, xcs, xsub⟩ b_lowest (defBody st_lowest) = true := by decide +kernel
theorem bd_lowest : Bnd "lowest" st_lowest ["numerator", "denominator"] := fun _ _ _ _ _ _ us hl => match us, hl with | [_, _], _ => rfl
theorem c_lowest (A : AlH w K mg h base) : Callee PySem.Challenge.pw_huebill_k00_integers_names_and_fractions w K mg base 3 "lowest" 2 F_lowest := callee_D A 16 rfl (by decide +kernel) sc_lowest bd_lowest (show Cals PySem.Challenge.pw_huebill_k00_integers_names_and_fractions w K mg base 2 [("require_integer", 1), ("is_integer", 1), ("lowest_of", 2)] _ from ⟨⟨2, by decide, c_require_integer A⟩, ⟨⟨1, by decide, c_is_integer A⟩, ⟨⟨2, by decide, c_lowest_of A⟩, trivial⟩⟩⟩) k_lowest
theorem sc_law_lowest_told : FnScope ["_law_one", "_law_other", "e"] ["_law_one", "_law_other"] (defScope st_law_lowest_told) := ⟨rfl, rfl, rfl, by decide +kernel, rfl, by decide +kernel, by decide +kernel⟩
theorem k_law_lowest_told : chkB ⟨["_law_one", "_law_other", "e"], defScope st_law_lowest_told, none, [("lowest", 2)], gints, xcs, xsub⟩ b_law_lowest_told (defBody st_law_lowest_told) = true := by decide +kernel
theorem bd_law_lowest_told : Bnd "_law_lowest_told" st_law_lowest_told ["_law_one", "_law_other"] := fun _ _ _ _ _ _ us hl => match us, hl with | [_, _], _ => rfl
theorem c_law_lowest_told (A : AlH w K mg h base) : Callee PySem.Challenge.pw_huebill_k00_integers_names_and_fractions w K mg base 4 "_law_lowest_told" 2 F_law_lowest_told := callee_D A 17 rfl (by decide +kernel) sc_law_lowest_told bd_law_lowest_told (show Cals PySem.Challenge.pw_huebill_k00_integers_names_and_fractions w K mg base 3 [("lowest", 2)] _ from ⟨⟨3, by decide, c_lowest A⟩, trivial⟩) k_law_lowest_told
theorem sc_law_lowest_due : FnScope ["_law_one", "_law_other", "_law_shared_here", "_law_top", "_law_bottom"] ["_law_one", "_law_other"] (defScope st_law_lowest_due) := ⟨rfl, rfl, rfl, by decide +kernel, rfl, by decide +kernel, by decide +kernel⟩
theorem k_law_lowest_due : chkB ⟨["_law_one", "_law_other", "_law_shared_here", "_law_top", "_law_bottom"], defScope st_law_lowest_due, none, [("_law_is_whole", 1), ("_law_shared", 2)], gints, xcs, xsub⟩ b_law_lowest_due (defBody st_law_lowest_due) = true := by decide +kernel
theorem bd_law_lowest_due : Bnd "_law_lowest_due" st_law_lowest_due ["_law_one", "_law_other"] := fun _ _ _ _ _ _ us hl => match us, hl with | [_, _], _ => rfl
theorem c_law_lowest_due (A : AlH w K mg h base) : Callee PySem.Challenge.pw_huebill_k00_integers_names_and_fractions w K mg base 2 "_law_lowest_due" 2 F_law_lowest_due := callee_D A 18 rfl (by decide +kernel) sc_law_lowest_due bd_law_lowest_due (show Cals PySem.Challenge.pw_huebill_k00_integers_names_and_fractions w K mg base 1 [("_law_is_whole", 1), ("_law_shared", 2)] _ from ⟨⟨1, by decide, c_law_is_whole A⟩, ⟨⟨1, by decide, c_law_shared A⟩, trivial⟩⟩) k_law_lowest_due
theorem sc_law : FnScope ["_law_script", "_law_at", "_law_told", "_law_pot_here", "_law_near", "_law_value", "_law_pairs", "_law_one", "_law_other", "_law_shared_here", "_law_odd", "_law_small", "_law_few", "_law_top", "_law_bottom"] ["_law_script"] (defScope st_law) := ⟨rfl, rfl, rfl, by decide +kernel, rfl, by decide +kernel, by decide +kernel⟩
theorem k_law : chkB ⟨["_law_script", "_law_at", "_law_told", "_law_pot_here", "_law_near", "_law_value", "_law_pairs", "_law_one", "_law_other", "_law_shared_here", "_law_odd", "_law_small", "_law_few", "_law_top", "_law_bottom"], defScope st_law, none, [("_law_pot", 2), ("_law_near_values", 1), ("is_fraction", 1), ("is_name", 1), ("is_integer", 1), ("_law_is_quotient", 1), ("_law_is_word", 1), ("_law_is_whole", 1), ("_law_whole", 1), ("_law_stir", 2), ("_law_one_of", 2), ("_law_lowest_told", 2), ("_law_lowest_due", 2), ("lowest", 2)], gints, xcs, xsub⟩ b_law (defBody st_law) = true := by decide +kernel
theorem bd_law : Bnd "law" st_law ["_law_script"] := fun _ _ _ _ _ _ us hl => match us, hl with | [_], _ => rfl
theorem cs_law (A : AlH w K mg h base) : Cals PySem.Challenge.pw_huebill_k00_integers_names_and_fractions w K mg base 4 [("_law_pot", 2), ("_law_near_values", 1), ("is_fraction", 1), ("is_name", 1), ("is_integer", 1), ("_law_is_quotient", 1), ("_law_is_word", 1), ("_law_is_whole", 1), ("_law_whole", 1), ("_law_stir", 2), ("_law_one_of", 2), ("_law_lowest_told", 2), ("_law_lowest_due", 2), ("lowest", 2)] [F_law_pot, F_law_near_values, F_is_fraction, F_is_name, F_is_integer, F_law_is_quotient, F_law_is_word, F_law_is_whole, F_law_whole, F_law_stir, F_law_one_of, F_law_lowest_told, F_law_lowest_due, F_lowest] := ⟨⟨1, by decide, c_law_pot A⟩, ⟨⟨4, by decide, c_law_near_values A⟩, ⟨⟨2, by decide, c_is_fraction A⟩, ⟨⟨1, by decide, c_is_name A⟩, ⟨⟨1, by decide, c_is_integer A⟩, ⟨⟨2, by decide, c_law_is_quotient A⟩, ⟨⟨1, by decide, c_law_is_word A⟩, ⟨⟨1, by decide, c_law_is_whole A⟩, ⟨⟨2, by decide, c_law_whole A⟩, ⟨⟨1, by decide, c_law_stir A⟩, ⟨⟨2, by decide, c_law_one_of A⟩, ⟨⟨4, by decide, c_law_lowest_told A⟩, ⟨⟨2, by decide, c_law_lowest_due A⟩, ⟨⟨3, by decide, c_lowest A⟩, trivial⟩⟩⟩⟩⟩⟩⟩⟩⟩⟩⟩⟩⟩⟩
end
end K00
namespace K00
open PySem HB
theorem gcd_step (a b : Int) (hb : b ≠ 0) : (a.fmod b).natAbs < b.natAbs ∧ Int.gcd b (a.fmod b) = Int.gcd a b := by
  constructor
  · have h1 := Int.emod_nonneg a hb
    have h2 := Int.emod_lt a hb
    rw [Int.fmod_eq_emod]
    split
    · omega
    · rename_i h
      have h3 : ¬ (b ∣ a) := fun z => h (.inr z)
      have h4 : a % b ≠ 0 := fun z => h3 (Int.dvd_of_emod_eq_zero z)
      omega
  · have e : a.fmod b = a - b * a.fdiv b := Int.fmod_def a b
    rw [e, Int.gcd_sub_mul_left_right, Int.gcd_comm]
/-- the loop of divisor_of -/
theorem div_loop (m : M) : ∀ (n : Nat) (a b : Int), b.natAbs < n → ∃ g : Int, g.natAbs = Int.gcd a b ∧
    whGo (evT [] (.cmp .ne (.var 1) (.int 0))) (evS [] (.cons (.par 0 1 (.var 1) (.bin .mod (.var 0) (.var 1))) .nil)) n [some (.int a), some (.int b)] m = .nx [some (.int g), some (.int 0)] m := by
  intro n
  induction n with
  | zero => intro a b h; omega
  | succ n ih =>
    intro a b h
    unfold whGo
    by_cases hb : b = 0
    · subst hb
      refine ⟨a, by simp [Int.gcd], ?_⟩
      simp [evT, evE, copD, neD, eqB, notR, blR, R.bind, R.st, truthB]
    · obtain ⟨h1, h2⟩ := gcd_step a b hb
      obtain ⟨g, hg, e⟩ := ih b (a.fmod b) (by omega)
      refine ⟨g, by rw [hg, h2], ?_⟩
      simp only [evT, evE, evS, copD, neD, eqB, notR, blR, R.bind, R.st, truthB, bopD, modD, List.getElem?_cons_zero, List.getElem?_cons_succ, hb, decide_false, Bool.not_false, if_true, ne_eq, not_false_eq_true, List.set_cons_zero, List.set_cons_succ] at e ⊢
      exact e
theorem r_divisor_of {a b : Int} {m : M} (h : b.natAbs < 10 ^ 60 + 1) : F_divisor_of [.int a, .int b] m = .ok (.int (Int.gcd a b)) m := by
  obtain ⟨g, hg, e⟩ := div_loop m (10 ^ 60 + 1) a b h
  have e2 : evS [] b_divisor_of [some (.int a), some (.int b)] m = .rt (.int (Int.gcd a b)) m := by
    unfold b_divisor_of
    rw [evS, evS, e]
    simp only [evS, evE, evA, bfD, absD, R.bind, R.st, List.getElem?_cons_zero]
    congr 2
    split <;> omega
  unfold F_divisor_of runB
  simp only [List.map_cons, List.map_nil, List.length_cons, List.length_nil, Nat.reduceAdd, Nat.reduceSub, List.replicate_zero, List.append_nil]
  rw [e2]
/-- the loop of _law_shared -/
theorem sh_loop (m : M) (x y : D) : ∀ (n : Nat) (a b : Int), 0 ≤ a → 0 ≤ b → b.natAbs < n →
    whGo (evT [] (.cmp .gt (.var 3) (.int 0))) (evS [] (.cons (.par 2 3 (.var 3) (.bin .mod (.blt .int (.cons (.var 2) .nil)) (.var 3))) .nil)) n [some x, some y, some (.int a), some (.int b)] m = .nx [some x, some y, some (.int (Int.gcd a b)), some (.int 0)] m := by
  intro n
  induction n with
  | zero => intro a b _ _ h; omega
  | succ n ih =>
    intro a b ha h0 h
    unfold whGo
    by_cases hb : b = 0
    · subst hb
      simp only [evT, evE, copD, gtD, ltD, R.bind, R.st, truthB, List.getElem?_cons_zero, List.getElem?_cons_succ]
      simp [Int.gcd]
      omega
    · obtain ⟨h1, h2⟩ := gcd_step a b hb
      have h3 : 0 ≤ a.fmod b := Int.fmod_nonneg_of_pos a (by omega)
      have e := ih b (a.fmod b) h0 h3 (by omega)
      have h4 : (0 : Int) < b := by omega
      simp only [evT, evE, evA, evS, copD, gtD, ltD, R.bind, R.st, truthB, bopD, modD, bfD, intD, List.getElem?_cons_zero, List.getElem?_cons_succ, h4, hb, decide_true, if_true, ne_eq, not_false_eq_true, List.set_cons_zero, List.set_cons_succ] at e ⊢
      rw [e, h2]
theorem gcd_abs (a b : Int) : Int.gcd (if a < 0 then -a else a) (if b < 0 then -b else b) = Int.gcd a b := by
  split <;> split <;> simp [Int.gcd]
theorem r_law_shared {a b : Int} {m : M} (h : b.natAbs < 10 ^ 60 + 1) : F_law_shared [.int a, .int b] m = .ok (.int (Int.gcd a b)) m := by
  have e := sh_loop m (.int a) (.int b) (10 ^ 60 + 1) (if a < 0 then -a else a) (if b < 0 then -b else b) (by split <;> omega) (by split <;> omega) (by split <;> omega)
  rw [gcd_abs] at e
  have e2 : evS [] b_law_shared [some (.int a), some (.int b), none, none] m = .rt (.int (Int.gcd a b)) m := by
    unfold b_law_shared
    rw [evS]
    have e3 : evS [] (.par 2 3 (.blt .abs (.cons (.var 0) .nil)) (.blt .abs (.cons (.var 1) .nil))) [some (.int a), some (.int b), none, none] m = .nx [some (.int a), some (.int b), some (.int (if a < 0 then -a else a)), some (.int (if b < 0 then -b else b))] m := by
      simp only [evS, evE, evA, bfD, absD, R.bind, R.st, List.getElem?_cons_zero, List.getElem?_cons_succ, List.set_cons_zero, List.set_cons_succ]
    rw [e3]
    dsimp only
    rw [evS, evS, e]
    simp only [evS, evE, R.st, List.getElem?_cons_zero, List.getElem?_cons_succ]
  unfold F_law_shared runB
  simp only [List.map_cons, List.map_nil, List.length_cons, List.length_nil, Nat.reduceAdd, Nat.reduceSub, List.replicate, List.cons_append, List.nil_append]
  rw [e2]
end K00
namespace K00
open PySem HB
/-! ### the judges -/
def isIntD : D → Bool
  | .int i => decide (i.natAbs < 10 ^ 60)
  | _ => false
theorem isi_int {d : D} {m : M} (h : plainD d = true) : isiD d "int" m = .ok (.bl (isiB (tyP d) "int")) m := isi_plain h (by decide)
theorem isi_bool {d : D} {m : M} (h : plainD d = true) : isiD d "bool" m = .ok (.bl (isiB (tyP d) "bool")) m := isi_plain h (by decide)
theorem isi_str {d : D} {m : M} (h : plainD d = true) : isiD d "str" m = .ok (.bl (isiB (tyP d) "str")) m := isi_plain h (by decide)
theorem isi_tuple {d : D} {m : M} (h : plainD d = true) : isiD d "tuple" m = .ok (.bl (isiB (tyP d) "tuple")) m := isi_plain h (by decide)
theorem r_is_integer {d : D} {m : M} (h : plainD d = true) : F_is_integer [d] m = .ok (.bl (isIntD d)) m := by
  have e1 := isi_int (m := m) h
  have e2 := isi_bool (m := m) h
  have e3 : evS [] b_is_integer [some d] m = .rt (.bl (isIntD d)) m := by
    unfold b_is_integer
    simp only [evS, evE, R.bind, R.st, List.getElem?_cons_zero, e1, e2, truthB]
    cases d <;> first | (simp [plainD] at h; done) | (simp [tyP, isiB, isIntD]; done) | skip
    rename_i i
    simp only [tyP, isiB, isIntD, copD, leD, R.bind, truthB]
    by_cases c1 : -(999999999999999999999999999999999999999999999999999999999999 : Int) ≤ i
    · by_cases c2 : i ≤ 999999999999999999999999999999999999999999999999999999999999
      · have c3 : i.natAbs < 10 ^ 60 := by omega
        simp [c1, c2, c3]
      · have c3 : ¬ i.natAbs < 10 ^ 60 := by omega
        simp [c1, c2, c3]
    · have c3 : ¬ i.natAbs < 10 ^ 60 := by omega
      simp [c1, c3]
  unfold F_is_integer runB
  simp only [List.map_cons, List.map_nil, List.length_cons, List.length_nil, Nat.reduceAdd, Nat.reduceSub, List.replicate_zero, List.append_nil]
  rw [e3]
theorem pow60 (m : M) : powD (.int 10) (.int 60) m = .ok (.int (10 ^ 60)) m := by
  simp only [powD]
  rw [if_pos (by decide +kernel)]
  rfl
theorem r_law_is_whole {d : D} {m : M} (h : plainD d = true) : F_law_is_whole [d] m = .ok (.bl (isIntD d)) m := by
  have e1 := isi_int (m := m) h
  have e2 := isi_bool (m := m) h
  have e3 : evS [] b_law_is_whole [some d] m = .rt (.bl (isIntD d)) m := by
    unfold b_law_is_whole
    simp only [evS, evE, evA, R.bind, R.st, List.getElem?_cons_zero, e1, e2, truthB]
    cases d <;> first | (simp [plainD] at h; done) | (simp [tyP, isiB, isIntD]; done) | skip
    rename_i i
    simp only [tyP, isiB, isIntD, copD, ltD, bfD, absD, bopD, pow60, R.bind, truthB]
    have c : (decide ((if i < 0 then -i else i) < (10 : Int) ^ 60)) = decide (i.natAbs < 10 ^ 60) := by rw [decide_eq_decide]; split <;> omega
    rw [c]
    rfl
  unfold F_law_is_whole runB
  simp only [List.map_cons, List.map_nil, List.length_cons, List.length_nil, Nat.reduceAdd, Nat.reduceSub, List.replicate_zero, List.append_nil]
  rw [e3]
/-! ### names -/
def signs (x : Str) : List D := x.cps.toList.map fun c => D.str ⟨#[c]⟩
def lowB (c : Nat) : Bool := decide (97 ≤ c ∧ c ≤ 122)
theorem one_lt {a b : Nat} : ([a] : List Nat) < [b] ↔ a < b := by
  constructor
  · intro h
    cases h with
    | rel h => exact h
    | cons h => cases h
  · exact fun h => .rel h
theorem le_a (c : Nat) (m : M) : leD (.str "a") (.str ⟨#[c]⟩) m = .ok (.bl (decide (97 ≤ c))) m := by
  have e : (decide ((#[c] : Array Nat).toList < (Str.ofString "a").cps.toList)) = decide (c < 97) := by
    have : (Str.ofString "a").cps.toList = [97] := by decide
    rw [this, decide_eq_decide]
    exact one_lt
  simp only [leD, e]
  congr 2
  by_cases h : c < 97
  · have : ¬ 97 ≤ c := by omega
    simp [h, this]
  · have : 97 ≤ c := by omega
    simp [h, this]
theorem le_z (c : Nat) (m : M) : leD (.str ⟨#[c]⟩) (.str "z") m = .ok (.bl (decide (c ≤ 122))) m := by
  have e : (decide ((Str.ofString "z").cps.toList < (#[c] : Array Nat).toList)) = decide (122 < c) := by
    have : (Str.ofString "z").cps.toList = [122] := by decide
    rw [this, decide_eq_decide]
    exact one_lt
  simp only [leD, e]
  congr 2
  by_cases h : 122 < c
  · have : ¬ c ≤ 122 := by omega
    simp [h, this]
  · have : c ≤ 122 := by omega
    simp [h, this]
theorem chain_low (c : Nat) (env : HB.Env) (i : Nat) (m : M) (h : env[i]? = some (some (.str ⟨#[c]⟩))) : evE [] (.chain .le .le (.str "a") (.var i) (.str "z")) env m = .ok (.bl (lowB c)) m := by
  simp only [evE, h, R.bind, copD, le_a]
  by_cases h1 : 97 ≤ c
  · simp only [h1, decide_true]
    rw [le_z]
    congr 2
    simp [lowB, h1]
  · simp [lowB, h1]
def isNameD : D → Bool
  | .str x => decide (1 ≤ x.length ∧ x.length ≤ 8) && x.cps.toList.all lowB
  | _ => false
theorem asBls_map : ∀ (cs : List Nat), asBls (cs.map fun c => D.bl (lowB c)) = some (cs.map lowB)
  | [] => rfl
  | c :: cs => by simp [asBls, asBls_map cs]
theorem len_str {x : Str} {m : M} (h : x.length ≤ 100) : lenD [.str x] m = .ok (.int x.length) m := by
  have hs : x.length ≤ sizeLine := by rw [sizeLine_eq]; omega
  simp [lenD, hs]
theorem len_chain {fs : List Sem} {env : HB.Env} {m : M} {x : Str} {t : T} (h0 : env[0]? = some (some (.str x))) (ht : evE fs t env m = .ok (.int 8) m) (h : x.length ≤ 100) : evE fs (.chain .le .le (.int 1) (.blt .len (.cons (.var 0) .nil)) t) env m = .ok (.bl (decide (1 ≤ x.length ∧ x.length ≤ 8))) m := by
  have e := ev_chain (fs := fs) (env := env) (m := m) (m1 := m) (m2 := m) (m3 := m) (o := .le) (p := .le) (a := .int 1) (b := .blt .len (.cons (.var 0) .nil)) (c := t) (d := .int 1) (e := .int x.length) (g := .int 8) (x := decide ((1 : Int) ≤ x.length)) (y := decide ((x.length : Int) ≤ 8))
    (by simp only [evE]) (ev_blt (ev_cons (ev_var h0) ev_nil) (len_str h)) rfl (fun _ => ⟨ht, rfl, rfl⟩)
  rw [e]
  congr 2
  rw [← Bool.decide_and, decide_eq_decide]
  omega
theorem r_is_name {d : D} {m : M} (h : plainD d = true) (hl : ∀ x, d = .str x → x.length ≤ 100) : F_is_name [d] m = .ok (.bl (isNameD d)) m := by
  have e3 : evS [] b_is_name [some d, none] m = .rt (.bl (isNameD d)) m := by
    unfold b_is_name
    have q1 : evE [] (.isi (.var 0) "str") [some d, none] m = .ok (.bl (isiB (tyP d) "str")) m := ev_isi (ev_var rfl) h
    cases d with
    | str x =>
      have hx := hl x rfl
      have hs : x.length ≤ sizeLine := by rw [sizeLine_eq]; omega
      refine st_ret ?_
      have q2 := len_chain (fs := []) (env := [some (.str x), none]) (m := m) (x := x) (t := .gint "MAX_NAME" 8) rfl (by simp only [evE]) hx
      have q3 : evE [] (.blt .all (.cons (.lc [("sign", 1)] (.name 1) (.var 0) .noP (.chain .le .le (.str "a") (.var 1) (.str "z"))) .nil)) [some (.str x), none] m = .ok (.bl (x.cps.toList.all lowB)) m := by
        have hz : (List.map (fun c => D.str ⟨#[c]⟩) x.cps.toList).length ≤ sizeLine := by
          rw [List.length_map, Array.length_toList]; exact hs
        refine ev_blt (ds := [.lst (x.cps.toList.map fun c => .bl (lowB c))]) (m1 := m) (ev_cons (ev_lc (ev_var rfl) rfl (by rw [List.length_map, Array.length_toList]; exact Nat.le_trans hx (by decide)) ?_) ev_nil) ?_
        · rw [lc_map (f := fun d => match d with
            | .str y => .bl (lowB (y.cps.toList.headD 0))
            | d => d)]
          · simp [List.map_map, Function.comp_def]
          · intro y hy
            obtain ⟨c, _, rfl⟩ := List.mem_map.mp hy
            simp only [lcSt, asgG, isNoP, if_true, R.bind_ok]
            rw [chain_low c _ 1 m rfl, R.bind_ok]
            simp
        · simp only [bfD, allD, viewS, viewL, Option.bind_some, asBls_map]
          simp
      have q4 := ev_and q1 fun _ => ev_and q2 fun _ => q3
      rw [q4]
      rfl
    | obj _ _ => simp [plainD] at h
    | ref _ => simp [plainD] at h
    | scr _ => simp [plainD] at h
    | _ =>
      refine st_ret ?_
      rw [ev_and (y := false) q1 fun z => by simp [isiB, tyP] at z]
      simp [isNameD]
  unfold F_is_name runB
  simp only [List.map_cons, List.map_nil, List.length_cons, List.length_nil, Nat.reduceAdd, Nat.reduceSub, List.replicate, List.cons_append, List.nil_append]
  rw [e3]
end K00
namespace K00
open PySem HB L2
theorem small_str {n : Nat} {x : Str} (h : small n (.str x) = true) : x.length ≤ 100 ∧ ∀ c ∈ x.cps.toList, c < 0x110000 := by
  have h2 : strB x = true := by cases n <;> simpa [small] using h
  simpa only [strB, Bool.and_eq_true, decide_eq_true_eq, List.all_eq_true] using h2
theorem small_tup {n : Nat} {ds : List D} (h : small n (.tup ds) = true) : ds.length ≤ 4 ∧ ∀ d ∈ ds, ∃ k, small k d = true := by
  cases n with
  | zero => simp [small] at h
  | succ n =>
    simp only [small, Bool.and_eq_true, decide_eq_true_eq, List.all_eq_true] at h
    exact ⟨h.1, fun d hd => ⟨n, h.2 d hd⟩⟩
/-! ### words, the law's own -/
theorem pyL_strs : ∀ (cs : List Nat), pyL (cs.map fun c => D.str ⟨#[c]⟩) = some (cs.map fun c => PyData.str ⟨#[c]⟩)
  | [] => rfl
  | c :: cs => by simp [pyL, py, pyL_strs cs]
theorem lay_strs : ∀ (cs : List Nat), (∀ c ∈ cs, c < 0x110000) → PyData.canLayAll0 (cs.map fun c => PyData.str ⟨#[c]⟩) = true ∧ PyData.depthAll (cs.map fun c => PyData.str ⟨#[c]⟩) = 0
  | [], _ => ⟨rfl, rfl⟩
  | c :: cs, h => by
    obtain ⟨a, b⟩ := lay_strs cs fun x hx => h x (List.mem_cons_of_mem _ hx)
    refine ⟨?_, ?_⟩
    · simp only [List.map_cons, PyData.canLayAll0, a, Bool.and_true, PyData.canLay0]
      have := h c List.mem_cons_self
      simp [PyData.strOk, this]
    · simp only [List.map_cons, PyData.depthAll, b, PyData.depth]; rfl
theorem eq_nil (cs : List Nat) (m : M) (h : ∀ c ∈ cs, c < 0x110000) : eqD (.lst (cs.map fun c => D.str ⟨#[c]⟩)) (.lst []) m = .ok (.bl cs.isEmpty) m := by
  obtain ⟨a, b⟩ := lay_strs cs h
  have s1 : SeqAt.shaped (.list (cs.map fun c => PyData.str ⟨#[c]⟩)) = true := by
    simp only [SeqAt.shaped, PyData.canLay0, a, PyData.depth, b]; rfl
  have s2 : SeqAt.shaped (.list []) = true := by decide
  simp only [eqD, eqB, pyT, py, pyL_strs, Option.map_some, pyL]
  rw [if_pos ⟨s1, s2⟩]
  cases cs <;> rfl
theorem filt_empty (cs : List Nat) : (cs.filter fun c => !lowB c).isEmpty = cs.all lowB := by
  induction cs with
  | nil => rfl
  | cons c cs ih =>
    cases h : lowB c with
    | true => simp [h, ← ih]
    | false => simp [h]
theorem r_law_is_word {d : D} {m : M} {n : Nat} (h : small n d = true) : F_law_is_word [d] m = .ok (.bl (isNameD d)) m := by
  have hp := small_plain h
  have e3 : evS [] b_law_is_word [some d, none] m = .rt (.bl (isNameD d)) m := by
    unfold b_law_is_word
    have q1 : evE [] (.isi (.var 0) "str") [some d, none] m = .ok (.bl (isiB (tyP d) "str")) m := ev_isi (ev_var rfl) hp
    cases d with
    | str x =>
      obtain ⟨hx, hc⟩ := small_str h
      have q2 := len_chain (fs := []) (env := [some (.str x), none]) (m := m) (x := x) (t := .int 8) rfl (by simp only [evE]) hx
      have q3 := ev_or (ev_not q1) fun _ => ev_not q2
      by_cases c : 1 ≤ x.length ∧ x.length ≤ 8
      · rw [st_ifF q3 (by simp [isiB, tyP, c])]
        refine st_ret ?_
        refine ev_cmp (d := .lst ((x.cps.toList.filter fun c => !lowB c).map fun c => D.str ⟨#[c]⟩)) (m1 := m) (m2 := m) (e := .lst []) (ev_lc (ev_var rfl) rfl (by rw [List.length_map, Array.length_toList]; exact Nat.le_trans hx (by decide)) ?_) (ev_lst ev_nil (by simp)) ?_
        · rw [lc_filter (p := fun d => match d with
            | .str y => !lowB (y.cps.toList.headD 0)
            | d => true)]
          · simp [List.filter_map, Function.comp_def]
          · intro y hy
            obtain ⟨c, _, rfl⟩ := List.mem_map.mp hy
            simp only [lcSt, asgG, isNoP, Bool.false_eq_true, if_false]
            rw [ev_not (chain_low c _ 1 m rfl), R.bind_ok, truth_bl, R.bind_ok]
            cases hb : lowB c with
            | true => simp [hb]
            | false => simp [hb, evE, wipeD, R.bind]
        · simp only [copD]
          rw [eq_nil _ _ (fun c hc' => hc c (List.mem_filter.mp hc').1), filt_empty]
          simp [isNameD, c]
      · rw [st_ifT q3 (by simp only [isiB, tyP, c, decide_false]; rfl) (st_ret ev_bl)]
        simp [isNameD, c]
    | obj _ _ => simp [plainD] at hp
    | ref _ => simp [plainD] at hp
    | scr _ => simp [plainD] at hp
    | _ =>
      have q3 := ev_or (y := false) (b := (.not (.chain .le .le (.int 1) (.blt .len (.cons (.var 0) .nil)) (.int 8)))) (ev_not q1) fun z => by simp [isiB, tyP] at z
      rw [st_ifT q3 (by simp [isiB, tyP]) (st_ret ev_bl)]
      simp [isNameD]
  unfold F_law_is_word runB
  simp only [List.map_cons, List.map_nil, List.length_cons, List.length_nil, Nat.reduceAdd, Nat.reduceSub, List.replicate, List.cons_append, List.nil_append]
  rw [e3]
/-! ### fractions -/
def isFrD : D → Bool
  | .tup [.int a, .int b] => decide (a.natAbs < 10 ^ 60) && decide (b.natAbs < 10 ^ 60) && (decide (0 < b) && decide (Int.gcd a b = 1))
  | _ => false
theorem ix_tup2 {a b : D} {m : M} : ixD (.tup [a, b]) (.int 0) m = .ok a m ∧ ixD (.tup [a, b]) (.int 1) m = .ok b m := by
  constructor <;> rfl
theorem frac_body {fs : List Sem} {sI sG : Sem} {t : T} {m : M} {n : Nat} {d : D} (h0 : fs[0]? = some sI) (h1 : fs[1]? = some sG) (hI : ∀ {d : D} {m : M}, plainD d = true → sI [d] m = .ok (.bl (isIntD d)) m)
    (hG : ∀ {a b : Int} {m : M}, b.natAbs < 10 ^ 60 + 1 → sG [.int a, .int b] m = .ok (.int (Int.gcd a b)) m) (ht : ∀ a b : Int, evE fs t [some (.tup [.int a, .int b])] m = .ok (.bl (decide (0 < b))) m) (h : small n d = true) :
    evS fs (.cons (.ife (.or (.not (.isi (.var 0) "tuple")) (.or (.cmp .ne (.blt .len (.cons (.var 0) .nil)) (.int 2)) (.or (.not (.call 0 (.cons (.ix (.var 0) (.int 0)) .nil))) (.not (.call 0 (.cons (.ix (.var 0) (.int 1)) .nil)))))) (.cons (.ret (.bl false)) .nil) .nil)
      (.cons (.ret (.and t (.cmp .eq (.call 1 (.cons (.ix (.var 0) (.int 0)) (.cons (.ix (.var 0) (.int 1)) .nil))) (.int 1)))) .nil)) [some d] m = .rt (.bl (isFrD d)) m := by
  have hp := small_plain h
  have q1 : evE fs (.isi (.var 0) "tuple") [some d] m = .ok (.bl (isiB (tyP d) "tuple")) m := ev_isi (ev_var rfl) hp
  cases d with
  | tup ds =>
    obtain ⟨hl, hs⟩ := small_tup h
    have q2 : evE fs (.cmp .ne (.blt .len (.cons (.var 0) .nil)) (.int 2)) [some (.tup ds)] m = .ok (.bl (!decide ((ds.length : Int) = 2))) m := by
      refine ev_cmp (ev_blt (ev_cons (ev_var rfl) ev_nil) rfl) ev_int ?_
      simp [copD, neD, eqB, notR, blR]
    by_cases h2 : ds.length = 2
    · match ds, h2 with
      | [a, b], _ =>
        obtain ⟨k1, s1⟩ := hs a (by simp)
        obtain ⟨k2, s2⟩ := hs b (by simp)
        have c1 : evE fs (.call 0 (.cons (.ix (.var 0) (.int 0)) .nil)) [some (.tup [a, b])] m = .ok (.bl (isIntD a)) m :=
          ev_call (ev_cons (ev_ix (ev_var rfl) ev_int ix_tup2.1) ev_nil) h0 (call_pure (by simp [norefL, small_noref k1 a s1]) (hI (small_plain s1)) rfl)
        have c2 : evE fs (.call 0 (.cons (.ix (.var 0) (.int 1)) .nil)) [some (.tup [a, b])] m = .ok (.bl (isIntD b)) m :=
          ev_call (ev_cons (ev_ix (ev_var rfl) ev_int ix_tup2.2) ev_nil) h0 (call_pure (by simp [norefL, small_noref k2 b s2]) (hI (small_plain s2)) rfl)
        have q3 := ev_or (ev_not q1) fun _ => ev_or q2 fun _ => ev_or (ev_not c1) fun _ => ev_not c2
        cases ia : isIntD a with
        | false =>
          rw [st_ifT q3 (by simp [ia]) (st_ret ev_bl)]
          congr 2
          cases a <;> first | rfl | skip
          rename_i z
          simp only [isIntD, decide_eq_false_iff_not] at ia
          cases b <;> simp [isFrD, ia]
        | true =>
          cases ib : isIntD b with
          | false =>
            rw [st_ifT q3 (by simp [ib]) (st_ret ev_bl)]
            congr 2
            cases a <;> first | rfl | skip
            cases b <;> first | rfl | skip
            rename_i z y _
            simp only [isIntD, decide_eq_false_iff_not] at ib
            simp [isFrD, ib]
          | true =>
            rw [st_ifF q3 (by simp [ia, ib, isiB, tyP])]
            cases a <;> first | (simp [isIntD] at ia; done) | skip
            cases b <;> first | (simp [isIntD] at ib; done) | skip
            rename_i z y _
            simp only [isIntD, decide_eq_true_eq] at ia ib
            refine st_ret ?_
            have c3 : evE fs (.cmp .eq (.call 1 (.cons (.ix (.var 0) (.int 0)) (.cons (.ix (.var 0) (.int 1)) .nil))) (.int 1)) [some (.tup [.int z, .int y])] m = .ok (.bl (decide (((Int.gcd z y : Nat) : Int) = 1))) m := by
              refine ev_cmp (ev_call (ev_cons (ev_ix (ev_var rfl) ev_int ix_tup2.1) (ev_cons (ev_ix (ev_var rfl) ev_int ix_tup2.2) ev_nil)) h1 (call_pure (by simp [norefL, noref]) (hG (by omega)) rfl)) ev_int ?_
              simp [copD, eqD, eqB, blR]
            rw [ev_and (ht z y) fun _ => c3]
            congr 2
            simp only [isFrD, ia, ib, decide_true, Bool.true_and]
            congr 1
            rw [decide_eq_decide]
            omega
    · have q3 := ev_or (ev_not q1) fun _ => ev_or (y := false) (b := (.or (.not (.call 0 (.cons (.ix (.var 0) (.int 0)) .nil))) (.not (.call 0 (.cons (.ix (.var 0) (.int 1)) .nil))))) q2 fun z => by
        exfalso
        simp at z
        omega
      have h3 : ¬ ((ds.length : Int) = 2) := by omega
      rw [st_ifT q3 (by simp [h3]) (st_ret ev_bl)]
      congr 2
      match ds, h2 with
      | [], _ => rfl
      | [a], _ => cases a <;> rfl
      | [a, b], h2 => simp at h2
      | a :: b :: c :: r, _ => cases a <;> first | rfl | (cases b <;> rfl)
  | obj _ _ => simp [plainD] at hp
  | ref _ => simp [plainD] at hp
  | scr _ => simp [plainD] at hp
  | _ =>
    have q3 := ev_or (y := false) (b := (.or (.cmp .ne (.blt .len (.cons (.var 0) .nil)) (.int 2)) (.or (.not (.call 0 (.cons (.ix (.var 0) (.int 0)) .nil))) (.not (.call 0 (.cons (.ix (.var 0) (.int 1)) .nil)))))) (ev_not q1) fun z => by simp [isiB, tyP] at z
    rw [st_ifT q3 (by simp [isiB, tyP]) (st_ret ev_bl)]
    simp [isFrD]
theorem r_is_fraction {d : D} {m : M} {n : Nat} (h : small n d = true) : F_is_fraction [d] m = .ok (.bl (isFrD d)) m := by
  have e3 : evS [F_is_integer, F_divisor_of] b_is_fraction [some d] m = .rt (.bl (isFrD d)) m := by
    unfold b_is_fraction
    refine frac_body rfl rfl r_is_integer r_divisor_of (fun a b => ?_) h
    refine ev_cmp (ev_ix (ev_var rfl) ev_int ix_tup2.2) ev_int ?_
    simp only [copD, geD, leD]
    congr 3
  unfold F_is_fraction runB
  simp only [List.map_cons, List.map_nil, List.length_cons, List.length_nil, Nat.reduceAdd, Nat.reduceSub, List.replicate, List.cons_append, List.nil_append]
  rw [e3]
theorem r_law_is_quotient {d : D} {m : M} {n : Nat} (h : small n d = true) : F_law_is_quotient [d] m = .ok (.bl (isFrD d)) m := by
  have e3 : evS [F_law_is_whole, F_law_shared] b_law_is_quotient [some d] m = .rt (.bl (isFrD d)) m := by
    unfold b_law_is_quotient
    refine frac_body rfl rfl r_law_is_whole r_law_shared (fun a b => ?_) h
    exact ev_cmp (ev_ix (ev_var rfl) ev_int ix_tup2.2) ev_int rfl
  unfold F_law_is_quotient runB
  simp only [List.map_cons, List.map_nil, List.length_cons, List.length_nil, Nat.reduceAdd, Nat.reduceSub, List.replicate, List.cons_append, List.nil_append]
  rw [e3]
end K00
namespace K00
open PySem HB L2
/-! ### the fraction of two integers -/
def sgG (a b : Int) : Int := if b < 0 then -((Int.gcd a b : Nat) : Int) else ((Int.gcd a b : Nat) : Int)
def lowT (a b : Int) : D := .tup [.int (a.fdiv (sgG a b)), .int (b.fdiv (sgG a b))]
theorem gcd_pos {a b : Int} (h : b ≠ 0) : 0 < Int.gcd a b := Int.gcd_pos_of_ne_zero_right a h
theorem gcd_le {a b : Int} (h : b ≠ 0) : Int.gcd a b ≤ b.natAbs := Nat.le_of_dvd (by omega) (Int.gcd_dvd_natAbs_right a b)
theorem low_parts {a b : Int} (h : b ≠ 0) : ∃ x y : Int, a = (Int.gcd a b : Int) * x ∧ b = (Int.gcd a b : Int) * y ∧ Int.gcd x y = 1 := by
  have hg := gcd_pos (a := a) h
  obtain ⟨x, hx⟩ := Int.gcd_dvd_left a b
  obtain ⟨y, hy⟩ := Int.gcd_dvd_right a b
  refine ⟨x, y, hx, hy, ?_⟩
  have e0 : Int.gcd a b = Int.gcd ((Int.gcd a b : Int) * x) ((Int.gcd a b : Int) * y) := by rw [← hx, ← hy]
  have e : Int.gcd a b = Int.gcd a b * Int.gcd x y := by
    rw [Int.gcd_mul_left, Int.natAbs_natCast] at e0
    exact e0
  have := Nat.eq_of_mul_eq_mul_left hg (by rw [Nat.mul_one]; exact e.symm : Int.gcd a b * Int.gcd x y = Int.gcd a b * 1)
  exact this
theorem fdiv_sg {a b : Int} (h : b ≠ 0) {x : Int} (hx : a = (Int.gcd a b : Int) * x) (c : Int) (z : Int) (hz : c = (Int.gcd a b : Int) * z) : c.fdiv (sgG a b) = if b < 0 then -z else z := by
  have hg := gcd_pos (a := a) h
  have hg2 : ((Int.gcd a b : Nat) : Int) ≠ 0 := by omega
  unfold sgG
  split
  · have e : c = (-((Int.gcd a b : Nat) : Int)) * (-z) := by rw [Int.neg_mul_neg]; exact hz
    rw [e]
    exact Int.mul_fdiv_cancel_left _ (by omega)
  · conv => lhs; rw [hz]
    exact Int.mul_fdiv_cancel_left _ hg2
theorem sg_ok {a b : Int} (h : b ≠ 0) (hb : b.natAbs < 10 ^ 60) : sgG a b ≠ 0 ∧ (sgG a b).natAbs.log2 < 9000 := by
  have hg := gcd_pos (a := a) h
  have hl := gcd_le (a := a) h
  have e : (sgG a b).natAbs = Int.gcd a b := by unfold sgG; split <;> simp
  refine ⟨fun z => ?_, ?_⟩
  · rw [z] at e; simp at e; omega
  · rw [e, Nat.log2_lt (by omega)]
    exact Nat.lt_of_le_of_lt hl (Nat.lt_trans hb (Nat.lt_of_lt_of_le (by decide : 10 ^ 60 < 2 ^ 200) (Nat.pow_le_pow_right (by decide) (by decide))))
theorem low_isFr {a b : Int} (h : b ≠ 0) (ha : a.natAbs < 10 ^ 60) (hb : b.natAbs < 10 ^ 60) : isFrD (lowT a b) = true := by
  obtain ⟨x, y, hx, hy, hg⟩ := low_parts (a := a) h
  have hp := gcd_pos (a := a) h
  unfold lowT
  rw [fdiv_sg h hx a x hx, fdiv_sg h hx b y hy]
  have nx : x.natAbs ≤ a.natAbs := by
    have e := congrArg Int.natAbs hx
    rw [Int.natAbs_mul, Int.natAbs_natCast] at e
    exact Nat.le_trans (Nat.le_mul_of_pos_left _ hp) (Nat.le_of_eq e.symm)
  have ny : y.natAbs ≤ b.natAbs := by
    have e := congrArg Int.natAbs hy
    rw [Int.natAbs_mul, Int.natAbs_natCast] at e
    exact Nat.le_trans (Nat.le_mul_of_pos_left _ hp) (Nat.le_of_eq e.symm)
  have y0 : y ≠ 0 := fun z => by rw [z] at hy; simp at hy; exact h hy
  have ys : (b < 0 ↔ y < 0) := by
    constructor
    · intro z
      rcases Int.lt_trichotomy y 0 with q | q | q
      · exact q
      · exact absurd q y0
      · have w := Int.mul_nonneg (show (0 : Int) ≤ (Int.gcd a b : Int) by omega) (Int.le_of_lt q)
        rw [← hy] at w
        omega
    · intro z
      have w := Int.mul_neg_of_pos_of_neg (show (0 : Int) < (Int.gcd a b : Int) by omega) z
      rw [← hy] at w
      exact w
  simp only [isFrD, Bool.and_eq_true, decide_eq_true_eq]
  split
  · rename_i hn
    have := ys.mp hn
    refine ⟨⟨by omega, by omega⟩, by omega, ?_⟩
    rw [Int.gcd_neg, Int.neg_gcd]; exact hg
  · rename_i hn
    have : ¬ y < 0 := fun z => hn (ys.mpr z)
    exact ⟨⟨by omega, by omega⟩, by omega, hg⟩
def dueTop (a b : Int) : Int := if decide (a < 0) = decide (b < 0) then (if a < 0 then -a else a).fdiv (Int.gcd a b : Int) else 0 - (if a < 0 then -a else a).fdiv (Int.gcd a b : Int)
def dueBot (a b : Int) : Int := (if b < 0 then -b else b).fdiv (Int.gcd a b : Int)
theorem abs_part {g c z : Int} (hg : g ≠ 0) (h : c = g * z) : (if c < 0 then -c else c).fdiv g = if c < 0 then -z else z := by
  split
  · have e : -c = g * (-z) := by rw [h, Int.mul_neg]
    rw [e]; exact Int.mul_fdiv_cancel_left _ hg
  · rename_i hn
    conv => lhs; rw [h]
    exact Int.mul_fdiv_cancel_left _ hg
theorem low_due {a b : Int} (h : b ≠ 0) : lowT a b = .tup [.int (dueTop a b), .int (dueBot a b)] := by
  obtain ⟨x, y, hx, hy, hg⟩ := low_parts (a := a) h
  have hp := gcd_pos (a := a) h
  have hg2 : ((Int.gcd a b : Nat) : Int) ≠ 0 := by omega
  unfold lowT dueTop dueBot
  rw [fdiv_sg h hx a x hx, fdiv_sg h hx b y hy, abs_part hg2 hx, abs_part hg2 hy]
  by_cases ha : a < 0
  · by_cases hb : b < 0
    · simp [ha, hb]
    · simp [ha, hb]
  · by_cases hb : b < 0
    · simp [ha, hb]
    · simp [ha, hb]
/-! ### what is told, what is due -/
def isZ : D → Bool
  | .int i => decide (i = 0)
  | _ => false
def toldD (d e : D) : D := if isIntD d = true then (if (!isIntD e || isZ e) = false then (match d, e with
    | .int a, .int b => .tup [.str "told", lowT a b]
    | _, _ => .non) else .tup [.str "no", e]) else .tup [.str "no", d]
abbrev bad (d : D) : Exc := ⟨"InvalidNumber", [("value", d)]⟩
theorem isInt_of {d : D} (h : isIntD d = true) : ∃ i, d = .int i ∧ i.natAbs < 10 ^ 60 := by
  cases d <;> first | (simp [isIntD] at h; done) | skip
  rename_i i
  exact ⟨i, rfl, by simpa [isIntD] using h⟩
theorem r_require_integer {d : D} {m : M} {n : Nat} (h : small n d = true) : F_require_integer [d] m = if isIntD d = true then .ok .non m else .ex (bad d) m := by
  have q1 : evE [F_is_integer] (.not (.call 0 (.cons (.var 0) .nil))) [some d] m = .ok (.bl (!isIntD d)) m :=
    ev_not (ev_call (ev_cons (ev_var rfl) ev_nil) rfl (call_pure (by simp [norefL, small_noref n d h]) (r_is_integer (small_plain h)) rfl))
  unfold F_require_integer runB b_require_integer
  simp only [List.map_cons, List.map_nil, List.length_cons, List.length_nil, Nat.reduceAdd, Nat.reduceSub, List.replicate, List.cons_append, List.nil_append]
  cases hd : isIntD d with
  | true =>
    rw [st_ifF q1 (by simp [hd]), st_nil]
    simp
  | false =>
    rw [st_ifX q1 (by simp [hd]) (st_rai (ev_var rfl))]
    simp
theorem r_lowest_of {a b : Int} {m : M} (h : b ≠ 0) (hb : b.natAbs < 10 ^ 60) : F_lowest_of [.int a, .int b] m = .ok (lowT a b) m := by
  obtain ⟨s1, s2⟩ := sg_ok (a := a) h hb
  have q1 : evE [F_divisor_of] (.call 0 (.cons (.var 0) (.cons (.var 1) .nil))) [some (.int a), some (.int b), none] m = .ok (.int (Int.gcd a b)) m :=
    ev_call (ev_cons (ev_var rfl) (ev_cons (ev_var rfl) ev_nil)) rfl (call_pure (by simp [norefL, noref]) (r_divisor_of (by omega)) rfl)
  have fin : ∀ env : HB.Env, env[0]? = some (some (.int a)) → env[1]? = some (some (.int b)) → env[2]? = some (some (.int (sgG a b))) → evS [F_divisor_of] (.cons (.ret (.tup (.cons (.bin .fdiv (.var 0) (.var 2)) (.cons (.bin .fdiv (.var 1) (.var 2)) .nil)))) .nil) env m = .rt (lowT a b) m := by
    intro env h0 h1 h2
    exact st_ret (ev_tup (ev_cons (ev_bin (ev_var h0) (ev_var h2) (op_fd s1 s2)) (ev_cons (ev_bin (ev_var h1) (ev_var h2) (op_fd s1 s2)) ev_nil)) (by simp))
  unfold F_lowest_of runB b_lowest_of
  simp only [List.map_cons, List.map_nil, List.length_cons, List.length_nil, Nat.reduceAdd, Nat.reduceSub, List.replicate, List.cons_append, List.nil_append]
  rw [st_asg1 q1]
  have q2 : evE [F_divisor_of] (.cmp .lt (.var 1) (.int 0)) [some (.int a), some (.int b), some (.int (Int.gcd a b))] m = .ok (.bl (decide (b < 0))) m := ev_cmp (ev_var rfl) ev_int rfl
  by_cases hn : b < 0
  · have e : sgG a b = -((Int.gcd a b : Nat) : Int) := by unfold sgG; rw [if_pos hn]
    have q3 := st_ifN (r := (.cons (.ret (.tup (.cons (.bin .fdiv (.var 0) (.var 2)) (.cons (.bin .fdiv (.var 1) (.var 2)) .nil)))) .nil)) (b := .nil) (a := .cons (.asg (.name 2) (.neg (.var 2))) .nil) q2 (by simp [hn]) ((st_asg1 (ev_neg (ev_var rfl))).trans st_nil)
    simp only [List.set_cons_zero, List.set_cons_succ] at q3 ⊢
    rw [q3, fin _ rfl rfl (by rw [e]; rfl)]
  · have e : sgG a b = ((Int.gcd a b : Nat) : Int) := by unfold sgG; rw [if_neg hn]
    have q3 := st_ifF (r := (.cons (.ret (.tup (.cons (.bin .fdiv (.var 0) (.var 2)) (.cons (.bin .fdiv (.var 1) (.var 2)) .nil)))) .nil)) (a := .cons (.asg (.name 2) (.neg (.var 2))) .nil) q2 (by simp [hn])
    simp only [List.set_cons_zero, List.set_cons_succ] at q3 ⊢
    rw [q3, fin _ rfl rfl (by rw [e]; rfl)]
theorem r_lowest {d e : D} {m : M} {n k : Nat} (hd : small n d = true) (he : small k e = true) : F_lowest [d, e] m = if isIntD d = true then (if (!isIntD e || isZ e) = false then (match d, e with
    | .int a, .int b => .ok (lowT a b) m
    | _, _ => .no) else .ex (bad e) m) else .ex (bad d) m := by
  have nd := small_noref n d hd
  have ne := small_noref k e he
  unfold F_lowest runB b_lowest
  simp only [List.map_cons, List.map_nil, List.length_cons, List.length_nil, Nat.reduceAdd, Nat.reduceSub, List.replicate, List.cons_append, List.nil_append]
  cases hi : isIntD d with
  | false =>
    have q1 : evE [F_require_integer, F_is_integer, F_lowest_of] (.call 0 (.cons (.var 0) .nil)) [some d, some e] m = .ex (bad d) m :=
      ev_call (ev_cons (ev_var rfl) ev_nil) rfl (call_pure_ex (by simp [norefL, nd]) (by rw [r_require_integer hd, hi]; rfl) (by simp [norefF, nd]))
    rw [st_expX q1]
    simp
  | true =>
    have q1 : evE [F_require_integer, F_is_integer, F_lowest_of] (.call 0 (.cons (.var 0) .nil)) [some d, some e] m = .ok .non m :=
      ev_call (ev_cons (ev_var rfl) ev_nil) rfl (call_pure (by simp [norefL, nd]) (by rw [r_require_integer hd, hi]; rfl) rfl)
    rw [st_exp q1]
    have q2 : evE [F_require_integer, F_is_integer, F_lowest_of] (.call 1 (.cons (.var 1) .nil)) [some d, some e] m = .ok (.bl (isIntD e)) m :=
      ev_call (ev_cons (ev_var rfl) ev_nil) rfl (call_pure (by simp [norefL, ne]) (r_is_integer (small_plain he)) rfl)
    have q3 : evE [F_require_integer, F_is_integer, F_lowest_of] (.or (.not (.call 1 (.cons (.var 1) .nil))) (.cmp .eq (.var 1) (.int 0))) [some d, some e] m = .ok (.bl (!isIntD e || isZ e)) m := by
      refine ev_or (ev_not q2) fun z => ?_
      simp only [Bool.not_eq_eq_eq_not, Bool.not_false] at z
      obtain ⟨i, rfl, _⟩ := isInt_of z
      exact ev_cmp (ev_var rfl) ev_int op_eqI
    cases hz : (!isIntD e || isZ e) with
    | true =>
      rw [st_ifX q3 hz (st_rai (ev_var rfl))]
      simp
    | false =>
      rw [st_ifF q3 hz]
      simp only [Bool.or_eq_false_iff, Bool.not_eq_eq_eq_not, Bool.not_false] at hz
      obtain ⟨a, rfl, ha⟩ := isInt_of hi
      obtain ⟨b, rfl, hb⟩ := isInt_of hz.1
      have h0 : b ≠ 0 := by simpa [isZ] using hz.2
      rw [st_ret (ev_call (ev_cons (ev_var rfl) (ev_cons (ev_var rfl) ev_nil)) rfl (call_pure (by simp [norefL, noref]) (r_lowest_of h0 hb) (by simp [lowT, noref, norefL])))]
      simp
theorem r_told {d e : D} {m : M} {n k : Nat} (hd : small n d = true) (he : small k e = true) : F_law_lowest_told [d, e] m = .ok (toldD d e) m := by
  have nd := small_noref n d hd
  have ne := small_noref k e he
  have q := r_lowest (m := []) hd he
  have bx : ∀ (x : D), noref x = true → F_lowest [d, e] [] = .ex (bad x) [] → F_law_lowest_told [d, e] m = .ok (.tup [.str "no", x]) m := by
    intro x hx hl
    have q1 : evE [F_lowest] (.tup (.cons (.str "told") (.cons (.call 0 (.cons (.var 0) (.cons (.var 1) .nil))) .nil))) [some d, some e, none] m = .ex (bad x) m :=
      ev_tupX (ev_consX2 ev_str (ev_consX (ev_call (ev_cons (ev_var rfl) (ev_cons (ev_var rfl) ev_nil)) rfl (call_pure_ex (by simp [norefL, nd, ne]) hl (by simp [norefF, hx])))))
    unfold F_law_lowest_told runB b_law_lowest_told
    simp only [List.map_cons, List.map_nil, List.length_cons, List.length_nil, Nat.reduceAdd, Nat.reduceSub, List.replicate, List.cons_append, List.nil_append]
    rw [evS, evS, st_retX q1]
    have e1 : evX (bad x) (.tup (.cons (.str "no") (.cons (.fld ["InvalidNumber"] "value") .nil))) m = .ok (.tup [.str "no", x]) m := by
      simp only [evX, evXA]
      simp [R.bind, List.lookup, sizeLine_eq]
    simp [List.lookup, e1]
  unfold toldD
  cases hi : isIntD d with
  | false =>
    rw [bx d nd (by rw [q, hi]; rfl)]
    simp
  | true =>
    cases hz : (!isIntD e || isZ e) with
    | true =>
      rw [bx e ne (by rw [q, hi, hz]; rfl)]
      simp
    | false =>
      have hz2 := hz
      simp only [Bool.or_eq_false_iff, Bool.not_eq_eq_eq_not, Bool.not_false] at hz2
      obtain ⟨a, rfl, ha⟩ := isInt_of hi
      obtain ⟨b, rfl, hb⟩ := isInt_of hz2.1
      rw [hi, hz] at q
      have q1 : evE [F_lowest] (.tup (.cons (.str "told") (.cons (.call 0 (.cons (.var 0) (.cons (.var 1) .nil))) .nil))) [some (.int a), some (.int b), none] m = .ok (.tup [.str "told", lowT a b]) m :=
        ev_tup (ev_cons ev_str (ev_cons (ev_call (ev_cons (ev_var rfl) (ev_cons (ev_var rfl) ev_nil)) rfl (call_pure (by simp [norefL, noref]) q (by simp [lowT, noref, norefL]))) ev_nil)) (by simp)
      unfold F_law_lowest_told runB b_law_lowest_told
      simp only [List.map_cons, List.map_nil, List.length_cons, List.length_nil, Nat.reduceAdd, Nat.reduceSub, List.replicate, List.cons_append, List.nil_append]
      rw [evS, evS, st_ret q1]
      simp
theorem r_due {d e : D} {m : M} {n k : Nat} (hd : small n d = true) (he : small k e = true) : F_law_lowest_due [d, e] m = .ok (toldD d e) m := by
  have nd := small_noref n d hd
  have ne := small_noref k e he
  have q1 : evE [F_law_is_whole, F_law_shared] (.not (.call 0 (.cons (.var 0) .nil))) [some d, some e, none, none, none] m = .ok (.bl (!isIntD d)) m :=
    ev_not (ev_call (ev_cons (ev_var rfl) ev_nil) rfl (call_pure (by simp [norefL, nd]) (r_law_is_whole (small_plain hd)) rfl))
  have q2 : evE [F_law_is_whole, F_law_shared] (.call 0 (.cons (.var 1) .nil)) [some d, some e, none, none, none] m = .ok (.bl (isIntD e)) m :=
    ev_call (ev_cons (ev_var rfl) ev_nil) rfl (call_pure (by simp [norefL, ne]) (r_law_is_whole (small_plain he)) rfl)
  have q3 : evE [F_law_is_whole, F_law_shared] (.or (.not (.call 0 (.cons (.var 1) .nil))) (.cmp .eq (.var 1) (.int 0))) [some d, some e, none, none, none] m = .ok (.bl (!isIntD e || isZ e)) m := by
    refine ev_or (ev_not q2) fun z => ?_
    simp only [Bool.not_eq_eq_eq_not, Bool.not_false] at z
    obtain ⟨i, rfl, _⟩ := isInt_of z
    exact ev_cmp (ev_var rfl) ev_int op_eqI
  unfold F_law_lowest_due runB b_law_lowest_due
  simp only [List.map_cons, List.map_nil, List.length_cons, List.length_nil, Nat.reduceAdd, Nat.reduceSub, List.replicate, List.cons_append, List.nil_append]
  unfold toldD
  cases hi : isIntD d with
  | false =>
    rw [st_ifT q1 (by simp [hi]) (st_ret (ev_tup (ev_cons ev_str (ev_cons (ev_var rfl) ev_nil)) (by simp)))]
    simp
  | true =>
    rw [st_ifF q1 (by simp [hi])]
    cases hz : (!isIntD e || isZ e) with
    | true =>
      rw [st_ifT q3 hz (st_ret (ev_tup (ev_cons ev_str (ev_cons (ev_var rfl) ev_nil)) (by simp)))]
      simp
    | false =>
      rw [st_ifF q3 hz]
      simp only [Bool.or_eq_false_iff, Bool.not_eq_eq_eq_not, Bool.not_false] at hz
      obtain ⟨a, rfl, ha⟩ := isInt_of hi
      obtain ⟨b, rfl, hb⟩ := isInt_of hz.1
      have h0 : b ≠ 0 := by simpa [isZ] using hz.2
      have hg := gcd_pos (a := a) h0
      have g0 : ((Int.gcd a b : Nat) : Int) ≠ 0 := by omega
      have gl : ((Int.gcd a b : Nat) : Int).natAbs.log2 < 9000 := by
        have z := (sg_ok (a := a) h0 hb).2
        have e : (sgG a b).natAbs = Int.gcd a b := by unfold sgG; split <;> simp
        rw [e] at z
        simpa using z
      rw [st_asg1 (ev_call (ev_cons (ev_var rfl) (ev_cons (ev_var rfl) ev_nil)) rfl (call_pure (by simp [norefL, noref]) (r_law_shared (by omega)) rfl))]
      simp only [List.set_cons_zero, List.set_cons_succ]
      rw [st_par (ev_bin (ev_blt (ev_cons (ev_var rfl) ev_nil) rfl) (ev_var rfl) (op_fd g0 gl)) (ev_bin (ev_blt (ev_cons (ev_var rfl) ev_nil) rfl) (ev_var rfl) (op_fd g0 gl))]
      simp only [List.set_cons_zero, List.set_cons_succ]
      have q5 : ∀ env : HB.Env, env[0]? = some (some (.int a)) → env[1]? = some (some (.int b)) → env[3]? = some (some (.int ((if a < 0 then -a else a).fdiv (Int.gcd a b : Int)))) →
          evE [F_law_is_whole, F_law_shared] (.ite (.cmp .eq (.cmp .lt (.var 0) (.int 0)) (.cmp .lt (.var 1) (.int 0))) (.var 3) (.bin .sub (.int 0) (.var 3))) env m = .ok (.int (dueTop a b)) m := by
        intro env e0 e1 e3
        refine ev_ite (ev_cmp (ev_cmp (ev_var e0) ev_int op_ltI) (ev_cmp (ev_var e1) ev_int op_ltI) op_eqB) (fun z => ?_) fun z => ?_
        · rw [decide_eq_true_eq] at z
          rw [ev_var e3, dueTop, if_pos z]
        · rw [decide_eq_false_iff_not] at z
          rw [ev_bin ev_int (ev_var e3) op_sb, dueTop, if_neg z]
      rw [st_ret (ev_tup (ev_cons ev_str (ev_cons (ev_tup (ev_cons (q5 _ rfl rfl rfl) (ev_cons (ev_var rfl) ev_nil)) (by simp)) ev_nil)) (by simp))]
      simp only [if_true]
      rw [low_due h0]
      rfl
end K00
namespace K00
open PySem HB L2
/-! ### the pot -/
def Pot (n : Nat) (o : MO) : Prop := ∃ a b c : Int, o = .lst [.int a, .int b, .int c] ∧ 0 ≤ c ∧ c ≤ n
theorem Pot.noref {n : Nat} {o : MO} (h : Pot n o) : norefM o = true := by
  obtain ⟨a, b, c, rfl, _⟩ := h
  rfl
theorem fmod_bd (i p : Int) (hp : 0 < p) : 0 ≤ i.fmod p ∧ i.fmod p < p := ⟨Int.fmod_nonneg_of_pos i hp, Int.fmod_lt_of_pos i hp⟩
theorem log_lt {i : Int} {k : Nat} (h : i.natAbs < 2 ^ k) (hk : 0 < k) : i.natAbs.log2 < k := by
  by_cases h0 : i.natAbs = 0
  · rw [h0]; simpa using hk
  · exact (Nat.log2_lt h0).mpr h
/-- a def that stirs: what it comes to; k: how often it may -/
def PotFn (sem : HB.Sem) (args : List D) (k : Nat) (Q : D → Prop) : Prop := ∀ n o, Pot n o → n + k ≤ 100000 → ∃ d o2, sem (.ref 0 :: args) [o] = .ok d [o2] ∧ Pot (n + k) o2 ∧ Q d ∧ noref d = true
theorem PotFn.call {sem : HB.Sem} {args : List D} {k : Nat} {Q : D → Prop} (h : PotFn sem args k Q) (ha : norefL args = true) {m : M} {j n : Nat} {o : MO} (hj : m[j]? = some o) (hp : Pot n o) (hn : n + k ≤ 100000) : ∃ d o2, callD sem (.ref j :: args) m = .ok d (m.set j o2) ∧ Pot (n + k) o2 ∧ Q d ∧ noref d = true := by
  obtain ⟨d, o2, e, p, q, nr⟩ := h n o hp hn
  exact ⟨d, o2, call_one ha hj hp.noref e nr p.noref, p, q, nr⟩
theorem r_stir {t : Int} (ht : 0 < t) (hl : t.natAbs.log2 < 9000) : PotFn F_law_stir [.int t] 1 (fun d => ∃ v : Int, d = .int v ∧ 0 ≤ v ∧ v < t) := by
  rintro n o ⟨a, b, c, rfl, c0, c1⟩ hn
  have t0 : t ≠ 0 := by omega
  unfold F_law_stir runB b_law_stir
  simp only [List.map_cons, List.map_nil, List.length_cons, List.length_nil, Nat.reduceAdd, Nat.reduceSub, List.replicate, List.cons_append, List.nil_append]
  have q1 : ∀ env : HB.Env, env[0]? = some (some (.ref 0)) → evE [] (.ix (.var 0) (.int 0)) env [.lst [.int a, .int b, .int c]] = .ok (.int a) [.lst [.int a, .int b, .int c]] := fun env h0 => ev_ix (ev_var h0) ev_int rfl
  have q2 := ev_cmp (o := .gt) (q1 [some (.ref 0), some (.int t), none, none, none] rfl) ev_int (op_gtI (j := 0))
  by_cases hp : 0 < a
  · have s1 := st_asg1 (i := 4) (e := .bin .mod (.blt .int (.cons (.ix (.var 0) (.int 0)) .nil)) (.var 1)) (r := .cons (.setix (.var 0) (.int 0) (.bin .fdiv (.ix (.var 0) (.int 0)) (.var 1))) (.cons (.ret (.var 4)) .nil)) (ev_bin (fs := []) (env := [some (.ref 0), some (.int t), none, none, none]) (ev_blt (b := .int) (ev_cons (q1 _ rfl) ev_nil) rfl) (ev_var rfl) (op_md t0))
    have s2 := st_setix (fs := []) (env := [some (.ref 0), some (.int t), none, none, some (.int (a.fmod t))]) (o := .var 0) (i := .int 0) (e := .bin .fdiv (.ix (.var 0) (.int 0)) (.var 1)) (r := .cons (.ret (.var 4)) .nil) (ev_bin (q1 _ rfl) (ev_var rfl) (op_fd t0 hl)) (ev_var rfl) ev_int (show setixD (.ref 0) (.int 0) (.int (a.fdiv t)) [.lst [.int a, .int b, .int c]] = some [.lst [.int (a.fdiv t), .int b, .int c]] from rfl)
    simp only [List.set_cons_zero, List.set_cons_succ] at s1
    have s3 := st_ret (fs := []) (r := .nil) (m := [.lst [.int (a.fdiv t), .int b, .int c]]) (ev_var (fs := []) (env := [some (.ref 0), some (.int t), none, none, some (.int (a.fmod t))]) (i := 4) rfl)
    rw [st_ifT q2 (by simp [hp]) (s1.trans (s2.trans s3))]
    exact ⟨_, _, rfl, ⟨_, _, _, rfl, c0, by omega⟩, ⟨_, rfl, fmod_bd a t ht⟩, rfl⟩
  · rw [st_ifF q2 (by simp [hp])]
    have hc : (c + 1).natAbs.log2 < 900000 := log_lt (Nat.lt_of_le_of_lt (by omega : (c + 1).natAbs ≤ 100001) (Nat.lt_of_lt_of_le (by decide : 100001 < 2 ^ 20) (Nat.pow_le_pow_right (by decide) (by decide)))) (by decide)
    rw [st_setix (m4 := [.lst [.int a, .int b, .int (c + 1)]]) (ev_bin (ev_ix (ev_var rfl) ev_int rfl) ev_int op_ad) (ev_var rfl) ev_int rfl]
    have bd : ∀ (i : Int), (i.fmod 2305843009213693951).natAbs.log2 < 62 := fun i => log_lt (by have := fmod_bd i 2305843009213693951 (by decide); omega) (by decide)
    have bd2 : ∀ (i : Int), (i.fmod 2305843009213693907).natAbs.log2 < 62 := fun i => log_lt (by have := fmod_bd i 2305843009213693907 (by decide); omega) (by decide)
    rw [st_asg1 (ev_bin (ev_blt (b := .int) (ev_cons (ev_bin (ev_ix (ev_var rfl) ev_int rfl) (ev_bin ev_int (ev_ix (ev_var rfl) ev_int rfl) (op_ml (by
      have : (1048583 : Int).natAbs.log2 = 20 := by decide
      omega))) op_ad) ev_nil) rfl) ev_int (op_md (by decide)))]
    simp only [List.set_cons_zero, List.set_cons_succ]
    rw [st_asg1 (ev_bin (ev_bin (ev_bin (ev_blt (b := .int) (ev_cons (ev_bin (ev_var rfl) (ev_var rfl) (op_ml (by have := bd (b + 1048583 * (c + 1)); omega))) ev_nil) rfl) ev_int (op_md (by decide))) (ev_var rfl) (op_ml (by
      have := bd (b + 1048583 * (c + 1))
      have := bd2 ((b + 1048583 * (c + 1)).fmod 2305843009213693951 * (b + 1048583 * (c + 1)).fmod 2305843009213693951)
      omega))) (ev_bin ev_int (ev_ix (ev_var rfl) ev_int rfl) (op_ml (by
      have : (8101 : Int).natAbs.log2 = 12 := by decide
      omega))) op_ad)]
    simp only [List.set_cons_zero, List.set_cons_succ]
    rw [st_ret (ev_bin (ev_blt (b := .int) (ev_cons (ev_bin (ev_bin (ev_blt (b := .int) (ev_cons (ev_var rfl) ev_nil) rfl) ev_int (op_md (by decide))) ev_int (op_fd (by decide) (by decide))) ev_nil) rfl) (ev_var rfl) (op_md t0))]
    exact ⟨_, _, rfl, ⟨_, _, _, rfl, by omega, by omega⟩, ⟨_, rfl, fmod_bd _ t ht⟩, rfl⟩
/-! ### one of some -/
theorem ixN_lt {n : Nat} {v : Int} (h0 : 0 ≤ v) (h1 : v < n) : ixN n v = some v.toNat := by unfold ixN; rw [if_pos h0, if_pos h1]
theorem atI_lt {α : Type} {xs : List α} {v : Int} (h0 : 0 ≤ v) (h1 : v < xs.length) : ∃ x, atI xs v = some x ∧ x ∈ xs := by
  have hl : v.toNat < xs.length := by omega
  refine ⟨xs[v.toNat], ?_, List.getElem_mem hl⟩
  unfold atI
  rw [ixN_lt h0 h1]
  simp [hl]
theorem len_log {n : Nat} (h : n ≤ 1000) : ((n : Int)).natAbs.log2 < 9000 := log_lt (Nat.lt_of_le_of_lt (by omega : ((n : Int)).natAbs ≤ 1000) (Nat.lt_of_lt_of_le (by decide : 1000 < 2 ^ 10) (Nat.pow_le_pow_right (by decide) (by decide)))) (by decide)
theorem ix_lst {ds : List D} {v : Int} {x : D} {m : M} (h : atI ds v = some x) : ixD (.lst ds) (.int v) m = .ok x m := by simp only [ixD, viewQ, viewS, viewL, h]
theorem ix_str {y : Str} {v : Int} {c : Nat} {m : M} (h : atI y.cps.toList v = some c) (hs : y.length ≤ 1000) : ixD (.str y) (.int v) m = .ok (.str ⟨#[c]⟩) m := by
  have : y.length ≤ sizeLine := by rw [sizeLine_eq]; omega
  simp only [ixD, h, this, if_true]
theorem r_one_of_lst {ds : List D} (h0 : ds ≠ []) (hl : ds.length ≤ 1000) (hn : norefL ds = true) (hm : ∀ d ∈ ds, noref d = true) : PotFn F_law_one_of [.lst ds] 1 (fun d => d ∈ ds) := by
  intro n o hp hn2
  have hpos : 0 < ds.length := List.length_pos_iff.mpr h0
  obtain ⟨d, o2, e, p, ⟨v, rfl, v0, v1⟩, nr⟩ := (r_stir (t := ds.length) (by omega) (len_log hl)).call rfl (m := [o]) (j := 0) rfl hp hn2
  obtain ⟨x, hx, hxm⟩ := atI_lt (xs := ds) v0 v1
  unfold F_law_one_of runB b_law_one_of
  simp only [List.map_cons, List.map_nil, List.length_cons, List.length_nil, Nat.reduceAdd, Nat.reduceSub, List.replicate, List.cons_append, List.nil_append]
  rw [st_ret (ev_ix (ev_var rfl) (ev_call (ev_cons (ev_var rfl) (ev_cons (ev_blt (ev_cons (ev_var rfl) ev_nil) (show bfD .len [.lst ds] [o] = .ok (.int ds.length) [o] from rfl)) ev_nil)) rfl e) (ix_lst hx))]
  exact ⟨_, _, rfl, p, hxm, hm x hxm⟩
theorem r_one_of_str {x : Str} (h0 : 0 < x.length) (hl : x.length ≤ 1000) : PotFn F_law_one_of [.str x] 1 (fun d => ∃ c ∈ x.cps.toList, d = .str ⟨#[c]⟩) := by
  intro n o hp hn2
  obtain ⟨d, o2, e, p, ⟨v, rfl, v0, v1⟩, nr⟩ := (r_stir (t := x.length) (by omega) (len_log hl)).call rfl (m := [o]) (j := 0) rfl hp hn2
  have hs : x.length ≤ sizeLine := by rw [sizeLine_eq]; omega
  obtain ⟨c, hc, hcm⟩ := atI_lt (xs := x.cps.toList) v0 (by rw [Array.length_toList]; exact v1)
  unfold F_law_one_of runB b_law_one_of
  simp only [List.map_cons, List.map_nil, List.length_cons, List.length_nil, Nat.reduceAdd, Nat.reduceSub, List.replicate, List.cons_append, List.nil_append]
  rw [st_ret (ev_ix (ev_var rfl) (ev_call (ev_cons (ev_var rfl) (ev_cons (ev_blt (ev_cons (ev_var rfl) ev_nil) (show bfD .len [.str x] [o] = .ok (.int x.length) [o] by simp [bfD, lenD, hs])) ev_nil)) rfl e) (ix_str hc hl))]
  exact ⟨_, _, rfl, p, ⟨c, hcm, rfl⟩, rfl⟩
/-! ### an integer -/
theorem pow13 (m : M) : bopD .pow (.int 10) (.int 13) m = .ok (.int (10 ^ 13)) m := by
  simp only [bopD, powD]
  rw [if_pos (by decide +kernel)]
  rfl
theorem pow59 (m : M) : bopD .pow (.int 10) (.int 59) m = .ok (.int (10 ^ 59)) m := by
  simp only [bopD, powD]
  rw [if_pos (by decide +kernel)]
  rfl
theorem pow60' (m : M) : bopD .pow (.int 10) (.int 60) m = .ok (.int (10 ^ 60)) m := pow60 m
abbrev Whl (d : D) : Prop := ∃ i : Int, d = .int i ∧ i.natAbs < 10 ^ 61
theorem log_big {i : Int} (h : i.natAbs < 10 ^ 62) : i.natAbs.log2 < 300 := log_lt (Nat.lt_trans h (by decide)) (by decide)
theorem sign_mul {s z : Int} (hs : s = 1 ∨ s = -1) (hz : z.natAbs < 10 ^ 61) : (s * z).natAbs < 10 ^ 61 := by
  rcases hs with rfl | rfl
  · simpa using hz
  · simpa using hz
theorem mul_ok {s z : Int} {m : M} (hs : s = 1 ∨ s = -1) (hz : z.natAbs < 10 ^ 61) : bopD .mul (.int s) (.int z) m = .ok (.int (s * z)) m := by
  refine op_ml ?_
  have h1 : s.natAbs.log2 < 300 := log_big (by rcases hs with rfl | rfl <;> decide)
  have h2 : z.natAbs.log2 < 300 := log_big (Nat.lt_trans hz (by decide))
  omega
theorem r_whole : PotFn F_law_whole [] 3 Whl := by
  intro n o hp hn
  obtain ⟨d1, o1, e1, p1, ⟨l, rfl, l0, l1⟩, _⟩ := (r_stir (t := 6) (by decide) (by decide)).call rfl (m := [o]) (j := 0) rfl hp (by omega)
  obtain ⟨d2, o2, e2, p2, ⟨s, rfl, s0, s1⟩, _⟩ := (r_stir (t := 2) (by decide) (by decide)).call rfl (m := [o1]) (j := 0) rfl p1 (by omega)
  have hs : (1 - 2 * s = 1) ∨ (1 - 2 * s = -1) := by omega
  have cal : ∀ (t : Int), 0 < t → t.natAbs.log2 < 9000 → ∃ v o3, callD F_law_stir [.ref 0, .int t] [o2] = .ok (.int v) [o3] ∧ Pot (n + 3) o3 ∧ 0 ≤ v ∧ v < t := by
    intro t t0 tl
    obtain ⟨d3, o3, e3, p3, ⟨v, rfl, v0, v1⟩, _⟩ := (r_stir (t := t) t0 tl).call rfl (m := [o2]) (j := 0) rfl p2 (by omega)
    exact ⟨v, o3, e3, p3, v0, v1⟩
  unfold F_law_whole runB b_law_whole
  simp only [List.map_cons, List.map_nil, List.length_cons, List.length_nil, Nat.reduceAdd, Nat.reduceSub, List.replicate, List.cons_append, List.nil_append]
  have m2 : bopD .mul (.int 2) (.int s) [o2] = .ok (.int (2 * s)) [o2] := op_ml (by
    have h1 : (2 : Int).natAbs.log2 = 1 := by decide
    have h2 : s.natAbs.log2 < 300 := log_big (by omega)
    omega)
  rw [st_par (ev_call (ev_cons (ev_var rfl) (ev_cons ev_int ev_nil)) rfl e1) (ev_bin ev_int (ev_bin ev_int (ev_call (ev_cons (ev_var rfl) (ev_cons ev_int ev_nil)) rfl e2) m2) op_sb)]
  simp only [List.set_cons_zero, List.set_cons_succ]
  by_cases c1 : l < 2
  · obtain ⟨v, o3, e3, p3, v0, v1⟩ := cal 21 (by decide) (by decide)
    rw [st_ifT (ev_cmp (ev_var rfl) ev_int op_ltI) (by simp [c1]) (st_ret (ev_bin (ev_var rfl) (ev_call (ev_cons (ev_var rfl) (ev_cons ev_int ev_nil)) rfl e3) (mul_ok hs (by omega))))]
    exact ⟨_, _, rfl, p3, ⟨_, rfl, sign_mul hs (by omega)⟩, rfl⟩
  · rw [st_ifF (ev_cmp (ev_var rfl) ev_int op_ltI) (by simp [c1])]
    by_cases c2 : l = 2
    · obtain ⟨v, o3, e3, p3, v0, v1⟩ := cal (10 ^ 13) (by decide) (by decide)
      rw [st_ifT (ev_cmp (ev_var rfl) ev_int op_eqI) (by simp [c2]) (st_ret (ev_bin (ev_var rfl) (ev_call (ev_cons (ev_var rfl) (ev_cons (ev_bin ev_int ev_int (pow13 _)) ev_nil)) rfl e3) (mul_ok hs (by omega))))]
      exact ⟨_, _, rfl, p3, ⟨_, rfl, sign_mul hs (by omega)⟩, rfl⟩
    · rw [st_ifF (ev_cmp (ev_var rfl) ev_int op_eqI) (by simp [c2])]
      by_cases c3 : l = 3
      · obtain ⟨v, o3, e3, p3, v0, v1⟩ := cal 3 (by decide) (by decide)
        rw [st_ifT (ev_cmp (ev_var rfl) ev_int op_eqI) (by simp [c3]) (st_ret (ev_bin (ev_var rfl) (ev_bin (ev_bin (ev_bin ev_int ev_int (pow60' _)) ev_int op_sb) (ev_call (ev_cons (ev_var rfl) (ev_cons ev_int ev_nil)) rfl e3) op_sb) (mul_ok hs (by omega))))]
        exact ⟨_, _, rfl, p3, ⟨_, rfl, sign_mul hs (by omega)⟩, rfl⟩
      · rw [st_ifF (ev_cmp (ev_var rfl) ev_int op_eqI) (by simp [c3])]
        by_cases c4 : l = 4
        · obtain ⟨v, o3, e3, p3, v0, v1⟩ := cal 9 (by decide) (by decide)
          rw [st_ret (ev_ite (ev_cmp (ev_var rfl) ev_int op_eqI) (fun _ => ev_bin (ev_var rfl) (ev_bin (ev_bin ev_int ev_int (pow59 _)) (ev_call (ev_cons (ev_var rfl) (ev_cons ev_int ev_nil)) rfl e3) op_ad) (mul_ok hs (by omega))) (fun z => by simp [c4] at z))]
          exact ⟨_, _, rfl, p3, ⟨_, rfl, sign_mul hs (by omega)⟩, rfl⟩
        · obtain ⟨v, o3, e3, p3, v0, v1⟩ := cal 2 (by decide) (by decide)
          rw [st_ret (ev_ite (ev_cmp (ev_var rfl) ev_int op_eqI) (fun z => by simp [c4] at z) (fun _ => ev_bin (ev_var rfl) (ev_bin (ev_bin ev_int ev_int (pow60' _)) (ev_call (ev_cons (ev_var rfl) (ev_cons ev_int ev_nil)) rfl e3) op_ad) (mul_ok hs (by omega))))]
          exact ⟨_, _, rfl, p3, ⟨_, rfl, sign_mul hs (by omega)⟩, rfl⟩
end K00
namespace K00
open PySem HB L2
/-! ### letters -/
def SmS (k : Nat) (x : Str) : Prop := x.length ≤ k ∧ ∀ c ∈ x.cps.toList, c < 0x110000
theorem SmS.small {k n : Nat} {x : Str} (h : SmS k x) (hk : k ≤ 100) : small n (.str x) = true := by
  have : strB x = true := by
    simp only [strB, Bool.and_eq_true, decide_eq_true_eq, List.all_eq_true]
    exact ⟨Nat.le_trans h.1 hk, h.2⟩
  cases n <;> simpa [HB.small] using this
theorem SmS.append {j k : Nat} {x y : Str} (h : SmS j x) (g : SmS k y) : SmS (j + k) (x ++ y) := by
  refine ⟨?_, ?_⟩
  · rw [strLen_append]; exact Nat.add_le_add h.1 g.1
  · intro c hc
    rw [show (x ++ y).cps = x.cps ++ y.cps from rfl, Array.toList_append, List.mem_append] at hc
    rcases hc with hc | hc
    · exact h.2 c hc
    · exact g.2 c hc
theorem SmS.cut {k : Nat} {x : Str} (h : SmS k x) (lo hi : Option Int) : SmS k (cutS x lo hi) := by
  refine ⟨?_, ?_⟩
  · refine Nat.le_trans ?_ h.1
    unfold cutS
    show (List.toArray _).size ≤ _
    rw [List.size_toArray, List.length_take, List.length_drop, Array.length_toList]
    show min _ (x.cps.size - _) ≤ x.cps.size
    omega
  · intro c hc
    refine h.2 c ?_
    unfold cutS at hc
    simp only at hc
    exact List.mem_of_mem_drop (List.mem_of_mem_take hc)
theorem SmS.join : ∀ {ys : List Str}, (∀ y ∈ ys, SmS 1 y) → SmS ys.length (Str.join "" ys)
  | [], _ => ⟨Nat.zero_le _, fun c hc => by simp [Str.join, Str.empty] at hc⟩
  | [y], h => h y (by simp)
  | y :: z :: r, h => by
    have h1 := h y (by simp)
    have h2 := SmS.join (ys := z :: r) fun x hx => h x (List.mem_cons_of_mem _ hx)
    have h3 := (h1.append (y := "") (k := 0) ⟨by decide, by decide⟩).append h2
    refine ⟨?_, h3.2⟩
    have := h3.1
    show ((y ++ "" ++ Str.join "" (z :: r))).length ≤ _
    simp only [List.length_cons] at this ⊢
    omega
theorem strs_of : ∀ {ys : List D}, (∀ y ∈ ys, ∃ c, y = .str ⟨#[c]⟩ ∧ c < 0x110000) → ∃ zs : List Str, asStrs ys = some zs ∧ zs.length = ys.length ∧ (∀ z ∈ zs, SmS 1 z) ∧ (zs.map (·.length)).sum = ys.length
  | [], _ => ⟨[], rfl, rfl, by simp, rfl⟩
  | y :: ys, h => by
    obtain ⟨c, rfl, hc⟩ := h y (by simp)
    obtain ⟨zs, e, l, q, s⟩ := strs_of fun z hz => h z (List.mem_cons_of_mem _ hz)
    refine ⟨⟨#[c]⟩ :: zs, by simp [asStrs, e], by simp [l], ?_, ?_⟩
    · intro z hz
      rcases List.mem_cons.mp hz with rfl | hz
      · exact ⟨Nat.le_refl _, fun d hd => by simp at hd; omega⟩
      · exact q z hz
    · simp only [List.map_cons, List.sum_cons, s, List.length_cons]
      show 1 + ys.length = _
      omega
theorem abc_ok : (∀ c ∈ (Str.ofString "abcdefghijklmnopqrstuvwxyz").cps.toList, c < 0x110000) ∧ (Str.ofString "abcdefghijklmnopqrstuvwxyz").length = 26 := by
  constructor <;> decide +kernel
def odds : List D := [.str "", .str "", .str "A", .str "0", .str " ", .str "_", .str "-", .str "\n", .str "Z", .str "{", .str "`"]
theorem odds_ok : ∀ d ∈ odds, ∃ x, d = .str x ∧ SmS 1 x := by
  intro d hd
  simp only [odds, List.mem_cons, List.not_mem_nil, or_false] at hd
  rcases hd with rfl | rfl | rfl | rfl | rfl | rfl | rfl | rfl | rfl | rfl | rfl <;> exact ⟨_, rfl, by decide +kernel, by decide +kernel⟩
theorem add_str {x y : Str} {m : M} (h : x.length + y.length ≤ 1000) : bopD .add (.str x) (.str y) m = .ok (.str (x ++ y)) m := by
  simp only [bopD, addD]
  rw [if_pos (by rw [sizeLine_eq]; omega)]
theorem sl_str {x : Str} {lo hi : Option Int} {m : M} (h : x.length ≤ 1000) : slD (.str x) lo hi m = .ok (.str (cutS x lo hi)) m := by
  simp only [slD]
  rw [if_pos (by rw [sizeLine_eq]; omega)]
abbrev Wrd (d : D) : Prop := ∃ x, d = .str x ∧ SmS 30 x
theorem r_letters : PotFn F_law_letters [] 12 Wrd := by
  intro n o hp hn
  obtain ⟨d1, o1, e1, p1, ⟨k, rfl, k0, k1⟩, _⟩ := (r_stir (t := 10) (by decide) (by decide)).call rfl (m := [o]) (j := 0) rfl hp (by omega)
  unfold F_law_letters runB b_law_letters
  simp only [List.map_cons, List.map_nil, List.length_cons, List.length_nil, Nat.reduceAdd, Nat.reduceSub, List.replicate, List.cons_append, List.nil_append]
  obtain ⟨ys, m2, ey, ⟨o2, rfl, p2⟩, ly, qy⟩ := lc_inv (step := lcSt [F_law_stir, F_law_one_of] [("_law_turn", 3)] (.name 3) .noP (.call 1 (.cons (.var 0) (.cons (.str "abcdefghijklmnopqrstuvwxyz") .nil))) [some (.ref 0), none, none, none])
    (fun i m => ∃ o, m = [o] ∧ Pot (n + 1 + i) o) (fun y => ∃ c, y = .str ⟨#[c]⟩ ∧ c < 0x110000) (xs := (List.range k.toNat).map fun (i : Nat) => D.int (i : Int)) (acc := []) (m := [o1]) (n := 0) ⟨o1, rfl, p1⟩ (by
      rintro x hx i m hi ⟨oi, rfl, pi⟩
      simp only [List.length_map, List.length_range] at hi
      obtain ⟨d3, o3, e3, p3, ⟨c, hc, rfl⟩, _⟩ := (r_one_of_str (x := "abcdefghijklmnopqrstuvwxyz") (by rw [abc_ok.2]; decide) (by rw [abc_ok.2]; decide)).call rfl (m := [oi]) (j := 0) rfl pi (by omega)
      refine ⟨.str ⟨#[c]⟩, [o3], ?_, ⟨o3, rfl, p3⟩, c, rfl, abc_ok.1 c hc⟩
      simp only [lcSt, asgG, isNoP, if_true, R.bind_ok]
      rw [ev_call (ev_cons (ev_var rfl) (ev_cons ev_str ev_nil)) rfl e3, R.bind_ok]
      rfl)
  simp only [List.length_map, List.length_range, List.nil_append, Nat.zero_add] at ey p2 ly
  obtain ⟨zs, ez, lz, qz, sz⟩ := strs_of qy
  have sj := SmS.join qz
  have hz : zs.length ≤ 9 := by omega
  have j1 : joinD (.str "") (.lst ys) [o2] = .ok (.str (Str.join "" zs)) [o2] := by
    simp only [joinD, viewQ, viewS, viewL, Option.bind_some, ez]
    rw [if_pos (by
      have : (Str.ofString "").length = 0 := by decide
      rw [this, sz]; omega), TL.join_eq]
  have hlen : ((List.range k.toNat).map fun (i : Nat) => D.int (i : Int)).length ≤ 1000000 := by
    rw [List.length_map, List.length_range]; omega
  rw [st_asg1 (ev_join ev_str (ev_lc (ev_rng1 (ev_call (ev_cons (ev_var rfl) (ev_cons ev_int ev_nil)) rfl e1) (by omega) (by omega)) rfl hlen ey) j1)]
  simp only [List.set_cons_zero, List.set_cons_succ]
  have lx : (Str.join "" zs).length ≤ 9 := Nat.le_trans sj.1 hz
  obtain ⟨d4, o4, e4, p4, ⟨v, rfl, v0, v1⟩, _⟩ := (r_stir (t := (Str.join "" zs).length + 1) (by omega) (by
    have := len_log (n := (Str.join "" zs).length + 1) (by omega)
    simpa using this)).call rfl (m := [o2]) (j := 0) rfl p2 (by omega)
  have hl : bfD .len [.str (Str.join "" zs)] [o2] = .ok (.int (Str.join "" zs).length) [o2] := len_str (by omega)
  rw [st_asg1 (ev_call (ev_cons (ev_var rfl) (ev_cons (ev_bin (ev_blt (ev_cons (ev_var rfl) ev_nil) hl) ev_int op_ad) ev_nil)) rfl e4)]
  simp only [List.set_cons_zero, List.set_cons_succ]
  obtain ⟨d5, o5, e5, p5, hd5, _⟩ := (r_one_of_lst (ds := odds) (by decide +kernel) (by decide +kernel) (by decide +kernel) (by
    intro d hd
    obtain ⟨x, rfl, _⟩ := odds_ok d hd
    rfl)).call (by decide +kernel) (m := [o4]) (j := 0) rfl p4 (by omega)
  obtain ⟨x5, rfl, s5⟩ := odds_ok d5 hd5
  have c1 : SmS 9 (cutS (Str.join "" zs) none (some v)) := SmS.cut ⟨lx, sj.2⟩ _ _
  have c2 : SmS 9 (cutS (Str.join "" zs) (some v) none) := SmS.cut ⟨lx, sj.2⟩ _ _
  have a1 := c1.append s5
  have a2 := a1.append c2
  have r1 : evA [F_law_stir, F_law_one_of] (.cons (.var 0) (.cons (.lst (.cons (.str "") (.cons (.str "") (.cons (.str "A") (.cons (.str "0") (.cons (.str " ") (.cons (.str "_") (.cons (.str "-") (.cons (.str "\n") (.cons (.str "Z") (.cons (.str "{") (.cons (.str "`") .nil)))))))))))) .nil)) [some (.ref 0), some (.str (Str.join "" zs)), some (.int v), none] [o4] = .ok [.ref 0, .lst odds] [o4] :=
    ev_cons (ev_var rfl) (ev_cons (ev_lst (ev_cons ev_str (ev_cons ev_str (ev_cons ev_str (ev_cons ev_str (ev_cons ev_str (ev_cons ev_str (ev_cons ev_str (ev_cons ev_str (ev_cons ev_str (ev_cons ev_str (ev_cons ev_str ev_nil))))))))))) (by decide +kernel)) ev_nil)
  rw [st_ret (ev_bin (ev_bin (ev_slH (ev_var rfl) rfl (ev_var rfl) (sl_str (by omega))) (ev_call r1 rfl e5) (add_str (by have := c1.1; have := s5.1; omega))) (ev_slL (ev_var rfl) rfl (ev_var rfl) (sl_str (by omega))) (add_str (by have := a1.1; have := c2.1; omega)))]
  refine ⟨_, _, rfl, ?_, ⟨_, rfl, Nat.le_trans a2.1 (by decide), a2.2⟩, rfl⟩
  obtain ⟨a, b, c, e, h0, h1⟩ := p5
  exact ⟨a, b, c, e, h0, by omega⟩
end K00
namespace K00
open PySem HB L2
theorem add_lst {xs ys : List D} {m : M} (h : xs.length + ys.length ≤ 1000) : bopD .add (.lst xs) (.lst ys) m = .ok (.lst (xs ++ ys)) m := by
  simp only [bopD, addD, viewL]
  rw [if_pos (by rw [sizeLine_eq]; omega)]
theorem str_int {i : Int} (h : i.natAbs < 10 ^ 61) : strB (Str.ofString (toString i)) = true := by
  have e := Str.ofString_eq_toList (toString i)
  simp only [strB, Bool.and_eq_true, decide_eq_true_eq, List.all_eq_true]
  constructor
  · have h1 := int_text_length_le10 (a := i) (k := 61) (by decide) h
    rw [e]
    show (List.toArray _).size ≤ 100
    rw [List.size_toArray, List.length_map]
    have : (toString i).toList.length = (toString i).length := String.length_toList
    rw [this]; omega
  · intro c hc
    rw [e] at hc
    simp only [List.mem_map] at hc
    obtain ⟨ch, _, rfl⟩ := hc
    rcases ch.valid with h | h
    · exact Nat.lt_trans h (by decide)
    · exact h.2
theorem strS {i : Int} {m : M} (h : i.natAbs < 10 ^ 61) : bfD .str [.int i] m = .ok (.str (Str.ofString (toString i))) m := by
  have hl : i.natAbs.log2 < 1920 := Nat.lt_trans (log_big (Nat.lt_trans h (by decide))) (by decide)
  simp only [bfD, strD]
  rw [if_pos hl]
abbrev Near (d : D) : Prop := ∃ ds, d = .lst ds ∧ ds ≠ [] ∧ ds.length ≤ 100 ∧ ds.all (small 2) = true
theorem str_a : strB (Str.ofString "a") = true := by decide +kernel
theorem str_e : strB (Str.ofString "") = true := by decide +kernel
theorem str_1 : strB (Str.ofString "1") = true := by decide +kernel
theorem r_near : PotFn F_law_near_values [] 22 Near := by
  intro n o hp hn
  obtain ⟨d1, o1, e1, p1, ⟨x, rfl, hx⟩, _⟩ := r_whole.call rfl (m := [o]) (j := 0) rfl hp (by omega)
  obtain ⟨d2, o2, e2, p2, ⟨y, rfl, hy⟩, _⟩ := r_whole.call rfl (m := [o1]) (j := 0) rfl p1 (by omega)
  obtain ⟨d3, o3, e3, p3, ⟨w, rfl, hw⟩, _⟩ := r_letters.call rfl (m := [o2]) (j := 0) rfl p2 (by omega)
  obtain ⟨d4, o4, e4, p4, ⟨a, rfl, a0, a1⟩, _⟩ := (r_stir (t := 9) (by decide) (by decide)).call rfl (m := [o3]) (j := 0) rfl p3 (by omega)
  obtain ⟨d5, o5, e5, p5, ⟨b, rfl, b0, b1⟩, _⟩ := (r_stir (t := 9) (by decide) (by decide)).call rfl (m := [o4]) (j := 0) rfl p4 (by omega)
  obtain ⟨d6, o6, e6, p6, ⟨c, rfl, c0, c1⟩, _⟩ := (r_stir (t := 30) (by decide) (by decide)).call rfl (m := [o5]) (j := 0) rfl p5 (by omega)
  obtain ⟨d7, o7, e7, p7, ⟨d, rfl, d0, d1⟩, _⟩ := (r_stir (t := 30) (by decide) (by decide)).call rfl (m := [o6]) (j := 0) rfl p6 (by omega)
  have lx : x.natAbs.log2 < 1920 := Nat.lt_trans (log_big (Nat.lt_trans hx (by decide))) (by decide)
  have ly : y.natAbs.log2 < 1920 := Nat.lt_trans (log_big (Nat.lt_trans hy (by decide))) (by decide)
  have lw : strB w = true := by
    have := hw.small (n := 0) (by decide)
    simpa [HB.small] using this
  have sm : ∀ {i : Int}, 0 ≤ i → i < 1000 → i.natAbs.log2 < 1920 := fun {i} h0 h1 => Nat.lt_trans (log_big (Nat.lt_of_lt_of_le (by omega : i.natAbs < 1000) (by decide))) (by decide)
  have m2 : ∀ (i : Int) (m : M), 0 ≤ i → i < 1000 → bopD .mul (.int 2) (.int i) m = .ok (.int (2 * i)) m := fun i m h0 h1 => op_ml (by
    have h1 : (2 : Int).natAbs.log2 = 1 := by decide
    have h2 : i.natAbs.log2 < 1920 := sm h0 (by omega)
    omega)
  have key : evS [F_law_whole, F_law_letters, F_law_stir] b_law_near_values [some (.ref 0), none, none, none, none] [o] = .rt (.lst ((([.int x, .int y, .str w, .tup [.int x, .int y], .tup [.int x, .int 1], .tup [.int 1, .int x], .tup [.int 0, .int x], .lst [.int x, .int 1], .tup [.int x], .tup [.int x, .int y, .int 1], .tup [.str w, .int 1]] ++ [.tup [.int (2 * a), .int (2 + 2 * b)], .tup [.int (1 + c), .int (1 + d)]]) ++ [.tup [.int x, .bl true], .tup [.bl true, .int 1], .tup [.non, .int 1], .tup [.int 1, .non], .tup [.str "1", .int 2], .tup [.tup [.int 1, .int 2], .tup [.int 1, .int 2]], .dct [(.int 1, .int 2)], .str (Str.ofString (toString x))]) ++ [.non, .bl true, .bl false, .str "", .str "a", .tup [], .lst [], .dct [], .tup [.int 0, .int 1], .tup [.int 1, .int 0], .tup [.int 0, .int 0], .tup [.int 1, .int (-1)], .tup [.int (-1), .int 1], .lst [.str w], .tup [.str w]])) [o7] := by
    unfold b_law_near_values
    refine (st_par3 (ev_call (ev_cons (ev_var rfl) ev_nil) rfl e1) (ev_call (ev_cons (ev_var rfl) ev_nil) rfl e2) (ev_call (ev_cons (ev_var rfl) ev_nil) rfl e3)).trans ?_
    refine (st_asg1 (d := .lst [.int x, .int y, .str w, .tup [.int x, .int y], .tup [.int x, .int 1], .tup [.int 1, .int x], .tup [.int 0, .int x], .lst [.int x, .int 1], .tup [.int x], .tup [.int x, .int y, .int 1], .tup [.str w, .int 1]]) (m1 := [o3]) ?_).trans ?_
    · repeat' (first | exact ev_nil | apply ev_cons | exact ev_int | exact ev_str | exact ev_var rfl | apply ev_tupB | apply ev_lstB | (simp only [List.length_cons, List.length_nil]; decide))
    refine (st_asg1 (d := .lst ([.int x, .int y, .str w, .tup [.int x, .int y], .tup [.int x, .int 1], .tup [.int 1, .int x], .tup [.int 0, .int x], .lst [.int x, .int 1], .tup [.int x], .tup [.int x, .int y, .int 1], .tup [.str w, .int 1]] ++ [.tup [.int (2 * a), .int (2 + 2 * b)], .tup [.int (1 + c), .int (1 + d)]])) (m1 := [o7]) (ev_bin (ev_var rfl) (ev_lstB (ev_cons (ev_tupB (ev_cons (ev_bin ev_int (ev_call (ev_cons (ev_var rfl) (ev_cons ev_int ev_nil)) rfl e4) (m2 _ _ a0 (by omega))) (ev_cons (ev_bin ev_int (ev_bin ev_int (ev_call (ev_cons (ev_var rfl) (ev_cons ev_int ev_nil)) rfl e5) (m2 _ _ b0 (by omega))) op_ad) ev_nil)) rfl)
      (ev_cons (ev_tupB (ev_cons (ev_bin ev_int (ev_call (ev_cons (ev_var rfl) (ev_cons ev_int ev_nil)) rfl e6) op_ad) (ev_cons (ev_bin ev_int (ev_call (ev_cons (ev_var rfl) (ev_cons ev_int ev_nil)) rfl e7) op_ad) ev_nil)) rfl) ev_nil)) rfl) (add_lst (by simp)))).trans ?_
    refine (st_asg1 (d := .lst (([.int x, .int y, .str w, .tup [.int x, .int y], .tup [.int x, .int 1], .tup [.int 1, .int x], .tup [.int 0, .int x], .lst [.int x, .int 1], .tup [.int x], .tup [.int x, .int y, .int 1], .tup [.str w, .int 1]] ++ [.tup [.int (2 * a), .int (2 + 2 * b)], .tup [.int (1 + c), .int (1 + d)]]) ++ [.tup [.int x, .bl true], .tup [.bl true, .int 1], .tup [.non, .int 1], .tup [.int 1, .non], .tup [.str "1", .int 2], .tup [.tup [.int 1, .int 2], .tup [.int 1, .int 2]], .dct [(.int 1, .int 2)], .str (Str.ofString (toString x))])) (m1 := [o7]) (ev_bin (ev_var rfl) (e := .lst [.tup [.int x, .bl true], .tup [.bl true, .int 1], .tup [.non, .int 1], .tup [.int 1, .non], .tup [.str "1", .int 2], .tup [.tup [.int 1, .int 2], .tup [.int 1, .int 2]], .dct [(.int 1, .int 2)], .str (Str.ofString (toString x))]) (m2 := [o7]) ?_ (add_lst (by simp)))).trans ?_
    · repeat' (first | exact ev_nil | apply ev_cons | exact ev_int | exact ev_str | exact ev_bl | exact ev_non | exact ev_dctI | exact ev_var rfl | apply ev_tupB | apply ev_lstB | apply ev_blt | exact strS hx | (simp only [List.length_cons, List.length_nil]; decide))
    refine st_ret (ev_bin (ev_var rfl) (e := .lst [.non, .bl true, .bl false, .str "", .str "a", .tup [], .lst [], .dct [], .tup [.int 0, .int 1], .tup [.int 1, .int 0], .tup [.int 0, .int 0], .tup [.int 1, .int (-1)], .tup [.int (-1), .int 1], .lst [.str w], .tup [.str w]]) (m2 := [o7]) ?_ (add_lst (by simp)))
    repeat' (first | exact ev_nil | apply ev_cons | exact ev_int | exact ev_str | exact ev_bl | exact ev_non | exact ev_dct0 | exact ev_neg ev_int | exact ev_var rfl | apply ev_tupB | apply ev_lstB | (simp only [List.length_cons, List.length_nil]; decide))
  unfold F_law_near_values runB
  simp only [List.map_cons, List.map_nil, List.length_cons, List.length_nil, Nat.reduceAdd, Nat.reduceSub, List.replicate, List.cons_append, List.nil_append] at key ⊢
  rw [key]
  have z1 := sm (i := 2 * a) (by omega) (by omega)
  have z2 := sm (i := 2 + 2 * b) (by omega) (by omega)
  have z3 := sm (i := 1 + c) (by omega) (by omega)
  have z4 := sm (i := 1 + d) (by omega) (by omega)
  have zs := str_int hx
  have l0 : (0 : Int).natAbs.log2 < 1920 := by decide
  have l1 : (1 : Int).natAbs.log2 < 1920 := by decide
  have l2 : (2 : Int).natAbs.log2 < 1920 := by decide
  have l3 : (-1 : Int).natAbs.log2 < 1920 := by decide
  refine ⟨_, _, rfl, p7, ⟨_, rfl, by simp, Nat.le_of_ble_eq_true rfl, ?_⟩, ?_⟩
  · simp only [List.all_cons, List.all_nil, small, lx, ly, lw, z1, z2, z3, z4, zs, l0, l1, l2, l3, str_a, str_e, str_1, List.length_cons, List.length_nil, decide_true, Bool.and_true]
    simp
  · simp only [noref, norefL, norefK, Bool.and_true]
end K00
namespace K00
open PySem HB L2
theorem ev_lstM0 {fs : List HB.Sem} {env : HB.Env} {m : M} {es : T} {ds : List D} (he : evA fs es env m = .ok ds []) (h : Nat.ble ds.length 1000 = true) : evE fs (.lstM es) env m = .ok (.ref 0) [.lst ds] := ev_lstM he (Nat.le_of_ble_eq_true h)
/-! ### the pot made -/
theorem pow_big (m : M) : bopD .pow (.int (10 ^ 59)) (.int 9) m = .ok (.int ((10 ^ 59) ^ 9)) m := by
  simp only [bopD, powD]
  rw [if_pos (by decide +kernel)]
  rfl
theorem pow18 (m : M) : bopD .pow (.int 10) (.int 18) m = .ok (.int (10 ^ 18)) m := by
  simp only [bopD, powD]
  rw [if_pos (by decide +kernel)]
  rfl
theorem r_pot {ns : List Int} {i : Int} (h0 : 0 ≤ i) (h1 : i ≤ 1000) : ∃ o, F_law_pot [.scr ns, .int i] [] = .ok (.ref 0) [o] ∧ Pot 0 o := by
  have sm : ∀ {i : Int}, 0 ≤ i → i ≤ 1000 → i.natAbs.log2 < 1920 := fun {i} h0 h1 => Nat.lt_trans (log_big (Nat.lt_of_lt_of_le (by omega : i.natAbs < 1001) (by decide))) (by decide)
  have hl := sm h0 h1
  have cell : ∃ z : Int, evE [] (.ite (.cmp .lt (.var 1) (.blt .len (.cons (.var 0) .nil))) (.ix (.var 0) (.var 1)) (.bin .add (.bin .mul (.int 97) (.var 1)) (.int 59))) [some (.scr ns), some (.int i), none, none, none] [] = .ok (.int z) [] := by
    have q1 : evE [] (.cmp .lt (.var 1) (.blt .len (.cons (.var 0) .nil))) [some (.scr ns), some (.int i), none, none, none] [] = .ok (.bl (decide (i < ((ns.map D.int).length : Int)))) [] := ev_cmp (ev_var rfl) (ev_blt (ev_cons (ev_var rfl) ev_nil) rfl) op_ltI
    by_cases c : i < ((ns.map D.int).length : Int)
    · obtain ⟨x, hx, hm⟩ := atI_lt (xs := ns.map D.int) h0 c
      obtain ⟨z, _, rfl⟩ := List.mem_map.mp hm
      refine ⟨z, ev_ite q1 (fun _ => ev_ix (ev_var rfl) (ev_var rfl) ?_) (fun z => by simp [c] at z; exact absurd z (by simpa using c))⟩
      simp only [ixD, viewQ, viewS, hx]
    · refine ⟨_, ev_ite q1 (fun z => absurd (of_decide_eq_true z) c) (fun _ => ev_bin (ev_bin ev_int (ev_var rfl) (op_ml ?_)) ev_int op_ad)⟩
      have : (97 : Int).natAbs.log2 = 6 := by decide
      omega
  obtain ⟨z, ez⟩ := cell
  have p1 : (2305843009213693921 : Int) ≠ 0 := by decide
  have p2 : (2305843009213693951 : Int) ≠ 0 := by decide
  have p0 : ((10 : Int) ^ 59) ^ 9 ≠ 0 := by decide +kernel
  have key : ∃ a b : Int, evS [] b_law_pot [some (.scr ns), some (.int i), none, none, none] [] = .rt (.ref 0) [.lst [.int a, .int b, .int 0]] := by
    unfold b_law_pot
    refine ⟨_, _, (st_asg1 ez).trans ((st_asg1 (ev_bin (ev_blt (b := .int) (ev_cons (ev_blt (b := .abs) (ev_cons (ev_var rfl) ev_nil) rfl) ev_nil) rfl) (ev_bin (ev_bin ev_int ev_int (pow59 _)) ev_int (pow_big _)) (op_md p0))).trans
      ((st_asg1 (ev_bin (ev_bin (ev_bin (ev_bin (ev_bin (ev_blt (b := .int) (ev_cons (ev_var rfl) ev_nil) rfl) ev_int (op_md p1)) ev_int (op_ml ?_)) (ev_bin ev_int (ev_var rfl) (op_ml ?_)) op_ad) (ev_bin ev_int (ev_blt (b := .int) (ev_cons (ev_cmp (ev_var rfl) ev_int op_ltI) ev_nil) rfl) (op_ml ?_)) op_ad) ev_int op_ad)).trans
      (st_ret (ev_lstM0 (ev_cons (ev_blt (b := .max) (ev_cons ev_int (ev_cons (ev_bin (ev_var rfl) (ev_bin ev_int ev_int (pow18 _)) op_sb) ev_nil)) rfl) (ev_cons (ev_bin (ev_blt (b := .int) (ev_cons (ev_var rfl) ev_nil) rfl) ev_int (op_md p2)) (ev_cons ev_int ev_nil))) rfl))))⟩
    · have bd : ∀ (i : Int), (i.fmod 2305843009213693921).natAbs.log2 < 62 := fun i => log_lt (by have := fmod_bd i 2305843009213693921 (by decide); omega) (by decide)
      have h2 : (1000187 : Int).natAbs.log2 = 19 := by decide
      have := bd ((if z < 0 then -z else z).fmod ((10 ^ 59) ^ 9))
      omega
    · have h2 : (7013 : Int).natAbs.log2 = 12 := by decide
      omega
    · have h2 : (29 : Int).natAbs.log2 = 4 := by decide
      have h3 : (if decide (z < 0) = true then (1 : Int) else 0).natAbs.log2 < 1920 := sm (by split <;> decide) (by split <;> decide)
      omega
  obtain ⟨a, b, e⟩ := key
  unfold F_law_pot runB
  simp only [List.map_cons, List.map_nil, List.length_cons, List.length_nil, Nat.reduceAdd, Nat.reduceSub, List.replicate, List.cons_append, List.nil_append]
  rw [e]
  exact ⟨_, rfl, a, b, 0, rfl, by decide, by decide⟩
/-! ### calls at the end of the store -/
theorem PotFn.last {sem : HB.Sem} {args : List D} {k : Nat} {Q : D → Prop} (h : PotFn sem args k Q) (ha : norefL args = true) {m : M} {n : Nat} {o : MO} (hp : Pot n o) (hn : n + k ≤ 100000) : ∃ d o2, callD sem (.ref m.length :: args) (m ++ [o]) = .ok d (m ++ [o2]) ∧ Pot (n + k) o2 ∧ Q d ∧ noref d = true := by
  obtain ⟨d, o2, e, p, q, nr⟩ := h.call ha (m := m ++ [o]) (j := m.length) last_get hp hn
  rw [last_set] at e
  exact ⟨d, o2, e, p, q, nr⟩
abbrev FS : List HB.Sem := [F_law_pot, F_law_near_values, F_is_fraction, F_is_name, F_is_integer, F_law_is_quotient, F_law_is_word, F_law_is_whole, F_law_whole, F_law_stir, F_law_one_of, F_law_lowest_told, F_law_lowest_due, F_lowest]
/-! ### the judges are asked -/
def jBody : S := (.cons (.asg (.name 2) (.lst (.cons (.call 4 (.cons (.var 5) .nil)) (.cons (.call 3 (.cons (.var 5) .nil)) (.cons (.call 2 (.cons (.var 5) .nil)) .nil)))))
    (.cons (.ife (.cmp .ne (.blt .repr (.cons (.var 2) .nil)) (.blt .repr (.cons (.lst (.cons (.call 7 (.cons (.var 5) .nil)) (.cons (.call 6 (.cons (.var 5) .nil)) (.cons (.call 5 (.cons (.var 5) .nil)) .nil)))) .nil))) (.cons (.ret (.bl false))
    .nil) .nil)
    .nil))
theorem j_step {d : D} {env : HB.Env} {m : M} {n : Nat} (hd : small n d = true) (h5 : env[5]? = some (some d)) (hl : env.length = 15) : evS FS jBody env m = .nx (env.set 2 (some (.lst [.bl (isIntD d), .bl (isNameD d), .bl (isFrD d)]))) m := by
  have nd := small_noref n d hd
  have hs : ∀ x, d = .str x → x.length ≤ 100 := by
    rintro x rfl
    exact (small_str hd).1
  have na : norefL [d] = true := by simp [norefL, nd]
  obtain ⟨s, hr⟩ := repr_small (n := 1) (by decide) (d := .lst [.bl (isIntD d), .bl (isNameD d), .bl (isFrD d)]) (by simp [small]) m
  replace hr : bfD .repr [.lst [.bl (isIntD d), .bl (isNameD d), .bl (isFrD d)]] m = .ok (.str s) m := hr
  have e2 : (env.set 2 (some (.lst [.bl (isIntD d), .bl (isNameD d), .bl (isFrD d)])))[2]? = some (some (.lst [.bl (isIntD d), .bl (isNameD d), .bl (isFrD d)])) := has_self (by omega)
  have e5 : (env.set 2 (some (.lst [.bl (isIntD d), .bl (isNameD d), .bl (isFrD d)])))[5]? = some (some d) := has_ne h5 (by decide)
  unfold jBody
  refine (st_asg1 (ev_lstB (ev_cons (ev_call (ev_cons (ev_var h5) ev_nil) rfl (call_pure na (r_is_integer (small_plain hd)) rfl)) (ev_cons (ev_call (ev_cons (ev_var h5) ev_nil) rfl (call_pure na (r_is_name (small_plain hd) hs) rfl)) (ev_cons (ev_call (ev_cons (ev_var h5) ev_nil) rfl (call_pure na (r_is_fraction hd) rfl)) ev_nil))) rfl)).trans ?_
  refine (st_ifF (ev_cmp (ev_blt (b := .repr) (ev_cons (ev_var e2) ev_nil) hr) (ev_blt (b := .repr) (ev_cons (ev_lstB (ev_cons (ev_call (ev_cons (ev_var e5) ev_nil) rfl (call_pure na (r_law_is_whole (small_plain hd)) rfl)) (ev_cons (ev_call (ev_cons (ev_var e5) ev_nil) rfl (call_pure na (r_law_is_word hd) rfl)) (ev_cons (ev_call (ev_cons (ev_var e5) ev_nil) rfl (call_pure na (r_law_is_quotient hd) rfl)) ev_nil))) rfl) ev_nil) hr) op_neS) (by simp)).trans ?_
  exact st_nil
/-! ### fractions are asked -/
def fBody : S := (.cons (.asg (.name 2) (.call 11 (.cons (.var 13) (.cons (.var 14) .nil))))
    (.cons (.ife (.or (.cmp .ne (.blt .repr (.cons (.var 2) .nil)) (.blt .repr (.cons (.call 12 (.cons (.var 13) (.cons (.var 14) .nil))) .nil))) (.and (.cmp .eq (.ix (.var 2) (.int 0)) (.str "told")) (.not (.call 2 (.cons (.ix (.var 2) (.int 1)) .nil))))) (.cons (.ret (.bl false))
    .nil) .nil)
    .nil))
theorem low_small {a b : Int} (h0 : b ≠ 0) (ha : a.natAbs < 10 ^ 60) (hb : b.natAbs < 10 ^ 60) : small 1 (lowT a b) = true := by
  have h := low_isFr h0 ha hb
  simp only [lowT, isFrD, Bool.and_eq_true, decide_eq_true_eq] at h
  have l1 : (a.fdiv (sgG a b)).natAbs.log2 < 1920 := Nat.lt_trans (log_big (Nat.lt_trans h.1.1 (by decide))) (by decide)
  have l2 : (b.fdiv (sgG a b)).natAbs.log2 < 1920 := Nat.lt_trans (log_big (Nat.lt_trans h.1.2 (by decide))) (by decide)
  simp [lowT, small, l1, l2]
theorem str_told : strB (Str.ofString "told") = true := by decide +kernel
theorem str_no : strB (Str.ofString "no") = true := by decide +kernel
theorem told_cases {d e : D} {n : Nat} (hd : small n d = true) (he : small n e = true) : (∃ x, toldD d e = .tup [.str "no", x] ∧ small n x = true) ∨ ∃ a b : Int, toldD d e = .tup [.str "told", lowT a b] ∧ isFrD (lowT a b) = true ∧ small 1 (lowT a b) = true := by
  unfold toldD
  cases hi : isIntD d with
  | false => exact .inl ⟨d, by simp, hd⟩
  | true =>
    cases hz : (!isIntD e || isZ e) with
    | true => exact .inl ⟨e, by simp, he⟩
    | false =>
      simp only [Bool.or_eq_false_iff, Bool.not_eq_eq_eq_not, Bool.not_false] at hz
      obtain ⟨a, rfl, ha⟩ := isInt_of hi
      obtain ⟨b, rfl, hb⟩ := isInt_of hz.1
      have h0 : b ≠ 0 := by simpa [isZ] using hz.2
      exact .inr ⟨a, b, by simp, low_isFr h0 ha hb, low_small h0 ha hb⟩
theorem f_step {d e : D} {env : HB.Env} {m : M} (hd : small 2 d = true) (he : small 2 e = true) (h13 : env[13]? = some (some d)) (h14 : env[14]? = some (some e)) (hl : env.length = 15) : evS FS fBody env m = .nx (env.set 2 (some (toldD d e))) m := by
  have nd := small_noref 2 d hd
  have ne := small_noref 2 e he
  have na : norefL [d, e] = true := by simp [norefL, nd, ne]
  have tc := told_cases hd he
  have ts : small 3 (toldD d e) = true := by
    rcases tc with ⟨x, e1, hx⟩ | ⟨a, b, e1, _, hs⟩
    · rw [e1]; simp [small, str_no, hx]
    · rw [e1]
      have := small_up 1 _ hs
      simp [small, str_told, this]
  have tn := small_noref 3 _ ts
  obtain ⟨s, hr⟩ := repr_small (n := 3) (by decide) ts m
  replace hr : bfD .repr [toldD d e] m = .ok (.str s) m := hr
  have e13 : (env.set 2 (some (toldD d e)))[13]? = some (some d) := has_ne h13 (by decide)
  have e14 : (env.set 2 (some (toldD d e)))[14]? = some (some e) := has_ne h14 (by decide)
  have e2 : (env.set 2 (some (toldD d e)))[2]? = some (some (toldD d e)) := has_self (by omega)
  unfold fBody
  refine (st_asg1 (ev_call (ev_cons (ev_var h13) (ev_cons (ev_var h14) ev_nil)) rfl (call_pure na (r_told hd he) tn))).trans ?_
  have q1 : evE FS (.cmp .ne (.blt .repr (.cons (.var 2) .nil)) (.blt .repr (.cons (.call 12 (.cons (.var 13) (.cons (.var 14) .nil))) .nil))) (env.set 2 (some (toldD d e))) m = .ok (.bl false) m := by
    rw [ev_cmp (ev_blt (b := .repr) (ev_cons (ev_var e2) ev_nil) hr) (ev_blt (b := .repr) (ev_cons (ev_call (ev_cons (ev_var e13) (ev_cons (ev_var e14) ev_nil)) rfl (call_pure na (r_due hd he) tn)) ev_nil) hr) op_neS]
    simp
  have q2 : evE FS (.and (.cmp .eq (.ix (.var 2) (.int 0)) (.str "told")) (.not (.call 2 (.cons (.ix (.var 2) (.int 1)) .nil)))) (env.set 2 (some (toldD d e))) m = .ok (.bl false) m := by
    rcases tc with ⟨x, e1, hx⟩ | ⟨a, b, e1, hf, hs⟩
    · rw [e1] at e2 ⊢
      have z : decide (Str.ofString "no" = Str.ofString "told") = false := by decide
      rw [ev_and (y := false) (ev_cmp (ev_ix (ev_var e2) ev_int ix_tup2.1) ev_str op_eqS) (fun w => by rw [z] at w; cases w), z]
      rfl
    · rw [e1] at e2 ⊢
      have q : evE FS (.call 2 (.cons (.ix (.var 2) (.int 1)) .nil)) (env.set 2 (some (.tup [.str "told", lowT a b]))) m = .ok (.bl (isFrD (lowT a b))) m :=
        ev_call (ev_cons (ev_ix (ev_var e2) ev_int ix_tup2.2) ev_nil) rfl (call_pure (by simp [norefL, small_noref 1 _ hs]) (r_is_fraction hs) rfl)
      rw [ev_and (ev_cmp (ev_ix (ev_var e2) ev_int ix_tup2.1) ev_str op_eqS) (fun w => ev_not q), hf]
      simp
  refine (st_ifF (ev_or q1 fun _ => q2) rfl).trans ?_
  exact st_nil
end K00
namespace K00
open PySem HB L2
def pBody : S := (.cons (.asg (.name 6) (.lst (.cons (.tup (.cons (.var 7) (.cons (.var 8) .nil))) (.cons (.tup (.cons (.var 8) (.cons (.var 7) .nil))) (.cons (.tup (.cons (.var 11) (.cons (.var 12) .nil))) (.cons (.tup (.cons (.bin .mul (.var 11) (.var 9)) (.cons (.bin .mul (.var 12) (.var 9)) .nil))) (.cons (.tup (.cons (.var 7) (.cons (.var 10) .nil))) (.cons (.tup (.cons (.var 10) (.cons (.int 0) .nil))) (.cons (.tup (.cons (.var 10) (.cons (.var 8) .nil))) (.cons (.tup (.cons (.int 0) (.cons (.var 7) .nil))) .nil))))))))))
    (.cons (.fr (.tup (.cons (.name 13) (.cons (.name 14) .nil))) (.var 6) fBody)
    .nil))
def qBody : S := (.cons (.par 7 8 (.call 8 (.cons (.var 3) .nil)) (.call 8 (.cons (.var 3) .nil)))
    (.cons (.par 9 10 (.bin .add (.int 1) (.call 9 (.cons (.var 3) (.cons (.int 99) .nil)))) (.call 10 (.cons (.var 3) (.cons (.var 4) .nil))))
    (.cons (.par 11 12 (.bin .sub (.call 9 (.cons (.var 3) (.cons (.int 61) .nil))) (.int 30)) (.bin .sub (.call 9 (.cons (.var 3) (.cons (.int 61) .nil))) (.int 30)))
    pBody)))
def lBody : S := (.cons (.asg (.name 3) (.call 0 (.cons (.var 0) (.cons (.var 1) .nil))))
    (.cons (.asg (.name 4) (.call 1 (.cons (.var 3) .nil)))
    (.cons (.fr (.name 5) (.var 4) jBody)
    qBody)))
theorem p_step {env : HB.Env} {m : M} {s0 d10 : D} {x y a b k : Int} (hl : env.length = 15) (h0 : env[0]? = some (some s0)) (h7 : env[7]? = some (some (.int x))) (h8 : env[8]? = some (some (.int y))) (h9 : env[9]? = some (some (.int k))) (h10 : env[10]? = some (some d10)) (h11 : env[11]? = some (some (.int a))) (h12 : env[12]? = some (some (.int b)))
    (sx : small 2 (.int x) = true) (sy : small 2 (.int y) = true) (sd : small 2 d10 = true) (ka : a.natAbs ≤ 1000) (kb : b.natAbs ≤ 1000) (kk : k.natAbs ≤ 1000) : ∃ e2, evS FS pBody env m = .nx e2 m ∧ e2.length = 15 ∧ e2[0]? = some (some s0) := by
  have lg : ∀ {i : Int}, i.natAbs ≤ 10 ^ 7 → i.natAbs.log2 < 1920 := fun {i} h => Nat.lt_trans (log_big (Nat.lt_of_le_of_lt h (by decide))) (by decide)
  have sm : ∀ {i : Int}, i.natAbs ≤ 10 ^ 7 → small 2 (.int i) = true := fun {i} h => by simp [small, lg h]
  have ml : ∀ {i j : Int} {m : M}, i.natAbs ≤ 1000 → j.natAbs ≤ 1000 → bopD .mul (.int i) (.int j) m = .ok (.int (i * j)) m := fun {i j m} h1 h2 => op_ml (by
    have := lg (i := i) (by omega)
    have := lg (i := j) (by omega)
    omega)
  have mb : ∀ {i j : Int}, i.natAbs ≤ 1000 → j.natAbs ≤ 1000 → (i * j).natAbs ≤ 10 ^ 7 := fun {i j} h1 h2 => by
    rw [Int.natAbs_mul]
    exact Nat.le_trans (Nat.mul_le_mul h1 h2) (by decide)
  unfold pBody
  have s1 := st_asg1 (fs := FS) (m := m) (m1 := m) (i := 6) (r := .cons (.fr (.tup (.cons (.name 13) (.cons (.name 14) .nil))) (.var 6) fBody) .nil) (ev_lstB (ev_cons (ev_tupB (ev_cons (ev_var h7) (ev_cons (ev_var h8) ev_nil)) rfl) (ev_cons (ev_tupB (ev_cons (ev_var h8) (ev_cons (ev_var h7) ev_nil)) rfl) (ev_cons (ev_tupB (ev_cons (ev_var h11) (ev_cons (ev_var h12) ev_nil)) rfl) (ev_cons (ev_tupB (ev_cons (ev_bin (ev_var h11) (ev_var h9) (ml ka kk)) (ev_cons (ev_bin (ev_var h12) (ev_var h9) (ml kb kk)) ev_nil)) rfl) (ev_cons (ev_tupB (ev_cons (ev_var h7) (ev_cons (ev_var h10) ev_nil)) rfl) (ev_cons (ev_tupB (ev_cons (ev_var h10) (ev_cons (ev_int (i := 0)) ev_nil)) rfl) (ev_cons (ev_tupB (ev_cons (ev_var h10) (ev_cons (ev_var h8) ev_nil)) rfl) (ev_cons (ev_tupB (ev_cons (ev_int (i := 0)) (ev_cons (ev_var h7) ev_nil)) rfl) ev_nil)))))))) rfl)
  obtain ⟨e2, m2, q, hl2, h02, rfl⟩ := for_inv (step := frStep FS (.tup (.cons (.name 13) (.cons (.name 14) .nil))) fBody) (fun _ env m' => env.length = 15 ∧ env[0]? = some (some s0) ∧ m' = m)
    (xs := [.tup [.int x, .int y], .tup [.int y, .int x], .tup [.int a, .int b], .tup [.int (a * k), .int (b * k)], .tup [.int x, d10], .tup [d10, .int 0], .tup [d10, .int y], .tup [.int 0, .int x]]) (env := env.set 6 (some (.lst [.tup [.int x, .int y], .tup [.int y, .int x], .tup [.int a, .int b], .tup [.int (a * k), .int (b * k)], .tup [.int x, d10], .tup [d10, .int 0], .tup [d10, .int y], .tup [.int 0, .int x]]))) (m := m) (n := 0) ⟨by simp [hl], has_ne h0 (by decide), rfl⟩ (by
      rintro z hz _ env m' _ ⟨hl, h0, rfl⟩
      have hz2 : ∃ u v, z = .tup [u, v] ∧ small 2 u = true ∧ small 2 v = true := by
        simp only [List.mem_cons, List.not_mem_nil, or_false] at hz
        rcases hz with rfl | rfl | rfl | rfl | rfl | rfl | rfl | rfl
        · exact ⟨_, _, rfl, sx, sy⟩
        · exact ⟨_, _, rfl, sy, sx⟩
        · exact ⟨_, _, rfl, sm (by omega), sm (by omega)⟩
        · exact ⟨_, _, rfl, sm (mb ka kk), sm (mb kb kk)⟩
        · exact ⟨_, _, rfl, sx, sd⟩
        · exact ⟨_, _, rfl, sd, sm (by decide)⟩
        · exact ⟨_, _, rfl, sd, sy⟩
        · exact ⟨_, _, rfl, sm (by decide), sx⟩
      obtain ⟨u, v, rfl, su, sv⟩ := hz2
      refine ⟨((env.set 13 (some u)).set 14 (some v)).set 2 (some (toldD u v)), m', ?_, ?_, ?_, rfl⟩
      · simp only [frStep, asgG, asgGs]
        exact f_step su sv (has_ne (has_self (by omega)) (by decide)) (has_self (by simp [hl])) (by simp [hl])
      · simp [hl]
      · exact has_ne (has_ne (has_ne h0 (by decide)) (by decide)) (by decide))
  refine ⟨e2, s1.trans ((st_fr (ev_var (has_self (by omega))) rfl q).trans st_nil), hl2, h02⟩
theorem small_int {i : Int} (h : i.natAbs < 10 ^ 61) : small 2 (.int i) = true := by
  have : i.natAbs.log2 < 1920 := Nat.lt_trans (log_big (Nat.lt_trans h (by decide))) (by decide)
  simp [small, this]
theorem q_step {env : HB.Env} {m : M} {s0 : D} {o : MO} {n : Nat} {ds : List D} (hl : env.length = 15) (h0 : env[0]? = some (some s0)) (h3 : env[3]? = some (some (.ref m.length))) (h4 : env[4]? = some (some (.lst ds))) (hd : ds ≠ []) (hdl : ds.length ≤ 100) (hs : ds.all (small 2) = true) (hp : Pot n o) (hn : n ≤ 1000) :
    ∃ e2 m2, evS FS qBody env (m ++ [o]) = .nx e2 m2 ∧ e2.length = 15 ∧ e2[0]? = some (some s0) := by
  rw [List.all_eq_true] at hs
  have nr : norefL ds = true := norefL_all fun d h => small_noref 2 d (hs d h)
  obtain ⟨d1, o1, e1, p1, ⟨x, rfl, hx⟩, _⟩ := r_whole.last rfl (m := m) hp (by omega)
  obtain ⟨d2, o2, e2, p2, ⟨y, rfl, hy⟩, _⟩ := r_whole.last rfl (m := m) p1 (by omega)
  obtain ⟨d3, o3, e3, p3, ⟨k, rfl, k0, k1⟩, _⟩ := (r_stir (t := 99) (by decide) (by decide)).last rfl (m := m) p2 (by omega)
  obtain ⟨d4, o4, e4, p4, q4, _⟩ := (r_one_of_lst hd (by omega) nr fun d h => small_noref 2 d (hs d h)).last (by simp [norefL, noref, nr]) (m := m) p3 (by omega)
  obtain ⟨d5, o5, e5, p5, ⟨a, rfl, a0, a1⟩, _⟩ := (r_stir (t := 61) (by decide) (by decide)).last rfl (m := m) p4 (by omega)
  obtain ⟨d6, o6, e6, p6, ⟨b, rfl, b0, b1⟩, _⟩ := (r_stir (t := 61) (by decide) (by decide)).last rfl (m := m) p5 (by omega)
  unfold qBody
  have s1 := st_par (fs := FS) (i := 7) (j := 8) (a := .call 8 (.cons (.var 3) .nil)) (b := .call 8 (.cons (.var 3) .nil)) (r := .cons (.par 9 10 (.bin .add (.int 1) (.call 9 (.cons (.var 3) (.cons (.int 99) .nil)))) (.call 10 (.cons (.var 3) (.cons (.var 4) .nil)))) (.cons (.par 11 12 (.bin .sub (.call 9 (.cons (.var 3) (.cons (.int 61) .nil))) (.int 30)) (.bin .sub (.call 9 (.cons (.var 3) (.cons (.int 61) .nil))) (.int 30))) pBody)) (ev_call (ev_cons (ev_var h3) ev_nil) rfl e1) (ev_call (ev_cons (ev_var h3) ev_nil) rfl e2)
  have g3 : ((env.set 7 (some (.int x))).set 8 (some (.int y)))[3]? = some (some (.ref m.length)) := has_ne (has_ne h3 (by decide)) (by decide)
  have g4 : ((env.set 7 (some (.int x))).set 8 (some (.int y)))[4]? = some (some (.lst ds)) := has_ne (has_ne h4 (by decide)) (by decide)
  have s2 := st_par (fs := FS) (i := 9) (j := 10) (a := .bin .add (.int 1) (.call 9 (.cons (.var 3) (.cons (.int 99) .nil)))) (b := .call 10 (.cons (.var 3) (.cons (.var 4) .nil))) (r := .cons (.par 11 12 (.bin .sub (.call 9 (.cons (.var 3) (.cons (.int 61) .nil))) (.int 30)) (.bin .sub (.call 9 (.cons (.var 3) (.cons (.int 61) .nil))) (.int 30))) pBody) (ev_bin ev_int (ev_call (ev_cons (ev_var g3) (ev_cons ev_int ev_nil)) rfl e3) op_ad) (ev_call (ev_cons (ev_var g3) (ev_cons (ev_var g4) ev_nil)) rfl e4)
  have f3 : ((((env.set 7 (some (.int x))).set 8 (some (.int y))).set 9 (some (.int (1 + k)))).set 10 (some d4))[3]? = some (some (.ref m.length)) := has_ne (has_ne g3 (by decide)) (by decide)
  have s3 := st_par (fs := FS) (i := 11) (j := 12) (a := .bin .sub (.call 9 (.cons (.var 3) (.cons (.int 61) .nil))) (.int 30)) (b := .bin .sub (.call 9 (.cons (.var 3) (.cons (.int 61) .nil))) (.int 30)) (r := pBody) (ev_bin (ev_call (ev_cons (ev_var f3) (ev_cons ev_int ev_nil)) rfl e5) ev_int op_sb) (ev_bin (ev_call (ev_cons (ev_var f3) (ev_cons ev_int ev_nil)) rfl e6) ev_int op_sb)
  obtain ⟨ee, q, l, z⟩ := p_step (m := m ++ [o6]) (s0 := s0) (env := (((((env.set 7 (some (.int x))).set 8 (some (.int y))).set 9 (some (.int (1 + k)))).set 10 (some d4)).set 11 (some (.int (a - 30)))).set 12 (some (.int (b - 30)))) (d10 := d4) (x := x) (y := y) (a := a - 30) (b := b - 30) (k := 1 + k) (by simp [hl])
    (by simpa [List.getElem?_set] using h0) (by simp [List.getElem?_set, hl]) (by simp [List.getElem?_set, hl]) (by simp [List.getElem?_set, hl]) (by simp [List.getElem?_set, hl]) (by simp [List.getElem?_set, hl]) (by simp [List.getElem?_set, hl])
    (small_int hx) (small_int hy) (hs d4 q4) (by omega) (by omega) (by omega)
  exact ⟨ee, _, s1.trans (s2.trans (s3.trans q)), l, z⟩
theorem l_step {env : HB.Env} {m : M} {ns : List Int} {i : Int} (hl : env.length = 15) (h0 : env[0]? = some (some (.scr ns))) (h1 : env[1]? = some (some (.int i))) (i0 : 0 ≤ i) (i1 : i ≤ 1000) : ∃ e2 m2, evS FS lBody env m = .nx e2 m2 ∧ e2.length = 15 ∧ e2[0]? = some (some (.scr ns)) := by
  obtain ⟨o, eo, p0⟩ := r_pot (ns := ns) i0 i1
  obtain ⟨dn, o1, e1, p1, ⟨ds, rfl, hd, hdl, hs⟩, _⟩ := r_near.last rfl (m := m) p0 (by decide)
  have hs2 := hs
  rw [List.all_eq_true] at hs2
  have s1 := st_asg1 (fs := FS) (i := 3) (e := .call 0 (.cons (.var 0) (.cons (.var 1) .nil))) (r := .cons (.asg (.name 4) (.call 1 (.cons (.var 3) .nil))) (.cons (.fr (.name 5) (.var 4) jBody) qBody)) (ev_call (ev_cons (ev_var h0) (ev_cons (ev_var h1) ev_nil)) rfl (call_new (m := m) (by simp [norefL, noref]) eo p0.noref))
  have g3 : (env.set 3 (some (.ref m.length)))[3]? = some (some (.ref m.length)) := has_self (by omega)
  have s2 := st_asg1 (fs := FS) (i := 4) (e := .call 1 (.cons (.var 3) .nil)) (r := .cons (.fr (.name 5) (.var 4) jBody) qBody) (ev_call (ev_cons (ev_var g3) ev_nil) rfl e1)
  obtain ⟨e2, m2, q, hl2, h02, h32, h42, rfl⟩ := for_inv (step := frStep FS (.name 5) jBody) (fun _ env m' => env.length = 15 ∧ env[0]? = some (some (.scr ns)) ∧ env[3]? = some (some (.ref m.length)) ∧ env[4]? = some (some (.lst ds)) ∧ m' = m ++ [o1]) (xs := ds) (env := (env.set 3 (some (.ref m.length))).set 4 (some (.lst ds))) (m := m ++ [o1]) (n := 0)
    ⟨by simp [hl], has_ne (has_ne h0 (by decide)) (by decide), has_ne g3 (by decide), has_self (by simp [hl]), rfl⟩ (by
      rintro z hz _ env m' _ ⟨hl, h0, h3, h4, rfl⟩
      refine ⟨(env.set 5 (some z)).set 2 (some (.lst [.bl (isIntD z), .bl (isNameD z), .bl (isFrD z)])), m ++ [o1], ?_, ?_, ?_, ?_, ?_, rfl⟩
      · simp only [frStep, asgG]
        exact j_step (hs2 z hz) (has_self (by omega)) (by simp [hl])
      · simp [hl]
      · exact has_ne (has_ne h0 (by decide)) (by decide)
      · exact has_ne (has_ne h3 (by decide)) (by decide)
      · exact has_ne (has_ne h4 (by decide)) (by decide))
  obtain ⟨e3, m3, q3, l3, z3⟩ := q_step hl2 h02 h32 h42 hd hdl hs p1 (by decide)
  exact ⟨e3, m3, s1.trans (s2.trans ((st_fr (ev_var (has_self (by simp [hl]))) rfl q).trans q3)), l3, z3⟩
end K00
namespace K00
open PySem HB L2
def eBody : S := (.cons (.asg (.name 2) (.lst (.cons (.call 13 (.cons (.int 4) (.cons (.neg (.int 6)) .nil))) (.cons (.call 13 (.cons (.int 0) (.cons (.int 5) .nil))) (.cons (.call 2 (.cons (.tup (.cons (.int 1) (.cons (.int 2) .nil))) .nil)) (.cons (.call 2 (.cons (.tup (.cons (.int 2) (.cons (.int 4) .nil))) .nil)) (.cons (.call 2 (.cons (.tup (.cons (.neg (.int 3)) (.cons (.int 1) .nil))) .nil)) (.cons (.call 4 (.cons (.bl true) .nil)) .nil))))))))
    (.cons (.ret (.and (.cmp .eq (.var 2) (.lst (.cons (.tup (.cons (.neg (.int 2)) (.cons (.int 3) .nil))) (.cons (.tup (.cons (.int 0) (.cons (.int 1) .nil))) (.cons (.bl true) (.cons (.bl false) (.cons (.bl true) (.cons (.bl false) .nil)))))))) (.cmp .eq (.lst (.cons (.gint "MAX_DIGITS" 60) (.cons (.gint "MAX_NAME" 8) (.cons (.gint "MAX_THINGS" 8) .nil)))) (.lst (.cons (.int 60) (.cons (.int 8) (.cons (.int 8) .nil)))))))
    .nil))
theorem b_law_eq : b_law = (.cons (.fr (.name 1) (.rng1 (.blt .max (.cons (.int 1) (.cons (.blt .min (.cons (.int 3) (.cons (.blt .len (.cons (.var 0) .nil)) .nil))) .nil)))) lBody) eBody) := rfl
theorem eq_c1 (m : M) : copD .eq (.lst [.tup [.int (-2), .int 3], .tup [.int 0, .int 1], .bl true, .bl false, .bl true, .bl false]) (.lst [.tup [.int (-2), .int 3], .tup [.int 0, .int 1], .bl true, .bl false, .bl true, .bl false]) m = .ok (.bl true) m := by
  simp only [copD, eqD, eqB, pyT, py, pyL, Option.map_some]
  rw [if_pos ⟨by decide +kernel, by decide +kernel⟩]
  rfl
theorem eq_c2 (m : M) : copD .eq (.lst [.int 60, .int 8, .int 8]) (.lst [.int 60, .int 8, .int 8]) m = .ok (.bl true) m := by
  simp only [copD, eqD, eqB, pyT, py, pyL, Option.map_some]
  rw [if_pos ⟨by decide +kernel, by decide +kernel⟩]
  rfl
theorem low_c1 (m : M) : F_lowest [.int 4, .int (-6)] m = .ok (.tup [.int (-2), .int 3]) m := by
  rw [r_lowest (n := 0) (k := 0) (by decide +kernel) (by decide +kernel), if_pos (by decide +kernel), if_pos (by decide +kernel)]
  have e1 : (4 : Int).fdiv (sgG 4 (-6)) = -2 := by decide +kernel
  have e2 : (-6 : Int).fdiv (sgG 4 (-6)) = 3 := by decide +kernel
  simp only [lowT, e1, e2]
theorem low_c2 (m : M) : F_lowest [.int 0, .int 5] m = .ok (.tup [.int 0, .int 1]) m := by
  rw [r_lowest (n := 0) (k := 0) (by decide +kernel) (by decide +kernel), if_pos (by decide +kernel), if_pos (by decide +kernel)]
  have e1 : (0 : Int).fdiv (sgG 0 5) = 0 := by decide +kernel
  have e2 : (5 : Int).fdiv (sgG 0 5) = 1 := by decide +kernel
  simp only [lowT, e1, e2]
theorem fr_c1 (m : M) : F_is_fraction [.tup [.int 1, .int 2]] m = .ok (.bl true) m := by
  rw [r_is_fraction (n := 1) (by decide +kernel), show isFrD (.tup [.int 1, .int 2]) = true by decide +kernel]
theorem fr_c2 (m : M) : F_is_fraction [.tup [.int 2, .int 4]] m = .ok (.bl false) m := by
  rw [r_is_fraction (n := 1) (by decide +kernel), show isFrD (.tup [.int 2, .int 4]) = false by decide +kernel]
theorem fr_c3 (m : M) : F_is_fraction [.tup [.int (-3), .int 1]] m = .ok (.bl true) m := by
  rw [r_is_fraction (n := 1) (by decide +kernel), show isFrD (.tup [.int (-3), .int 1]) = true by decide +kernel]
theorem e_step {env : HB.Env} {m : M} (hl : env.length = 15) : evS FS eBody env m = .rt (.bl true) m := by
  unfold eBody
  refine (st_asg1 (ev_lstB (ev_cons (ev_call (ev_cons ev_int (ev_cons (ev_neg ev_int) ev_nil)) rfl (call_pure rfl (low_c1 []) rfl)) (ev_cons (ev_call (ev_cons ev_int (ev_cons ev_int ev_nil)) rfl (call_pure rfl (low_c2 []) rfl))
    (ev_cons (ev_call (ev_cons (ev_tupB (ev_cons ev_int (ev_cons ev_int ev_nil)) rfl) ev_nil) rfl (call_pure rfl (fr_c1 []) rfl)) (ev_cons (ev_call (ev_cons (ev_tupB (ev_cons ev_int (ev_cons ev_int ev_nil)) rfl) ev_nil) rfl (call_pure rfl (fr_c2 []) rfl))
    (ev_cons (ev_call (ev_cons (ev_tupB (ev_cons (ev_neg ev_int) (ev_cons ev_int ev_nil)) rfl) ev_nil) rfl (call_pure rfl (fr_c3 []) rfl)) (ev_cons (ev_call (ev_cons ev_bl ev_nil) rfl (call_pure rfl (r_is_integer rfl) rfl)) ev_nil)))))) rfl)).trans ?_
  refine st_ret ?_
  have q1 := ev_cmp (fs := FS) (o := .eq) (a := .var 2) (b := .lst (.cons (.tup (.cons (.neg (.int 2)) (.cons (.int 3) .nil))) (.cons (.tup (.cons (.int 0) (.cons (.int 1) .nil))) (.cons (.bl true) (.cons (.bl false) (.cons (.bl true) (.cons (.bl false) .nil))))))) (ev_var (m := m) (has_self (env := env) (i := 2) (d := .lst [.tup [.int (-2), .int 3], .tup [.int 0, .int 1], .bl true, .bl false, .bl true, .bl (isIntD (.bl true))]) (by omega))) (ev_lstB (ev_cons (ev_tupB (ev_cons (ev_neg ev_int) (ev_cons ev_int ev_nil)) rfl) (ev_cons (ev_tupB (ev_cons ev_int (ev_cons ev_int ev_nil)) rfl) (ev_cons ev_bl (ev_cons ev_bl (ev_cons ev_bl (ev_cons ev_bl ev_nil)))))) rfl) (eq_c1 m)
  exact ev_and q1 fun _ => ev_cmp (ev_lstB (ev_cons ev_gint (ev_cons ev_gint (ev_cons ev_gint ev_nil))) rfl) (ev_lstB (ev_cons ev_int (ev_cons ev_int (ev_cons ev_int ev_nil))) rfl) (eq_c2 m)
theorem law_true : ∀ ns : List Int, ns.length ≤ 63 → (∀ z ∈ ns, Builtin.Int.intBits z ≤ 1048576) → ∃ m, F_law [.scr ns] [] = .ok (.bl true) m := by
  intro ns hn _
  have it : ∃ j : Int, evE FS (.rng1 (.blt .max (.cons (.int 1) (.cons (.blt .min (.cons (.int 3) (.cons (.blt .len (.cons (.var 0) .nil)) .nil))) .nil)))) [some (.scr ns), none, none, none, none, none, none, none, none, none, none, none, none, none, none] [] = .ok (.lst ((List.range j.toNat).map fun (i : Nat) => D.int (i : Int))) [] ∧ j ≤ 3 := by
    have q : evE FS (.blt .max (.cons (.int 1) (.cons (.blt .min (.cons (.int 3) (.cons (.blt .len (.cons (.var 0) .nil)) .nil))) .nil))) [some (.scr ns), none, none, none, none, none, none, none, none, none, none, none, none, none, none] [] = .ok (.int (if (if ((ns.map D.int).length : Int) < 3 then ((ns.map D.int).length : Int) else 3) > 1 then (if ((ns.map D.int).length : Int) < 3 then ((ns.map D.int).length : Int) else 3) else 1)) [] :=
      ev_blt (b := .max) (ev_cons ev_int (ev_cons (ev_blt (b := .min) (ev_cons ev_int (ev_cons (ev_blt (b := .len) (ev_cons (ev_var rfl) ev_nil) rfl) ev_nil)) rfl) ev_nil)) rfl
    have b : ∀ k : Int, 0 ≤ k → (if (if k < 3 then k else 3) > 1 then (if k < 3 then k else 3) else 1) ≤ 3 ∧ 1 ≤ (if (if k < 3 then k else 3) > 1 then (if k < 3 then k else 3) else 1) := by
      intro k hk
      split <;> split <;> omega
    have b2 := b ((ns.map D.int).length : Int) (by omega)
    exact ⟨_, ev_rng1 q (by omega) (by omega), b2.1⟩
  obtain ⟨j, e1, hj⟩ := it
  obtain ⟨e2, m2, q, hl, _⟩ := for_inv (step := frStep FS (.name 1) lBody) (fun _ env _ => env.length = 15 ∧ env[0]? = some (some (.scr ns))) (xs := (List.range j.toNat).map fun (i : Nat) => D.int (i : Int)) (env := [some (.scr ns), none, none, none, none, none, none, none, none, none, none, none, none, none, none]) (m := []) (n := 0) ⟨rfl, rfl⟩ (by
    rintro x hx _ env m _ ⟨hl, h0⟩
    obtain ⟨i, hi, rfl⟩ := List.mem_map.mp hx
    have hi2 := List.mem_range.mp hi
    obtain ⟨e2, m2, q, l, z⟩ := l_step (env := env.set 1 (some (.int (i : Int)))) (m := m) (ns := ns) (i := i) (by simp [hl]) (has_ne h0 (by decide)) (has_self (by omega)) (by omega) (by omega)
    exact ⟨e2, m2, by simp only [frStep, asgG]; exact q, l, z⟩)
  have fin : evS FS b_law [some (.scr ns), none, none, none, none, none, none, none, none, none, none, none, none, none, none] [] = .rt (.bl true) m2 := by
    rw [b_law_eq]
    exact (st_fr e1 rfl q).trans (e_step hl)
  refine ⟨m2, ?_⟩
  unfold F_law runB
  simp only [List.map_cons, List.map_nil, List.length_cons, List.length_nil, Nat.reduceAdd, Nat.reduceSub, List.replicate, List.cons_append, List.nil_append]
  rw [fin]
end K00
open PySem PySem.W PySem.Calls PyProof.Rows
theorem PySem.Challenge.cw_huebill_k00_integers_names_and_fractions_holds : PySem.Challenge.rw_huebill_k00_integers_names_and_fractions.Holds := by
  w_on; o_law
  refine HandSHeadRun.head_any (r := OpenLaw.row PySem.Challenge.rw_huebill_k00_integers_names_and_fractions) (q := view (OpenLaw.row PySem.Challenge.rw_huebill_k00_integers_names_and_fractions).prog [27]) (H := K00.hk) (ob := K00.ob) (M := 4000) (loose := K00.names) (d := HandSHeadRun.topDef (OpenLaw.row PySem.Challenge.rw_huebill_k00_integers_names_and_fractions).prog 27) (kwd := []) K00.ob_eq
    (by kernel_rfl) (fun s => by kernel_rfl) K00.run (by kernel_rfl) (by kernel_rfl) (by kernel_rfl) (by rfl) (by first | assumption | decide +kernel) (by decide +kernel) ⟨rfl, rfl, rfl, rfl, rfl, by decide +kernel⟩ ?hw ?hc
  case hw => w_witness2
  case hc =>
    refine HB.walk_data (l := PySem.Challenge.rw_huebill_k00_integers_names_and_fractions) (n := 63) (k := 5) (x := "_law_script") rfl (by decide) (by kernel_rfl) ⟨rfl, by decide, by decide⟩ ?F
    intro w mg fa h Y G hmg0
    obtain ⟨K, KX, c⟩ := Y
    have hmg : mg ("law" : PySem.Str) = some (.ref fa) := by
      have e : (HandSHeadRun.topDef (OpenLaw.row PySem.Challenge.rw_huebill_k00_integers_names_and_fractions).prog 27).name = ("law" : PySem.Str) := by kernel_rfl
      rw [← e]
      exact hmg0
    obtain ⟨fd, F⟩ := c.def_ 19 (d := HB.dOf "law" K00.st_law) rfl
    have hx : ∀ x f, (x, f) ∈ K00.xcs → HB.XOk PySem.Challenge.pw_huebill_k00_integers_names_and_fractions w K mg x f := by
      intro x f hm
      simp only [K00.xcs, List.mem_cons, List.not_mem_nil, or_false, Prod.mk.injEq] at hm
      rcases hm with ⟨rfl, rfl⟩
      · exact c.cls (P := PySem.Challenge.pw_huebill_k00_integers_names_and_fractions) KX G 0 (d := K00.x_InvalidNumber) rfl (K00.t_InvalidNumber w)
    have e := hmg.symm.trans (He.glo_ok KX G (c.fact (f := .glo "law") (by simp [HB.faOf, K00.gl])))
    cases e
    exact ⟨K, fd, _, KX, fun s u => L2.FunD.bindsA (ps := ["_law_script"]) F K00.bd_law s [u] rfl, K00.law_true, fun base kb _ =>
      HB.law_D (HB.al_of (ix := []) (P := PySem.Challenge.pw_huebill_k00_integers_names_and_fractions) KX G c kb (by decide +kernel) (by decide +kernel) hx (by intro r x b hm; simp only [K00.xsub, List.mem_cons, List.not_mem_nil, or_false, Prod.mk.injEq] at hm; rcases hm with ⟨rfl, rfl, rfl⟩ <;> decide +kernel)) (i := 0) F K00.sc_law (K00.cs_law (HB.al_of (ix := []) (P := PySem.Challenge.pw_huebill_k00_integers_names_and_fractions) KX G c kb (by decide +kernel) (by decide +kernel) hx (by intro r x b hm; simp only [K00.xsub, List.mem_cons, List.not_mem_nil, or_false, Prod.mk.injEq] at hm; rcases hm with ⟨rfl, rfl, rfl⟩ <;> decide +kernel))) K00.k_law⟩
