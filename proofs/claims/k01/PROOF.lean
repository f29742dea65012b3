import PyProof.Rows.All
import Wide.All
import OpenK.AllK
import Wide.FinOn
import HandS.ForMost
import HandS.ForExc
import HandS.IsInst
import HandS.Wide
import HandS.RaiseMore
import HandS.FStr
import HandS.CallSlots
import HandS.TupAny
import HandS.Deep
import HandS.ExcField
import HandS.ExcValue
import HandS.Style
import KE.KExcSuper
import PyProof.ExcBaseAll.IndexError
import PyProof.FString
import PyProof.ExcBaseAll.RuntimeError
import PyProof.ExcBaseAll.LookupError
import PyProof.ExcBaseAll.ArithmeticError
import PyProof.ExcBaseAll.OverflowError
import PyProof.ExcBaseAll.ValueError
import KE.KExcIs
import KE.KCallOwn
import HandS.Flow
import HandS.Conv
import PyProof.ListStr
import HandS.TryMany
import HandS.Ends
import HandS.EndBits
import KE.KStateDown
import HandS.Head0
import HandS.Head1
import HandS.Head2
import HandS.HeadHook1
import HandS.HeadHook2
import PyProof.StrLawsRepr
import PyProof.Rows.RegStrFacts
import PySem.Challenge.RW_huebill_k01_whole_errors
set_option Elab.async false
set_option linter.all false
set_option maxRecDepth 100000
set_option maxHeartbeats 0
namespace HB
open PySem L2

/-! ### deep data, the store of owned objects, results -/
/-- an exception object of the class cls, with the dict d, held as a value -/
def XV (cls : Value) (d : Option Addr) (a : Addr) : HO := .ext fun h => ∃ (oe : Obj) (vs : Array Value), h.get? a = some oe ∧ Zc cls d oe ∧ oe.data = .fields vs
theorem xv_ok {P : Program} {w : World} {H : Hp} {h : Heap} {a : Addr} {cls : Value} {d : Option Addr} {oe : Obj} {vs : Array Value} (e : h.get? a = some oe) (z : Zc cls d oe) (q : oe.data = .fields vs) : ObjOk P w H h a (XV cls d a) :=
  ⟨⟨oe, vs, e, z, q⟩, ⟨oe, e⟩, fun _ _ ⟨o, v, q, r⟩ k => ⟨o, v, k o q, r⟩⟩
inductive D where
  | non | bl (b : Bool) | int (i : Int) | str (x : Str) | tup (ds : List D) | lst (ds : List D)
  | dct (kvs : List (D × D)) | obj (c : Str) (fs : List (Str × D)) | exv (c : Str) (fs : List (Str × D)) | ref (i : Nat) | scr (ns : List Int)
inductive MO where
  | lst (ds : List D) | dct (kvs : List (D × D)) | ins (c : Str) (fs : List (Str × D)) | gone
abbrev M := List MO
structure Exc where
  name : Str
  fs : List (Str × D)
inductive R (α : Type) where
  | ok (a : α) (m : M) | ex (c : Exc) (m : M) | no
def R.bind {α β : Type} (r : R α) (k : α → M → R β) : R β := match r with
  | .ok a m => k a m
  | .ex c m => .ex c m
  | .no => .no

def keyD : Key → D
  | .inl i => .int i
  | .inr x => .str x

/-! ### representation -/
section
variable (K : PySem.W.Frag) (mg : Str → Option Value) (rho : List Addr) (F : Hp)
mutual
inductive Rp : V → D → Prop
  | non : Rp .non .non
  | bl {b} : Rp (.bl b) (.bl b)
  | int {i} : Rp (.int i) (.int i)
  | str {x} : Rp (.str x) (.str x)
  | tup {a vs ds} : SqT K F a vs → RpL vs ds → Rp (.ref a) (.tup ds)
  | lst {a vs ds} : F a = some (.lst vs) → RpL vs ds → Rp (.ref a) (.lst ds)
  | dK {a kvs ds} : F a = some (.dK kvs) → RpK kvs ds → Rp (.ref a) (.dct ds)
  | dT {a kvs ds} : F a = some (.dT kvs) → RpT kvs ds → Rp (.ref a) (.dct ds)
  | obj {a C dx fs gs c} : F a = some (.ins C dx fs) → mg c = some (.ref C) → RpF fs gs → Rp (.ref a) (.obj c gs)
  | xv0 {a C c} : F a = some (XV (.ref C) none a) → mg c = some (.ref C) → Rp (.ref a) (.exv c [])
  | xv {a C d fs gs c} : F a = some (XV (.ref C) (some d) a) → mg c = some (.ref C) → F d = some (.xd fs) → RpF fs gs → Rp (.ref a) (.exv c gs)
  | ref {i a} : rho[i]? = some a → Rp (.ref a) (.ref i)
  | scr {a ns} : SqL K F a (ns.map V.int) → Rp (.ref a) (.scr ns)
inductive RpL : List V → List D → Prop
  | nil : RpL [] []
  | cons {v d vs ds} : Rp v d → RpL vs ds → RpL (v :: vs) (d :: ds)
inductive RpF : List (Str × V) → List (Str × D) → Prop
  | nil : RpF [] []
  | cons {n v d vs ds} : Rp v d → RpF vs ds → RpF ((n, v) :: vs) ((n, d) :: ds)
inductive RpK : List (Key × V) → List (D × D) → Prop
  | nil : RpK [] []
  | cons {k v d vs ds} : Rp v d → RpK vs ds → RpK ((k, v) :: vs) ((keyD k, d) :: ds)
inductive RpT : List (List Key × V) → List (D × D) → Prop
  | nil : RpT [] []
  | cons {k v d vs ds} : Rp v d → RpT vs ds → RpT ((k, v) :: vs) ((.tup (k.map keyD), d) :: ds)
end
/-- what stands at an owned address -/
def RpM (H : Hp) (a : Addr) : MO → Prop
  | .lst ds => F a = none ∧ ∃ vs, H a = some (.lst vs) ∧ RpL K mg rho F vs ds
  | .dct kvs => F a = none ∧ ((∃ ks, H a = some (.dK ks) ∧ RpK K mg rho F ks kvs) ∨ ∃ ks, H a = some (.dT ks) ∧ RpT K mg rho F ks kvs)
  | .ins c gs => F a = none ∧ ∃ C dx fs, H a = some (.ins C dx fs) ∧ mg c = some (.ref C) ∧ RpF K mg rho F fs gs
  | .gone => True
structure Abs (H : Hp) (m : M) : Prop where
  ex : Same F H
  len : rho.length = m.length
  nd : rho.Nodup
  own : ∀ (i : Nat) a o, rho[i]? = some a → m[i]? = some o → RpM K mg rho F H a o
  all : ∀ a ∈ rho, ∃ o, H a = some o
inductive RpX : Exc → Value → Option Addr → Prop
  | bare {n C} : mg n = some (.ref C) → RpX ⟨n, []⟩ (.ref C) none
  | own {n C d fs gs} : mg n = some (.ref C) → F d = some (.xd fs) → RpF K mg rho F fs gs → RpX ⟨n, gs⟩ (.ref C) (some d)
def RpEnv (σ : L2.St) (env : List (Option D)) : Prop := σ.length = env.length ∧ ∀ (i : Nat) d, env[i]? = some (some d) → ∃ v, σ[i]? = some (some v) ∧ Rp K mg rho F v d
end

/-- from one state to a later one -/
structure Step (rho : List Addr) (F H : Hp) (rho' : List Addr) (F' H' : Hp) : Prop where
  pre : ∃ r1, rho' = rho ++ r1 ∧ ∀ a ∈ r1, H a = none
  ex : Same F F'
  dom : ∀ a o, H a = some o → ∃ o', H' a = some o'
  old : ∀ a o, H a = some o → a ∉ rho → H' a = some o ∧ F' a = F a

section
variable {K : PySem.W.Frag} {mg : Str → Option Value} {rho rho' rho2 : List Addr} {F F' F2 H H' H2 : Hp}
theorem Step.refl : Step rho F H rho F H := ⟨⟨[], by simp, by simp⟩, Same.refl F, fun _ o h => ⟨o, h⟩, fun _ _ h _ => ⟨h, rfl⟩⟩
theorem Step.trans (a : Step rho F H rho' F' H') (b : Step rho' F' H' rho2 F2 H2) : Step rho F H rho2 F2 H2 := by
  obtain ⟨r1, e1, h1⟩ := a.pre
  obtain ⟨r2, e2, h2⟩ := b.pre
  have nn : ∀ c o, H c = some o → c ∉ rho → c ∉ rho' := fun c o hc hn hm => by
    rw [e1] at hm
    rcases List.mem_append.mp hm with z | z
    · exact hn z
    · rw [h1 c z] at hc; cases hc
  refine ⟨⟨r1 ++ r2, by rw [e2, e1, List.append_assoc], fun c hc => ?_⟩, a.ex.trans b.ex, fun c o hc => ?_, fun c o hc hn => ?_⟩
  · rcases List.mem_append.mp hc with z | z
    · exact h1 c z
    · have q := h2 c z
      cases e : H c with
      | none => rfl
      | some o =>
        obtain ⟨o', e'⟩ := a.dom c o e
        rw [e'] at q; cases q
  · obtain ⟨o', q1⟩ := a.dom c o hc
    exact b.dom c o' q1
  · obtain ⟨q1, q2⟩ := a.old c o hc hn
    obtain ⟨q3, q4⟩ := b.old c o q1 (nn c o hc hn)
    exact ⟨q3, q4.trans q2⟩
theorem Step.ix (a : Step rho F H rho' F' H') {i : Nat} {x : Addr} (h : rho[i]? = some x) : rho'[i]? = some x := by
  obtain ⟨r1, e1, _⟩ := a.pre
  rw [e1, List.getElem?_append_left (List.getElem?_eq_some_iff.mp h).1]
  exact h
theorem sqT_mono {a : Addr} {xs : List V} (e : Same F F') (h : SqT K F a xs) : SqT K F' a xs := by
  rcases h with (h | ⟨o, h⟩) | h
  · exact .inl (.inl (e _ _ h))
  · exact .inl (.inr ⟨o, e _ _ h⟩)
  · exact .inr h
/-- a representation goes on: more owned objects, more that stands still -/
structure Onto (rho : List Addr) (F : Hp) (rho' : List Addr) (F' : Hp) : Prop where
  ix : ∀ {i : Nat} {x : Addr}, rho[i]? = some x → rho'[i]? = some x
  ex : Same F F'
theorem Step.onto (a : Step rho F H rho' F' H') : Onto rho F rho' F' := ⟨a.ix, a.ex⟩
mutual
theorem Rp.mono (s : Onto rho F rho' F') : ∀ {v : V} {d : D}, Rp K mg rho F v d → Rp K mg rho' F' v d
  | _, _, .non => .non
  | _, _, .bl => .bl
  | _, _, .int => .int
  | _, _, .str => .str
  | _, _, .tup h r => .tup (sqT_mono s.ex h) (RpL.mono s r)
  | _, _, .lst h r => .lst (s.ex _ _ h) (RpL.mono s r)
  | _, _, .dK h r => .dK (s.ex _ _ h) (RpK.mono s r)
  | _, _, .dT h r => .dT (s.ex _ _ h) (RpT.mono s r)
  | _, _, .obj h c r => .obj (s.ex _ _ h) c (RpF.mono s r)
  | _, _, .xv0 h c => .xv0 (s.ex _ _ h) c
  | _, _, .xv h c q r => .xv (s.ex _ _ h) c (s.ex _ _ q) (RpF.mono s r)
  | _, _, .ref h => .ref (s.ix h)
  | _, _, .scr h => .scr (s.ex.seq h)
theorem RpL.mono (s : Onto rho F rho' F') : ∀ {v : List V} {d : List D}, RpL K mg rho F v d → RpL K mg rho' F' v d
  | _, _, .nil => .nil
  | _, _, .cons h r => .cons (Rp.mono s h) (RpL.mono s r)
theorem RpF.mono (s : Onto rho F rho' F') : ∀ {v : List (Str × V)} {d : List (Str × D)}, RpF K mg rho F v d → RpF K mg rho' F' v d
  | _, _, .nil => .nil
  | _, _, .cons h r => .cons (Rp.mono s h) (RpF.mono s r)
theorem RpK.mono (s : Onto rho F rho' F') : ∀ {v : List (Key × V)} {d : List (D × D)}, RpK K mg rho F v d → RpK K mg rho' F' v d
  | _, _, .nil => .nil
  | _, _, .cons h r => .cons (Rp.mono s h) (RpK.mono s r)
theorem RpT.mono (s : Onto rho F rho' F') : ∀ {v : List (List Key × V)} {d : List (D × D)}, RpT K mg rho F v d → RpT K mg rho' F' v d
  | _, _, .nil => .nil
  | _, _, .cons h r => .cons (Rp.mono s h) (RpT.mono s r)
end
theorem RpEnv.mono (s : Onto rho F rho' F') {σ : L2.St} {env : List (Option D)} (h : RpEnv K mg rho F σ env) : RpEnv K mg rho' F' σ env :=
  ⟨h.1, fun i d e => let ⟨v, q, r⟩ := h.2 i d e; ⟨v, q, r.mono s⟩⟩
theorem RpEnv.set {σ : L2.St} {env : List (Option D)} (h : RpEnv K mg rho F σ env) {v : V} {d : D} (r : Rp K mg rho F v d) (i : Nat) : RpEnv K mg rho F (σ.set i (some v)) (env.set i (some d)) := by
  refine ⟨by simp [h.1], fun j e hj => ?_⟩
  by_cases q : i = j
  · subst q
    by_cases hi : i < env.length
    · rw [List.getElem?_set_self hi] at hj
      cases hj
      exact ⟨v, List.getElem?_set_self (by rw [h.1]; exact hi), r⟩
    · rw [List.getElem?_eq_none (by simpa using hi)] at hj; cases hj
  · rw [List.getElem?_set_ne q] at hj ⊢
    exact h.2 j e hj
theorem RpEnv.unset {σ : L2.St} {env : List (Option D)} (h : RpEnv K mg rho F σ env) (i : Nat) : RpEnv K mg rho F (σ.set i none) (env.set i none) := by
  refine ⟨by simp [h.1], fun j e hj => ?_⟩
  by_cases q : i = j
  · subst q
    by_cases hi : i < env.length
    · rw [List.getElem?_set_self hi] at hj
      cases hj
    · rw [List.getElem?_eq_none (by simpa using hi)] at hj; cases hj
  · rw [List.getElem?_set_ne q] at hj ⊢
    exact h.2 j e hj
def wipeD (env : List (Option D)) : List Nat → List (Option D)
  | [] => env
  | v :: vs => (wipeD env vs).set v none
theorem RpEnv.wipe {σ : L2.St} {env : List (Option D)} (h : RpEnv K mg rho F σ env) : ∀ vs : List Nat, RpEnv K mg rho F (L2.wipe σ vs) (wipeD env vs)
  | [] => h
  | v :: vs => (RpEnv.wipe h vs).unset v

/-! ### what is allotted -/
/-- a new object that stands still -/
theorem Abs.fresh {m : M} {p : Addr} {o : HO} (A : Abs K mg rho F H m) (np : H p = none) :
    Step rho F H rho (upd F p o) (upd H p o) ∧ Abs K mg rho (upd F p o) (upd H p o) m := by
  have nF : F p = none := by
    cases e : F p with
    | none => rfl
    | some u => rw [A.ex p u e] at np; cases np
  have sF : Same F (upd F p o) := fun b u h => by rw [upd_ne (ne_of_none h nF)]; exact h
  have st : Step rho F H rho (upd F p o) (upd H p o) := by
    refine ⟨⟨[], by simp, by simp⟩, sF, fun a u h => ⟨u, ?_⟩, fun a u h _ => ?_⟩
    · rw [upd_ne (ne_of_none h np)]; exact h
    · have ne : a ≠ p := ne_of_none h np
      rw [upd_ne ne, upd_ne ne]; exact ⟨h, rfl⟩
  refine ⟨st, ⟨fun b u h => ?_, A.len, A.nd, fun i a x hi hm => ?_, fun a ha => let ⟨u, hu⟩ := A.all a ha; st.dom a u hu⟩⟩
  · by_cases e : b = p
    · subst e; rw [upd_same] at h ⊢; exact h
    · rw [upd_ne e] at h ⊢; exact A.ex b u h
  · have q := A.own i a x hi hm
    cases x with
    | gone => trivial
    | lst ds =>
      obtain ⟨f0, vs, h0, r⟩ := q
      have ne : a ≠ p := ne_of_none h0 np
      exact ⟨by rw [upd_ne ne]; exact f0, vs, by rw [upd_ne ne]; exact h0, r.mono st.onto⟩
    | dct kvs =>
      obtain ⟨f0, q⟩ := q
      rcases q with ⟨ks, h0, r⟩ | ⟨ks, h0, r⟩
      · have ne : a ≠ p := ne_of_none h0 np
        exact ⟨by rw [upd_ne ne]; exact f0, .inl ⟨ks, by rw [upd_ne ne]; exact h0, r.mono st.onto⟩⟩
      · have ne : a ≠ p := ne_of_none h0 np
        exact ⟨by rw [upd_ne ne]; exact f0, .inr ⟨ks, by rw [upd_ne ne]; exact h0, r.mono st.onto⟩⟩
    | ins c gs =>
      obtain ⟨f0, C, dx, fs, h0, hc, r⟩ := q
      have ne : a ≠ p := ne_of_none h0 np
      exact ⟨by rw [upd_ne ne]; exact f0, C, dx, fs, by rw [upd_ne ne]; exact h0, hc, r.mono st.onto⟩
theorem RpM.mono {a : Addr} {x : MO} (s : Onto rho F rho' F') (h : RpM K mg rho F H a x) (hf : F' a = F a) (hh : ∀ o, H a = some o → H' a = some o) : RpM K mg rho' F' H' a x := by
  cases x with
  | gone => trivial
  | lst ds =>
    obtain ⟨f0, vs, h0, r⟩ := h
    exact ⟨hf.trans f0, vs, hh _ h0, r.mono s⟩
  | dct kvs =>
    obtain ⟨f0, q⟩ := h
    rcases q with ⟨ks, h0, r⟩ | ⟨ks, h0, r⟩
    · exact ⟨hf.trans f0, .inl ⟨ks, hh _ h0, r.mono s⟩⟩
    · exact ⟨hf.trans f0, .inr ⟨ks, hh _ h0, r.mono s⟩⟩
  | ins c gs =>
    obtain ⟨f0, C, dx, fs, h0, hc, r⟩ := h
    exact ⟨hf.trans f0, C, dx, fs, hh _ h0, hc, r.mono s⟩
/-- a new object of our own -/
theorem Abs.notmem {m : M} {p : Addr} (A : Abs K mg rho F H m) (np : H p = none) : p ∉ rho := fun hm => by
  obtain ⟨o, h⟩ := A.all p hm
  rw [np] at h; cases h
theorem Abs.alloc {m : M} {p : Addr} {o : HO} {x : MO} (A : Abs K mg rho F H m) (np : H p = none)
    (hx : RpM K mg (rho ++ [p]) F (upd H p o) p x) :
    Step rho F H (rho ++ [p]) F (upd H p o) ∧ Abs K mg (rho ++ [p]) F (upd H p o) (m ++ [x]) := by
  have st : Step rho F H (rho ++ [p]) F (upd H p o) := by
    refine ⟨⟨[p], rfl, fun a h => by rw [List.mem_singleton.mp h]; exact np⟩, Same.refl F, fun a u h => ⟨u, ?_⟩, fun a u h _ => ⟨?_, rfl⟩⟩
    · rw [upd_ne (ne_of_none h np)]; exact h
    · rw [upd_ne (ne_of_none h np)]; exact h
  have nr : p ∉ rho := A.notmem np
  refine ⟨st, ⟨fun b u h => ?_, by simp [A.len], ?_, fun i a y hi hm => ?_, fun a ha => ?_⟩⟩
  · rw [upd_ne (ne_of_none (A.ex b u h) np)]; exact A.ex b u h
  · rw [List.nodup_append]
    refine ⟨A.nd, by simp, fun a ha b hb => ?_⟩
    rw [List.mem_singleton.mp hb]
    intro e; subst e; exact nr ha
  · by_cases hl : i < rho.length
    · rw [List.getElem?_append_left hl] at hi
      rw [List.getElem?_append_left (by rw [← A.len]; exact hl)] at hm
      refine (A.own i a y hi hm).mono st.onto rfl fun u h => ?_
      rw [upd_ne (ne_of_none h np)]; exact h
    · have hl' : i = rho.length := by
        have := (List.getElem?_eq_some_iff.mp hi).1
        simp at this; omega
      subst hl'
      rw [List.getElem?_append_right (Nat.le_refl _)] at hi
      rw [A.len, List.getElem?_append_right (Nat.le_refl _)] at hm
      simp at hi hm
      subst hi; subst hm
      exact hx
  · rcases List.mem_append.mp ha with z | z
    · obtain ⟨u, hu⟩ := A.all a z
      exact st.dom a u hu
    · rw [List.mem_singleton.mp z]
      exact ⟨o, upd_same⟩
/-- one of our own objects changes -/
theorem Abs.write {m : M} {i : Nat} {p : Addr} {o : HO} {x y : MO} (A : Abs K mg rho F H m) (hi : rho[i]? = some p) (hm : m[i]? = some x) (nF : F p = none) (hp : ∃ u, H p = some u)
    (hy : RpM K mg rho F (upd H p o) p y) : Step rho F H rho F (upd H p o) ∧ Abs K mg rho F (upd H p o) (m.set i y) := by
  have hmem : p ∈ rho := List.mem_of_getElem? hi
  have st : Step rho F H rho F (upd H p o) := by
    refine ⟨⟨[], by simp, by simp⟩, Same.refl F, fun a u h => ?_, fun a u h hn => ⟨?_, rfl⟩⟩
    · by_cases e : a = p
      · subst e; exact ⟨o, upd_same⟩
      · exact ⟨u, by rw [upd_ne e]; exact h⟩
    · rw [upd_ne (fun (e : a = p) => hn (by rw [e]; exact hmem))]; exact h
  refine ⟨st, ⟨fun b u h => ?_, by simp [A.len], A.nd, fun j a z hj hz => ?_, fun a ha => let ⟨u, hu⟩ := A.all a ha; st.dom a u hu⟩⟩
  · rw [upd_ne (ne_of_none h nF)]; exact A.ex b u h
  · by_cases e : i = j
    · subst e
      rw [hi] at hj; cases hj
      have hl : i < m.length := (List.getElem?_eq_some_iff.mp hm).1
      rw [List.getElem?_set_self hl] at hz; cases hz
      exact hy
    · rw [List.getElem?_set_ne e] at hz
      have ne : a ≠ p := fun q => by
        subst q
        have h1 := List.getElem?_eq_some_iff.mp hi
        have h2 := List.getElem?_eq_some_iff.mp hj
        exact e ((List.getElem_inj A.nd).mp (h1.2.trans h2.2.symm))
      refine (A.own j a z hj hz).mono ⟨fun h => h, Same.refl F⟩ rfl fun u h => ?_
      rw [upd_ne ne]; exact h
/-- one of our own objects stands still from now on -/
theorem Abs.freeze {m : M} {i : Nat} {p : Addr} {o : HO} {x : MO} (A : Abs K mg rho F H m) (hi : rho[i]? = some p) (hm : m[i]? = some x) (nF : F p = none) (hp : H p = some o) :
    Step rho F H rho (upd F p o) H ∧ Abs K mg rho (upd F p o) H (m.set i .gone) := by
  have hmem : p ∈ rho := List.mem_of_getElem? hi
  have sF : Same F (upd F p o) := fun b u h => by rw [upd_ne (ne_of_none h nF)]; exact h
  have st : Step rho F H rho (upd F p o) H := by
    refine ⟨⟨[], by simp, by simp⟩, sF, fun a u h => ⟨u, h⟩, fun a u h hn => ⟨h, ?_⟩⟩
    rw [upd_ne (fun (e : a = p) => hn (by rw [e]; exact hmem))]
  refine ⟨st, ⟨fun b u h => ?_, by simp [A.len], A.nd, fun j a z hj hz => ?_, fun a ha => let ⟨u, hu⟩ := A.all a ha; st.dom a u hu⟩⟩
  · by_cases e : b = p
    · subst e; rw [upd_same] at h; rw [← h]; exact hp
    · rw [upd_ne e] at h; exact A.ex b u h
  · by_cases e : i = j
    · subst e
      have hl : i < m.length := (List.getElem?_eq_some_iff.mp hm).1
      rw [List.getElem?_set_self hl] at hz; cases hz
      trivial
    · rw [List.getElem?_set_ne e] at hz
      have ne : a ≠ p := fun q => by
        subst q
        have h1 := List.getElem?_eq_some_iff.mp hi
        have h2 := List.getElem?_eq_some_iff.mp hj
        exact e ((List.getElem_inj A.nd).mp (h1.2.trans h2.2.symm))
      exact (A.own j a z hj hz).mono st.onto (upd_ne ne) fun u h => h
end

/-! ### readings: what a result asks -/
section
variable (K : PySem.W.Frag) (mg : Str → Option Value) (W : WX) (σ : L2.St)
def RdE {α β : Type} (rel : List Addr → Hp → β → α → Prop) (rho : List Addr) (F H : Hp) (Q : β → Hp → Prop) : R α → Prop
  | .ok d m => ∀ v rho' F' H', Step rho F H rho' F' H' → Abs K mg rho' F' H' m → rel rho' F' v d → Q v H'
  | .ex c m => ∀ cls dx rho' F' H', Step rho F H rho' F' H' → Abs K mg rho' F' H' m → RpX K mg rho' F' c cls dx → W cls dx σ H'
  | .no => False
end
section
variable {K : PySem.W.Frag} {mg : Str → Option Value} {W : WX} {σ : L2.St} {rho rho' rho2 : List Addr} {F F' F2 H H' H2 : Hp} {α β γ δ : Type} {rel : List Addr → Hp → β → α → Prop} {rel2 : List Addr → Hp → δ → γ → Prop}
theorem RdE.step {Q : β → Hp → Prop} {r : R α} (h : RdE K mg W σ rel rho F H Q r) (s : Step rho F H rho' F' H') : RdE K mg W σ rel rho' F' H' Q r := by
  cases r with
  | ok d m => exact fun v r2 F2 H2 s2 => h v r2 F2 H2 (s.trans s2)
  | ex c m => exact fun cls dx r2 F2 H2 s2 => h cls dx r2 F2 H2 (s.trans s2)
  | no => exact h
theorem RdE.bind {Q : β → Hp → Prop} {Q' : δ → Hp → Prop} {r : R γ} {k : γ → M → R α} (h : RdE K mg W σ rel rho F H Q (r.bind k))
    (f : ∀ d m v rho' F' H', Step rho F H rho' F' H' → Abs K mg rho' F' H' m → rel2 rho' F' v d → RdE K mg W σ rel rho' F' H' Q (k d m) → Q' v H') : RdE K mg W σ rel2 rho F H Q' r := by
  cases r with
  | ok d m => exact fun v r2 F2 H2 s A r => f d m v r2 F2 H2 s A r (RdE.step (show RdE K mg W σ rel rho F H Q (k d m) from h) s)
  | ex c m => exact h
  | no => exact h
theorem RdE.mono {Q Q' : β → Hp → Prop} {r : R α} (h : RdE K mg W σ rel rho F H Q r) (f : ∀ v H, Q v H → Q' v H) : RdE K mg W σ rel rho F H Q' r := by
  cases r with
  | ok d m => exact fun v r2 F2 H2 s A r => f _ _ (h v r2 F2 H2 s A r)
  | ex c m => exact h
  | no => exact h
end
abbrev Env := List (Option D)
abbrev SE := Env → M → R D
abbrev SB := Env → M → R Bool
abbrev SA := Env → M → R (List D)
section
variable (X : Cx) (W : WX)
abbrev relD (K : PySem.W.Frag) (mg : Str → Option Value) : List Addr → Hp → V → D → Prop := fun rho F v d => Rp K mg rho F v d
abbrev relB : List Addr → Hp → Bool → Bool → Prop := fun _ _ v d => v = d
abbrev relL (K : PySem.W.Frag) (mg : Str → Option Value) : List Addr → Hp → List V → List D → Prop := fun rho F v d => RpL K mg rho F v d
def tE (se : SE) : TE := fun σ H Q => ∃ rho F env m, Abs X.K X.mg rho F H m ∧ RpEnv X.K X.mg rho F σ env ∧ RdE X.K X.mg W σ (relD X.K X.mg) rho F H Q (se env m)
def tT (se : SB) : TT := fun σ H Q => ∃ rho F env m, Abs X.K X.mg rho F H m ∧ RpEnv X.K X.mg rho F σ env ∧ RdE X.K X.mg W σ relB rho F H Q (se env m)
def tA (se : SA) : TA := fun σ H Q => ∃ rho F env m, Abs X.K X.mg rho F H m ∧ RpEnv X.K X.mg rho F σ env ∧ RdE X.K X.mg W σ (relL X.K X.mg) rho F H Q (se env m)
end
theorem PE.imp {X : Cx} {e : Expr} {t t' : TE} (h : PE X e t) (f : ∀ σ H Q, t' σ H Q → t σ H Q) : PE X e t' := ⟨fun pins s σ H Q I q => h.run pins s σ H Q I (f σ H Q q)⟩
theorem PT.imp {X : Cx} {e : Expr} {t t' : TT} (h : PT X e t) (f : ∀ σ H Q, t' σ H Q → t σ H Q) : PT X e t' := ⟨fun pins s σ H Q I q => h.run pins s σ H Q I (f σ H Q q)⟩
theorem PA.imp {X : Cx} {e : List Expr} {t t' : TA} (h : PA X e t) (f : ∀ σ H Q, t' σ H Q → t σ H Q) : PA X e t' := ⟨fun pos pins s σ H Q I q => h.run pos pins s σ H Q I (f σ H Q q)⟩
end HB
namespace HB
open PySem L2

/-! ### looking at data -/
def viewL (d : D) (m : M) : Option (List D) := match d with
  | .lst ds => some ds
  | .ref i => match m[i]? with
    | some (.lst ds) => some ds
    | _ => none
  | _ => none
/-- any list that may be read -/
def viewS (d : D) (m : M) : Option (List D) := match d with
  | .scr ns => some (ns.map D.int)
  | d => viewL d m
def viewQ (d : D) (m : M) : Option (List D) := match d with
  | .tup ds => some ds
  | d => viewS d m
section
variable {K : PySem.W.Frag} {mg : Str → Option Value} {rho : List Addr} {F H : Hp} {m : M} {x : V} {d : D} {ds : List D}
theorem Rp.viewL (A : Abs K mg rho F H m) (r : Rp K mg rho F x d) (h : viewL d m = some ds) : ∃ p vs, x = .ref p ∧ H p = some (.lst vs) ∧ RpL K mg rho F vs ds := by
  unfold HB.viewL at h
  split at h
  · cases h
    cases r with
    | lst hp hr => exact ⟨_, _, rfl, A.ex _ _ hp, hr⟩
  · split at h
    · rename_i hm
      cases h
      cases r with
      | ref hi =>
        obtain ⟨_, vs, h0, r⟩ := A.own _ _ _ hi hm
        exact ⟨_, vs, rfl, h0, r⟩
    · cases h
  · cases h
theorem RpL.ints (ns : List Int) : RpL K mg rho F (ns.map V.int) (ns.map D.int) := by
  induction ns with
  | nil => exact .nil
  | cons a r ih => exact .cons .int ih
theorem Rp.viewS (A : Abs K mg rho F H m) (r : Rp K mg rho F x d) (h : viewS d m = some ds) : ∃ p vs, x = .ref p ∧ SqL K H p vs ∧ RpL K mg rho F vs ds := by
  unfold HB.viewS at h
  split at h
  · cases h
    cases r with
    | scr hs => exact ⟨_, _, rfl, A.ex.seq hs, RpL.ints _⟩
  · obtain ⟨p, vs, e, hp, hr⟩ := r.viewL A h
    exact ⟨p, vs, e, SqL.of hp, hr⟩
theorem Rp.tupH (A : Abs K mg rho F H m) (r : Rp K mg rho F x (.tup ds)) : ∃ p vs, x = .ref p ∧ SqT K H p vs ∧ RpL K mg rho F vs ds := by
  cases r with
  | tup hs hr => exact ⟨_, _, rfl, sqT_mono A.ex hs, hr⟩
theorem Rp.viewQ (A : Abs K mg rho F H m) (r : Rp K mg rho F x d) (h : viewQ d m = some ds) : ∃ p vs, x = .ref p ∧ (SqL K H p vs ∨ SqT K H p vs) ∧ RpL K mg rho F vs ds := by
  unfold HB.viewQ at h
  split at h
  · cases h
    obtain ⟨p, vs, e, hp, hr⟩ := r.tupH A
    exact ⟨p, vs, e, .inr hp, hr⟩
  · obtain ⟨p, vs, e, hp, hr⟩ := r.viewS A h
    exact ⟨p, vs, e, .inl hp, hr⟩
theorem RpL.length {vs : List V} {ds : List D} (r : RpL K mg rho F vs ds) : vs.length = ds.length := by
  induction ds generalizing vs with
  | nil => cases r; rfl
  | cons d ds ih => cases r with | cons h t => simp [ih t]
theorem RpL.append {vs ws : List V} {ds es : List D} (r : RpL K mg rho F vs ds) (q : RpL K mg rho F ws es) : RpL K mg rho F (vs ++ ws) (ds ++ es) := by
  induction ds generalizing vs with
  | nil => cases r; exact q
  | cons d ds ih => cases r with | cons h t => exact .cons h (ih t)
theorem RpL.get {vs : List V} {ds : List D} (r : RpL K mg rho F vs ds) : ∀ {i : Nat} {d : D}, ds[i]? = some d → ∃ v, vs[i]? = some v ∧ Rp K mg rho F v d := by
  induction ds generalizing vs with
  | nil => intro i d h; simp at h
  | cons e ds ih =>
    cases r with
    | cons h t =>
      intro i d hd
      cases i with
      | zero => simp at hd; subst hd; exact ⟨_, rfl, h⟩
      | succ i => obtain ⟨v, q1, q2⟩ := ih t (i := i) (d := d) (by simpa using hd); exact ⟨v, by simpa using q1, q2⟩
theorem RpL.get' {vs : List V} {ds : List D} (r : RpL K mg rho F vs ds) : ∀ {i : Nat} {v : V}, vs[i]? = some v → ∃ d, ds[i]? = some d ∧ Rp K mg rho F v d := by
  induction ds generalizing vs with
  | nil => cases r; intro i d h; simp at h
  | cons e ds ih =>
    cases r with
    | cons h t =>
      intro i d hd
      cases i with
      | zero => simp at hd; subst hd; exact ⟨_, rfl, h⟩
      | succ i => obtain ⟨v, q1, q2⟩ := ih t (i := i) (v := d) (by simpa using hd); exact ⟨v, by simpa using q1, q2⟩
theorem RpL.set {vs : List V} {ds : List D} (r : RpL K mg rho F vs ds) {v : V} {d : D} (h : Rp K mg rho F v d) : ∀ i : Nat, RpL K mg rho F (vs.set i v) (ds.set i d) := by
  induction ds generalizing vs with
  | nil => cases r; intro i; exact .nil
  | cons e ds ih =>
    cases r with
    | cons h0 t =>
      intro i
      cases i with
      | zero => exact .cons h t
      | succ i => exact .cons h0 (ih t i)
theorem RpL.take {vs : List V} {ds : List D} (r : RpL K mg rho F vs ds) : ∀ n : Nat, RpL K mg rho F (vs.take n) (ds.take n) := by
  induction ds generalizing vs with
  | nil => cases r; intro n; simp; exact .nil
  | cons e ds ih =>
    cases r with
    | cons h0 t =>
      intro n
      cases n with
      | zero => exact .nil
      | succ n => exact .cons h0 (ih t n)
theorem RpL.drop {vs : List V} {ds : List D} (r : RpL K mg rho F vs ds) : ∀ n : Nat, RpL K mg rho F (vs.drop n) (ds.drop n) := by
  induction ds generalizing vs with
  | nil => cases r; intro n; simp; exact .nil
  | cons e ds ih =>
    cases r with
    | cons h0 t =>
      intro n
      cases n with
      | zero => exact .cons h0 t
      | succ n => exact ih t n
theorem RpL.eraseIdx {vs : List V} {ds : List D} (r : RpL K mg rho F vs ds) : ∀ n : Nat, RpL K mg rho F (vs.eraseIdx n) (ds.eraseIdx n) := by
  induction ds generalizing vs with
  | nil => cases r; intro n; exact .nil
  | cons e ds ih =>
    cases r with
    | cons h0 t =>
      intro n
      cases n with
      | zero => exact t
      | succ n => exact .cons h0 (ih t n)
theorem RpL.strs {vs : List V} {xs : List Str} (r : RpL K mg rho F vs (xs.map D.str)) : vs = xs.map V.str := by
  induction xs generalizing vs with
  | nil => cases r; rfl
  | cons x xs ih => cases r with | cons h t => cases h; rw [ih t]; rfl
theorem RpL.intsE {vs : List V} {xs : List Int} (r : RpL K mg rho F vs (xs.map D.int)) : vs = xs.map V.int := by
  induction xs generalizing vs with
  | nil => cases r; rfl
  | cons x xs ih => cases r with | cons h t => cases h; rw [ih t]; rfl
theorem RpL.bls {vs : List V} {xs : List Bool} (r : RpL K mg rho F vs (xs.map D.bl)) : vs = xs.map V.bl := by
  induction xs generalizing vs with
  | nil => cases r; rfl
  | cons x xs ih => cases r with | cons h t => cases h; rw [ih t]; rfl
end
/-- all ints, all texts, all bools -/
def asInts : List D → Option (List Int)
  | [] => some []
  | .int i :: r => (asInts r).map (i :: ·)
  | _ :: _ => none
def asStrs : List D → Option (List Str)
  | [] => some []
  | .str i :: r => (asStrs r).map (i :: ·)
  | _ :: _ => none
def asBls : List D → Option (List Bool)
  | [] => some []
  | .bl i :: r => (asBls r).map (i :: ·)
  | _ :: _ => none
theorem asInts_eq : ∀ {ds : List D} {ns : List Int}, asInts ds = some ns → ds = ns.map D.int
  | [], _, h => by simp [asInts] at h; subst h; rfl
  | .int i :: r, ns, h => by
    simp only [asInts, Option.map_eq_some_iff] at h
    obtain ⟨a, h1, rfl⟩ := h
    rw [asInts_eq h1]; rfl
theorem asStrs_eq : ∀ {ds : List D} {ns : List Str}, asStrs ds = some ns → ds = ns.map D.str
  | [], _, h => by simp [asStrs] at h; subst h; rfl
  | .str i :: r, ns, h => by
    simp only [asStrs, Option.map_eq_some_iff] at h
    obtain ⟨a, h1, rfl⟩ := h
    rw [asStrs_eq h1]; rfl
theorem asBls_eq : ∀ {ds : List D} {ns : List Bool}, asBls ds = some ns → ds = ns.map D.bl
  | [], _, h => by simp [asBls] at h; subst h; rfl
  | .bl i :: r, ns, h => by
    simp only [asBls, Option.map_eq_some_iff] at h
    obtain ⟨a, h1, rfl⟩ := h
    rw [asBls_eq h1]; rfl
theorem asInts_map (ns : List Int) : asInts (ns.map D.int) = some ns := by
  induction ns with
  | nil => rfl
  | cons a r ih => simp [asInts, ih]
theorem asStrs_map (ns : List Str) : asStrs (ns.map D.str) = some ns := by
  induction ns with
  | nil => rfl
  | cons a r ih => simp [asStrs, ih]
theorem asBls_map (ns : List Bool) : asBls (ns.map D.bl) = some ns := by
  induction ns with
  | nil => rfl
  | cons a r ih => simp [asBls, ih]

/-! ### operators by data -/
/-- no exception comes of it -/
abbrev RdO (K : PySem.W.Frag) (mg : Str → Option Value) (rho : List Addr) (F H : Hp) (Q : VK) (r : R D) : Prop := RdE K mg (fun _ _ _ _ => False) [] (relD K mg) rho F H Q r
def OpD (X : Cx) (f : Value → Value → Sem Value) (g : D → D → M → R D) : Prop :=
  OpR X f (fun x y H Q => ∃ rho F m d e, Abs X.K X.mg rho F H m ∧ Rp X.K X.mg rho F x d ∧ Rp X.K X.mg rho F y e ∧ RdO X.K X.mg rho F H Q (g d e m))
theorem OpR.imp {X : Cx} {f : Value → Value → Sem Value} {r r' : R2} (h : OpR X f r) (k : ∀ x y H Q, r' x y H Q → r x y H Q) : OpR X f r' := fun pins s σ H x y v u Q I r1 r2 q => h pins s σ H x y v u Q I r1 r2 (k _ _ _ _ q)
section
variable {K : PySem.W.Frag} {mg : Str → Option Value} {rho : List Addr} {F H : Hp} {m : M} {Q : VK}
/-- a value that is no object: it is there -/
theorem RdO.here {d : D} {v : V} (h : RdO K mg rho F H Q (.ok d m)) (A : Abs K mg rho F H m) (r : Rp K mg rho F v d) : Q v H := h v rho F H Step.refl A r
theorem RdO.newT {ds : List D} {vs : List V} {p : Addr} (h : RdO K mg rho F H Q (.ok (.tup ds) m)) (A : Abs K mg rho F H m) (r : RpL K mg rho F vs ds) (np : H p = none) : Q (.ref p) (upd H p (.tup vs)) := by
  obtain ⟨st, A'⟩ := A.fresh (o := .tup vs) np
  exact h _ _ _ _ st A' (.tup (SqT.of upd_same) (r.mono st.onto))
theorem RdO.newL {ds : List D} {vs : List V} {p : Addr} (h : RdO K mg rho F H Q (.ok (.lst ds) m)) (A : Abs K mg rho F H m) (r : RpL K mg rho F vs ds) (np : H p = none) : Q (.ref p) (upd H p (.lst vs)) := by
  obtain ⟨st, A'⟩ := A.fresh (o := .lst vs) np
  exact h _ _ _ _ st A' (.lst upd_same (r.mono st.onto))
end
def addD (d e : D) (m : M) : R D := match d, e with
  | .int i, .int j => .ok (.int (i + j)) m
  | .str x, .str y => if x.length + y.length ≤ sizeLine then .ok (.str (x ++ y)) m else .no
  | .tup xs, .tup ys => if xs.length + ys.length ≤ sizeLine then .ok (.tup (xs ++ ys)) m else .no
  | d, e => match viewL d m, viewL e m with
    | some xs, some ys => if xs.length + ys.length ≤ sizeLine then .ok (.lst (xs ++ ys)) m else .no
    | _, _ => .no
def subD (d e : D) (m : M) : R D := match d, e with
  | .int i, .int j => .ok (.int (i - j)) m
  | _, _ => .no
def mulD (d e : D) (m : M) : R D := match d, e with
  | .int i, .int j => if i.natAbs.log2 + j.natAbs.log2 < 1000000 then .ok (.int (i * j)) m else .no
  | _, _ => .no
def fdivD (d e : D) (m : M) : R D := match d, e with
  | .int i, .int j => if j ≠ 0 ∧ j.natAbs.log2 < 9000 then .ok (.int (i.fdiv j)) m else .no
  | _, _ => .no
def modD (d e : D) (m : M) : R D := match d, e with
  | .int i, .int j => if j ≠ 0 then .ok (.int (i.fmod j)) m else .no
  | _, _ => .no
def powD (d e : D) (m : M) : R D := match d, e with
  | .int i, .int j => if 0 ≤ j ∧ (Builtin.Int.intBits i : Int) * j ≤ 2 ^ 27 then .ok (.int (i ^ j.toNat)) m else .no
  | _, _ => .no
section
variable {X : Cx}
theorem op_fdivA : OpR X (binaryOp .FloorDiv) (rI (fun _ j => j ≠ 0 ∧ j.natAbs.log2 < 9000) fun i j => .int (i.fdiv j)) :=
  opI fun _ _ _ _ _ _ _ hc q => PyProof.Rows.floordiv_int hc.1 q (.inl (PyProof.noPylong_of_log2 hc.2))
theorem op_powA : OpR X (binaryOp .Pow) (rI (fun i j => 0 ≤ j ∧ (Builtin.Int.intBits i : Int) * j ≤ 2 ^ 27) fun i j => .int (i ^ j.toNat)) :=
  opI fun _ _ _ _ _ _ _ hc q => PyProof.Rows.pow_int hc.1 hc.2 q
theorem od_sub : OpD X (binaryOp .Sub) subD := OpR.imp op_sub (by
  rintro x y H Q ⟨rho, F, m, d, e, A, r1, r2, h⟩
  unfold subD at h
  split at h
  · cases r1; cases r2; exact ⟨_, _, rfl, rfl, h.here A .int⟩
  · exact h.elim)
theorem od_mul : OpD X (binaryOp .Mult) mulD := OpR.imp op_mulW (by
  rintro x y H Q ⟨rho, F, m, d, e, A, r1, r2, h⟩
  unfold mulD at h
  split at h
  · split at h
    · rename_i hc
      cases r1; cases r2; exact ⟨_, _, rfl, rfl, hc, h.here A .int⟩
    · exact h.elim
  · exact h.elim)
theorem od_fdiv : OpD X (binaryOp .FloorDiv) fdivD := OpR.imp op_fdivA (by
  rintro x y H Q ⟨rho, F, m, d, e, A, r1, r2, h⟩
  unfold fdivD at h
  split at h
  · split at h
    · rename_i hc
      cases r1; cases r2; exact ⟨_, _, rfl, rfl, hc, h.here A .int⟩
    · exact h.elim
  · exact h.elim)
theorem od_mod : OpD X (binaryOp .Mod) modD := OpR.imp op_modN (by
  rintro x y H Q ⟨rho, F, m, d, e, A, r1, r2, h⟩
  unfold modD at h
  split at h
  · split at h
    · rename_i hc
      cases r1; cases r2; exact ⟨_, _, rfl, rfl, hc, h.here A .int⟩
    · exact h.elim
  · exact h.elim)
theorem od_pow : OpD X (binaryOp .Pow) powD := OpR.imp op_powA (by
  rintro x y H Q ⟨rho, F, m, d, e, A, r1, r2, h⟩
  unfold powD at h
  split at h
  · split at h
    · rename_i hc
      cases r1; cases r2; exact ⟨_, _, rfl, rfl, hc, h.here A .int⟩
    · exact h.elim
  · exact h.elim)
theorem od_add : OpD X (binaryOp .Add) addD := OpR.imp (op_add.or (op_add_str.or (op_catA.or op_cat))) (by
  rintro x y H Q ⟨rho, F, m, d, e, A, r1, r2, h⟩
  unfold addD at h
  split at h
  · cases r1; cases r2; exact .inl ⟨_, _, rfl, rfl, h.here A .int⟩
  · split at h
    · rename_i hc
      cases r1; cases r2; exact .inr (.inl ⟨_, _, rfl, rfl, hc, h.here A .str⟩)
    · exact h.elim
  · split at h
    · rename_i hc
      obtain ⟨p, vs, rfl, hp, q1⟩ := r1.tupH A
      obtain ⟨q, ws, rfl, hq, q2⟩ := r2.tupH A
      refine .inr (.inr (.inl ⟨p, q, vs, ws, rfl, rfl, hp, hq, by rw [q1.length, q2.length]; exact hc, fun e => ?_, fun e1 e2 => ?_, fun e1 e2 r nr => h.newT A (q1.append q2) nr⟩))
      · subst e; cases q1; exact h.here A r2
      · subst e2; cases q2; rw [List.append_nil] at h; exact h.here A r1
    · exact h.elim
  · split at h
    · split at h
      · rename_i h1 h2 hc
        obtain ⟨p, vs, rfl, hp, q1⟩ := r1.viewL A h1
        obtain ⟨q, ws, rfl, hq, q2⟩ := r2.viewL A h2
        exact .inr (.inr (.inr ⟨p, q, vs, ws, rfl, rfl, hp, hq, by rw [q1.length, q2.length]; exact hc, fun r nr => h.newL A (q1.append q2) nr⟩))
      · exact h.elim
    · exact h.elim)
end
end HB
namespace HB
open PySem L2

/-! ### data without objects, as the library's -/
mutual
def py : D → Option PyData
  | .non => some .none
  | .bl b => some (.bool b)
  | .int i => some (.int i)
  | .str x => some (.str x)
  | .tup ds => (pyL ds).map .tuple
  | .lst ds => (pyL ds).map .list
  | .dct _ => none
  | .obj _ _ => none
  | .exv _ _ => none
  | .ref _ => none
  | .scr _ => none
def pyL : List D → Option (List PyData)
  | [] => some []
  | d :: ds => match py d, pyL ds with
    | some p, some q => some (p :: q)
    | _, _ => none
end
/-- the same, a list of our own at the top -/
def pyT (d : D) (m : M) : Option PyData := match d with
  | .ref i => match m[i]? with
    | some (.lst ds) => (pyL ds).map .list
    | _ => none
  | d => py d
section
variable {K : PySem.W.Frag} {mg : Str → Option Value} {rho : List Addr} {F H : Hp}
mutual
theorem dp_of (e : Same F H) : ∀ (d : D) {x : V} {p : PyData}, Rp K mg rho F x d → py d = some p → Dp K H x p
  | .non, _, _, r, h => by cases r; simp [py] at h; subst h; exact .non
  | .bl b, _, _, r, h => by cases r; simp [py] at h; subst h; exact .bl b
  | .int i, _, _, r, h => by cases r; simp [py] at h; subst h; exact .int i
  | .str x, _, _, r, h => by cases r; simp [py] at h; subst h; exact .str x
  | .tup ds, _, _, r, h => by
    simp only [py, Option.map_eq_some_iff] at h
    obtain ⟨ps, h1, rfl⟩ := h
    cases r with
    | tup hs hr => exact .tup (sqT_mono e hs) (dpL_of e ds hr h1)
  | .lst ds, _, _, r, h => by
    simp only [py, Option.map_eq_some_iff] at h
    obtain ⟨ps, h1, rfl⟩ := h
    cases r with
    | lst hs hr => exact .lst (SqL.of (e _ _ hs)) (dpL_of e ds hr h1)
  | .dct _, _, _, _, h => by simp [py] at h
  | .obj _ _, _, _, _, h => by simp [py] at h
  | .exv _ _, _, _, _, h => by simp [py] at h
  | .ref _, _, _, _, h => by simp [py] at h
  | .scr _, _, _, _, h => by simp [py] at h
theorem dpL_of (e : Same F H) : ∀ (ds : List D) {xs : List V} {ps : List PyData}, RpL K mg rho F xs ds → pyL ds = some ps → DpAll K H xs ps
  | [], _, _, r, h => by cases r; simp [pyL] at h; subst h; exact .nil
  | d :: ds, _, _, r, h => by
    simp only [pyL] at h
    split at h
    · rename_i p q h1 h2
      cases h
      cases r with
      | cons r1 r2 => exact .cons (dp_of e d r1 h1) (dpL_of e ds r2 h2)
    · cases h
end
theorem dp_top {m : M} {d : D} {x : V} {p : PyData} (A : Abs K mg rho F H m) (r : Rp K mg rho F x d) (h : pyT d m = some p) : Dp K H x p := by
  unfold pyT at h
  split at h
  · split at h
    · rename_i hm
      simp only [Option.map_eq_some_iff] at h
      obtain ⟨ps, h1, rfl⟩ := h
      cases r with
      | ref hi =>
        obtain ⟨_, vs, h0, r⟩ := A.own _ _ _ hi hm
        exact .lst (SqL.of h0) (dpL_of A.ex _ r h1)
    · cases h
  · exact dp_of A.ex d r h
end

/-- == -/
def eqB (d e : D) (m : M) : R Bool := match d, e with
  | .int i, .int j => .ok (decide (i = j)) m
  | .str x, .str y => .ok (decide (x = y)) m
  | .bl x, .bl y => .ok (decide (x = y)) m
  | d, e => match pyT d m, pyT e m with
    | some p, some q => if SeqAt.shaped p = true ∧ SeqAt.shaped q = true then .ok (PyData.eqv p q) m else .no
    | _, _ => .no
def blR (r : R Bool) : R D := match r with
  | .ok b m => .ok (.bl b) m
  | .ex c m => .ex c m
  | .no => .no
def notR (r : R Bool) : R Bool := match r with
  | .ok b m => .ok (!b) m
  | .ex c m => .ex c m
  | .no => .no
def eqD (d e : D) (m : M) : R D := blR (eqB d e m)
def neD (d e : D) (m : M) : R D := blR (notR (eqB d e m))
section
variable {X : Cx}
theorem rp_bl {K : PySem.W.Frag} {mg : Str → Option Value} {rho : List Addr} {F : Hp} {b c : Bool} (h : b = c) : Rp K mg rho F (.bl b) (.bl c) := by subst h; exact .bl
theorem od_eq (hu : X.A.units + 64 < cLine) : OpD X (compareOp .Eq) eqD := OpR.imp (op_eq.or (op_eqD hu)) (by
  rintro x y H Q ⟨rho, F, m, d, e, A, r1, r2, h⟩
  unfold eqD eqB at h
  split at h
  · cases r1; cases r2; exact .inl ⟨rfl, h.here A (rp_bl (by simp))⟩
  · cases r1; cases r2; exact .inl ⟨rfl, h.here A (rp_bl (by simp))⟩
  · cases r1; cases r2; exact .inl ⟨rfl, h.here A (rp_bl (by simp))⟩
  · split at h
    · split at h
      · rename_i h1 h2 hc
        exact .inr ⟨_, _, dp_top A r1 h1, dp_top A r2 h2, hc.1, hc.2, h.here A .bl⟩
      · exact h.elim
    · exact h.elim)
theorem od_ne (hu : X.A.units + 64 < cLine) : OpD X (compareOp .NotEq) neD := OpR.imp (op_ne.or (op_neD hu)) (by
  rintro x y H Q ⟨rho, F, m, d, e, A, r1, r2, h⟩
  unfold neD eqB at h
  split at h
  · cases r1; cases r2; exact .inl ⟨rfl, h.here A (rp_bl (by simp))⟩
  · cases r1; cases r2; exact .inl ⟨rfl, h.here A (rp_bl (by simp))⟩
  · cases r1; cases r2; exact .inl ⟨rfl, h.here A (rp_bl (by simp))⟩
  · split at h
    · split at h
      · rename_i h1 h2 hc
        exact .inr ⟨_, _, dp_top A r1 h1, dp_top A r2 h2, hc.1, hc.2, h.here A .bl⟩
      · exact h.elim
    · exact h.elim)
/-! ### < <= > >= -/
def ltD (d e : D) (m : M) : R D := match d, e with
  | .int i, .int j => .ok (.bl (decide (i < j))) m
  | .str x, .str y => .ok (.bl (decide (x.cps.toList < y.cps.toList))) m
  | _, _ => .no
def leD (d e : D) (m : M) : R D := match d, e with
  | .int i, .int j => .ok (.bl (decide (i ≤ j))) m
  | .str x, .str y => .ok (.bl (!decide (y.cps.toList < x.cps.toList))) m
  | _, _ => .no
def gtD (d e : D) (m : M) : R D := ltD e d m
def geD (d e : D) (m : M) : R D := leD e d m
theorem od_lt : OpD X (compareOp .Lt) ltD := OpR.imp (op_lt.or op_lt_str) (by
  rintro x y H Q ⟨rho, F, m, d, e, A, r1, r2, h⟩
  unfold ltD at h
  split at h
  · cases r1; cases r2; exact .inl ⟨_, _, rfl, rfl, h.here A .bl⟩
  · cases r1; cases r2; exact .inr ⟨_, _, rfl, rfl, h.here A .bl⟩
  · exact h.elim)
theorem od_le : OpD X (compareOp .LtE) leD := OpR.imp (op_le.or op_le_str) (by
  rintro x y H Q ⟨rho, F, m, d, e, A, r1, r2, h⟩
  unfold leD at h
  split at h
  · cases r1; cases r2; exact .inl ⟨_, _, rfl, rfl, h.here A .bl⟩
  · cases r1; cases r2; exact .inr ⟨_, _, rfl, rfl, h.here A .bl⟩
  · exact h.elim)
theorem od_gt : OpD X (compareOp .Gt) gtD := OpR.imp (op_gt.or op_gt_str) (by
  rintro x y H Q ⟨rho, F, m, d, e, A, r1, r2, h⟩
  unfold gtD ltD at h
  split at h
  · cases r1; cases r2; exact .inl ⟨_, _, rfl, rfl, h.here A .bl⟩
  · cases r1; cases r2; exact .inr ⟨_, _, rfl, rfl, h.here A .bl⟩
  · exact h.elim)
theorem od_ge : OpD X (compareOp .GtE) geD := OpR.imp (op_ge.or op_ge_str) (by
  rintro x y H Q ⟨rho, F, m, d, e, A, r1, r2, h⟩
  unfold geD leD at h
  split at h
  · cases r1; cases r2; exact .inl ⟨_, _, rfl, rfl, h.here A .bl⟩
  · cases r1; cases r2; exact .inr ⟨_, _, rfl, rfl, h.here A .bl⟩
  · exact h.elim)
/-! ### is None -/
def isND (d e : D) (m : M) : R D := match e with
  | .non => match d with
    | .non => .ok (.bl true) m
    | _ => .ok (.bl false) m
  | _ => .no
def notND (d e : D) (m : M) : R D := match e with
  | .non => match d with
    | .non => .ok (.bl false) m
    | _ => .ok (.bl true) m
  | _ => .no
theorem rp_non {K : PySem.W.Frag} {mg : Str → Option Value} {rho : List Addr} {F : Hp} {x : V} {d : D} (r : Rp K mg rho F x d) (h : d ≠ .non) : x ≠ .non := by
  cases r <;> first | exact absurd rfl h | (intro z; cases z)
theorem od_isN : OpD X (compareOp .Is) isND := OpR.imp op_isN (by
  rintro x y H Q ⟨rho, F, m, d, e, A, r1, r2, h⟩
  unfold isND at h
  split at h
  · cases r2
    split at h
    · cases r1; exact ⟨rfl, h.here A (rp_bl (by simp))⟩
    · rename_i hd
      exact ⟨rfl, h.here A (rp_bl (decide_eq_false (rp_non r1 hd)))⟩
  · exact h.elim)
theorem od_notN : OpD X (compareOp .IsNot) notND := OpR.imp op_notN (by
  rintro x y H Q ⟨rho, F, m, d, e, A, r1, r2, h⟩
  unfold notND at h
  split at h
  · cases r2
    split at h
    · cases r1; exact ⟨rfl, h.here A (rp_bl (by simp))⟩
    · rename_i hd
      exact ⟨rfl, h.here A (rp_bl (by rw [decide_eq_false (rp_non r1 hd)]; rfl))⟩
  · exact h.elim)
end
/-! ### in -/
def flatD : D → Bool
  | .non => true | .bl _ => true | .int _ => true | .str _ => true | _ => false
def eqF : D → D → Bool
  | .non, .non => true
  | .bl a, .bl b => a == b
  | .bl a, .int b => (if a then 1 else 0) == b
  | .int a, .bl b => a == (if b then 1 else 0)
  | .int a, .int b => a == b
  | .str a, .str b => a == b
  | _, _ => false
def inB (d e : D) (m : M) : R Bool := match e with
  | .str y => match d with
    | .str x => .ok (!(Builtin.Str.occurrences y x 0 y.length 1).isEmpty) m
    | _ => .no
  | e => match viewQ e m with
    | some ds => if flatD d && ds.all flatD then .ok (ds.any fun y => eqF y d) m else
      match pyT d m, pyT e m with
      | some p, some (.list q) => if SeqAt.shaped p = true ∧ SeqAt.shaped (.list q) = true then .ok (q.any fun z => PyData.eqv z p) m else .no
      | _, _ => .no
    | none => .no
def inD (d e : D) (m : M) : R D := blR (inB d e m)
def notInD (d e : D) (m : M) : R D := blR (notR (inB d e m))
section
variable {K : PySem.W.Frag} {mg : Str → Option Value} {rho : List Addr} {F H : Hp}
theorem flat_of {x : V} {d : D} (r : Rp K mg rho F x d) (h : flatD d = true) : flatV x = true := by
  cases r <;> first | rfl | cases h
theorem eqF_of {x y : V} {d e : D} (r : Rp K mg rho F x d) (q : Rp K mg rho F y e) (h : flatD d = true) (h' : flatD e = true) : eqV x y = eqF d e := by
  cases r <;> cases q <;> first | rfl | (simp [flatD] at h; done) | (simp [flatD] at h'; done)
theorem flatL_of {xs : List V} {ds : List D} (r : RpL K mg rho F xs ds) (h : ds.all flatD = true) : xs.all flatV = true := by
  induction ds generalizing xs with
  | nil => cases r; rfl
  | cons d ds ih =>
    simp only [List.all_cons, Bool.and_eq_true] at h
    cases r with
    | cons r1 r2 => simp only [List.all_cons, Bool.and_eq_true]; exact ⟨flat_of r1 h.1, ih r2 h.2⟩
theorem inV_of {x : V} {d : D} {xs : List V} {ds : List D} (r : Rp K mg rho F x d) (rs : RpL K mg rho F xs ds) (h : flatD d = true) (hs : ds.all flatD = true) : inV x xs = ds.any fun y => eqF y d := by
  unfold inV
  induction ds generalizing xs with
  | nil => cases rs; rfl
  | cons e ds ih =>
    simp only [List.all_cons, Bool.and_eq_true] at hs
    cases rs with
    | cons r1 r2 => simp only [List.any_cons]; rw [eqF_of r1 r hs.1 h, ih r2 hs.2]
end
section
variable {X : Cx}
theorem od_in (hu : X.A.units + 65 < cLine) : OpD X (compareOp .In) inD := OpR.imp (op_in_str.or (op_in_seq.or (op_inD hu))) (by
  rintro x y H Q ⟨rho, F, m, d, e, A, r1, r2, h⟩
  unfold inD inB at h
  split at h
  · split at h
    · cases r1; cases r2; exact .inl ⟨_, _, rfl, rfl, h.here A .bl⟩
    · exact h.elim
  · split at h
    · rename_i ds hv
      obtain ⟨p, vs, rfl, hp, q1⟩ := r2.viewQ A hv
      split at h
      · rename_i hc
        simp only [Bool.and_eq_true] at hc
        refine .inr (.inl ⟨p, vs, rfl, hp, flat_of r1 hc.1, flatL_of q1 hc.2, ?_⟩)
        exact h.here A (rp_bl (by rw [if_neg Bool.false_ne_true]; exact inV_of r1 q1 hc.1 hc.2))
      · split at h
        · split at h
          · rename_i h1 h2 hc
            exact .inr (.inr ⟨_, _, dp_top A r1 h1, dp_top A r2 h2, hc.1, hc.2, h.here A .bl⟩)
          · exact h.elim
        · exact h.elim
    · exact h.elim)
theorem od_notIn (hu : X.A.units + 65 < cLine) : OpD X (compareOp .NotIn) notInD := OpR.imp (op_notin_str.or (op_notIn_seq.or (op_notInD hu))) (by
  rintro x y H Q ⟨rho, F, m, d, e, A, r1, r2, h⟩
  unfold notInD inB at h
  split at h
  · split at h
    · cases r1; cases r2; exact .inl ⟨_, _, rfl, rfl, h.here A .bl⟩
    · exact h.elim
  · split at h
    · rename_i ds hv
      obtain ⟨p, vs, rfl, hp, q1⟩ := r2.viewQ A hv
      split at h
      · rename_i hc
        simp only [Bool.and_eq_true] at hc
        refine .inr (.inl ⟨p, vs, rfl, hp, flat_of r1 hc.1, flatL_of q1 hc.2, ?_⟩)
        exact h.here A (rp_bl (by rw [if_pos rfl, inV_of r1 q1 hc.1 hc.2]))
      · split at h
        · split at h
          · rename_i h1 h2 hc
            exact .inr (.inr ⟨_, _, dp_top A r1 h1, dp_top A r2 h2, hc.1, hc.2, h.here A .bl⟩)
          · exact h.elim
        · exact h.elim
    · exact h.elim)
end
end HB
namespace HB
open PySem L2

/-! ### repr -/
mutual
def pyR : D → Option PyData
  | .non => some .none
  | .bl b => some (.bool b)
  | .int i => some (.int i)
  | .str x => some (.str x)
  | .tup ds => (pyRL ds).map .tuple
  | .lst ds => (pyRL ds).map .list
  | .dct kvs => (pyRK kvs).map .dict
  | .obj _ _ => none
  | .exv _ _ => none
  | .ref _ => none
  | .scr _ => none
def pyRL : List D → Option (List PyData)
  | [] => some []
  | d :: ds => match pyR d, pyRL ds with
    | some p, some q => some (p :: q)
    | _, _ => none
def pyRK : List (D × D) → Option (List (PyData × PyData))
  | [] => some []
  | (k, d) :: ds => match pyR k, pyR d, pyRK ds with
    | some p, some q, some r => some ((p, q) :: r)
    | _, _, _ => none
end
def pyRT (d : D) (m : M) : Option PyData := match d with
  | .ref i => match m[i]? with
    | some (.lst ds) => (pyRL ds).map .list
    | some (.dct ds) => (pyRK ds).map .dict
    | _ => none
  | d => pyR d
def keyP : Key → PyData
  | .inl i => .int i
  | .inr x => .str x
theorem pyR_key (k : Key) : pyR (keyD k) = some (keyP k) := by cases k <;> rfl
theorem pyRL_keys : ∀ ks : List Key, pyRL (ks.map keyD) = some (ks.map keyP)
  | [] => rfl
  | k :: ks => by simp [pyRL, pyR_key, pyRL_keys ks]
section
variable {X : Cx} {pins : List (Addr × Obj)} {σ : L2.St} {H : Hp} {s : Shared} {K : PySem.W.Frag} {mg : Str → Option Value} {rho : List Addr} {F : Hp}
theorem reads_key {h : Heap} {k : Key} {v : Value} (e : keyIs k v = true) : Reads h v (keyP k) [] := by
  rcases keyIs_shape e with ⟨i, t, rfl, rfl⟩ | ⟨x, t, rfl, rfl⟩
  · exact .int i t
  · exact .str x t
theorem reads_tkey (I : Inv X pins σ H s) {a : Addr} {k : List Key} (h : H a = some (.tup (k.map kV))) : Reads s.heap (.ref a) (.tuple (k.map keyP)) [] := by
  obtain ⟨its, rv, ⟨o, ho, hc, n, hd⟩, _⟩ := I.tuple (SqT.of h)
  refine .tuple ho hc hd ?_
  have all : ∀ (k : List Key) (us : List Value), Vals (k.map kV) us → ReadsAll s.heap us (k.map keyP) [] := by
    intro k
    induction k with
    | nil => intro us r; cases r; exact .nil
    | cons x k ih =>
      intro us r
      cases r with
      | cons r1 r2 =>
        refine ReadsAll.cons (as := []) (bs := []) ?_ (ih _ r2)
        cases x with
        | inl i => obtain ⟨t, rfl⟩ := r1; exact .int i t
        | inr x => obtain ⟨t, rfl⟩ := r1; exact .str x t
  exact all k its (by simpa using rv)
/-- the addresses of what was read are tracked -/
def Trk (H : Hp) (as : List Addr) : Prop := ∀ b ∈ as, ∃ o, H b = some o
theorem Trk.app {as bs : List Addr} (h : Trk H as) (h' : Trk H bs) : Trk H (as ++ bs) := fun b hb => by
  rcases List.mem_append.mp hb with z | z
  · exact h b z
  · exact h' b z
mutual
theorem reads_of (I : Inv X pins σ H s) (e : Same F H) : ∀ (d : D) {x : V} {p : PyData} {u : Value}, Rp X.K mg rho F x d → pyR d = some p → RelV x u → ∃ as, Reads s.heap u p as ∧ Trk H as
  | .non, _, _, _, r, h, q => by cases r; cases h; cases q; exact ⟨_, .none, nofun⟩
  | .bl b, _, _, _, r, h, q => by cases r; cases h; cases q; exact ⟨_, .bool b, nofun⟩
  | .int i, _, _, _, r, h, q => by cases r; cases h; obtain ⟨t, rfl⟩ := q; exact ⟨_, .int i t, nofun⟩
  | .str x, _, _, _, r, h, q => by cases r; cases h; obtain ⟨t, rfl⟩ := q; exact ⟨_, .str x t, nofun⟩
  | .tup ds, _, _, _, r, h, q => by
    simp only [pyR, Option.map_eq_some_iff] at h
    obtain ⟨ps, h1, rfl⟩ := h
    cases r with
    | tup hs hr =>
      cases q
      obtain ⟨its, rv, ⟨o, ho, hc, n, hd⟩, _⟩ := I.tuple (sqT_mono e hs)
      obtain ⟨as, hr, ha⟩ := readsL_of I e ds hr h1 rv
      exact ⟨_, .tuple ho hc hd hr, ha⟩
  | .lst ds, _, _, _, r, h, q => by
    simp only [pyR, Option.map_eq_some_iff] at h
    obtain ⟨ps, h1, rfl⟩ := h
    cases r with
    | lst hs hr =>
      cases q
      obtain ⟨its, rv, ⟨o, n, ho, hc, _, hd⟩, _⟩ := I.list (SqL.of (e _ _ hs))
      obtain ⟨as, hr, ha⟩ := readsL_of I e ds hr h1 rv
      refine ⟨_, .list ho hc hd hr, fun b hb => ?_⟩
      rcases List.mem_cons.mp hb with z | z
      · rw [z]; exact ⟨_, e _ _ hs⟩
      · exact ha b z
  | .dct kvs, _, _, _, r, h, q => by
    simp only [pyR, Option.map_eq_some_iff] at h
    obtain ⟨ps, h1, rfl⟩ := h
    cases r with
    | dK hs hr =>
      cases q
      obtain ⟨_, _, vs, kv, o, es, ep, ho, hx, hd, _, hp, _⟩ := (show ObjOk X.prog X.w H s.heap _ (.dK _) from I.hok _ _ (e _ _ hs))
      obtain ⟨as, q1, q2, ha⟩ := readsK_of I e kvs hr h1 kv hp
      refine ⟨_, .dict ho hx.1 hd q1 q2, fun b hb => ?_⟩
      simp only [List.append_nil, List.cons_append, List.mem_cons, List.nil_append] at hb
      rcases hb with z | z
      · rw [z]; exact ⟨_, e _ _ hs⟩
      · exact ha b z
    | dT hs hr =>
      cases q
      obtain ⟨_, _, xs, kv, o, es, ep, ho, hx, hd, hes, _⟩ := (show ObjOk X.prog X.w H s.heap _ (.dT _) from I.hok _ _ (e _ _ hs))
      obtain ⟨as, q1, q2, ha⟩ := readsT_of I e kvs hr h1 kv hes
      refine ⟨_, .dict ho hx.1 hd q1 q2, fun b hb => ?_⟩
      simp only [List.append_nil, List.cons_append, List.mem_cons, List.nil_append] at hb
      rcases hb with z | z
      · rw [z]; exact ⟨_, e _ _ hs⟩
      · exact ha b z
  | .obj _ _, _, _, _, _, h, _ => by cases h
  | .exv _ _, _, _, _, _, h, _ => by cases h
  | .ref _, _, _, _, _, h, _ => by cases h
  | .scr _, _, _, _, _, h, _ => by cases h
theorem readsL_of (I : Inv X pins σ H s) (e : Same F H) : ∀ (ds : List D) {xs : List V} {ps : List PyData} {us : List Value}, RpL X.K mg rho F xs ds → pyRL ds = some ps → Vals xs us → ∃ as, ReadsAll s.heap us ps as ∧ Trk H as
  | [], _, _, _, r, h, q => by cases r; cases h; cases q; exact ⟨_, .nil, nofun⟩
  | d :: ds, _, _, _, r, h, q => by
    simp only [pyRL] at h
    split at h
    · rename_i h1 h2
      cases h
      cases r with
      | cons r1 r2 =>
        cases q with
        | cons q1 q2 =>
          obtain ⟨as, a1, t1⟩ := reads_of I e d r1 h1 q1
          obtain ⟨bs, a2, t2⟩ := readsL_of I e ds r2 h2 q2
          exact ⟨_, .cons a1 a2, t1.app t2⟩
    · cases h
theorem readsK_of (I : Inv X pins σ H s) (e : Same F H) : ∀ (ds : List (D × D)) {xs : List (Key × V)} {ps : List (PyData × PyData)} {us : List (Key × Value)} {es : List DictEntry}, RpK X.K mg rho F xs ds → pyRK ds = some ps → KV xs us → Pairs (mixKind X.prog X.w) es us →
    ∃ as, ReadsAll s.heap (es.map (·.key)) (ps.map (·.1)) [] ∧ ReadsAll s.heap (es.map (·.val)) (ps.map (·.2)) as ∧ Trk H as
  | [], _, _, _, _, r, h, q, z => by cases r; cases h; cases q; cases z; exact ⟨_, .nil, .nil, nofun⟩
  | (k, d) :: ds, _, _, _, _, r, h, q, z => by
    simp only [pyRK] at h
    split at h
    · rename_i h0 h1 h2
      cases h
      cases r with
      | cons r1 r2 =>
        rw [pyR_key] at h0
        cases h0
        cases q with
        | cons q1 q2 =>
          cases z with
          | cons z1 z2 z3 =>
            obtain ⟨e1, e2⟩ := q1
            rename_i ent _
            rw [← z2] at e2
            obtain ⟨as, a1, t1⟩ := reads_of I e d r1 h1 e2
            obtain ⟨bs, b0, b1, t2⟩ := readsK_of I e ds r2 h2 q2 z3
            refine ⟨_, ReadsAll.cons (as := []) (bs := []) (reads_key ?_) b0, .cons a1 b1, t1.app t2⟩
            rw [mixKind_is, ← e1] at z1
            exact z1
    · cases h
theorem readsT_of (I : Inv X pins σ H s) (e : Same F H) : ∀ (ds : List (D × D)) {xs : List (List Key × V)} {ps : List (PyData × PyData)} {us : List (List Key × Addr × Value)} {es : List DictEntry}, RpT X.K mg rho F xs ds → pyRK ds = some ps →
    Paired (fun (p : List Key × V) (q : List Key × Addr × Value) => p.1 = q.1 ∧ H q.2.1 = some (.tup (p.1.map kV)) ∧ RelV p.2 q.2.2) xs us → es = us.map (entryOfKey (tupleKind (mixKind X.prog X.w))) →
    ∃ as, ReadsAll s.heap (es.map (·.key)) (ps.map (·.1)) [] ∧ ReadsAll s.heap (es.map (·.val)) (ps.map (·.2)) as ∧ Trk H as
  | [], _, _, _, _, r, h, q, z => by cases r; cases h; cases q; subst z; exact ⟨_, .nil, .nil, nofun⟩
  | (k, d) :: ds, _, _, _, _, r, h, q, z => by
    simp only [pyRK] at h
    split at h
    · rename_i h0 h1 h2
      cases h
      cases r with
      | cons r1 r2 =>
        simp only [pyR, pyRL_keys, Option.map_some, Option.some.injEq] at h0
        subst h0
        cases q with
        | cons q1 q2 =>
          subst z
          obtain ⟨e1, e2, e3⟩ := q1
          obtain ⟨as, a1, t1⟩ := reads_of I e d r1 h1 e3
          obtain ⟨bs, b0, b1, t2⟩ := readsT_of I e ds r2 h2 q2 rfl
          exact ⟨_, ReadsAll.cons (as := []) (bs := []) (reads_tkey I e2) b0, .cons a1 b1, t1.app t2⟩
    · cases h
end
theorem reads_top (I : Inv X pins σ H s) {m : M} {d : D} {x : V} {p : PyData} {u : Value} (A : Abs X.K mg rho F H m) (r : Rp X.K mg rho F x d) (h : pyRT d m = some p) (q : RelV x u) : ∃ as, Reads s.heap u p as ∧ Trk H as := by
  unfold pyRT at h
  split at h
  · split at h
    · rename_i hm
      simp only [Option.map_eq_some_iff] at h
      obtain ⟨ps, h1, rfl⟩ := h
      cases r with
      | ref hi =>
        obtain ⟨_, vs, h0, r⟩ := A.own _ _ _ hi hm
        cases q
        obtain ⟨its, rv, ⟨o, n, ho, hc, _, hd⟩, _⟩ := I.list (SqL.of h0)
        obtain ⟨as, hr, ha⟩ := readsL_of I A.ex _ r h1 rv
        refine ⟨_, .list ho hc hd hr, fun b hb => ?_⟩
        rcases List.mem_cons.mp hb with z | z
        · rw [z]; exact ⟨_, h0⟩
        · exact ha b z
    · rename_i hm
      simp only [Option.map_eq_some_iff] at h
      obtain ⟨ps, h1, rfl⟩ := h
      cases r with
      | ref hi =>
        obtain ⟨_, ⟨ks, h0, r⟩ | ⟨ks, h0, r⟩⟩ := A.own _ _ _ hi hm
        · cases q
          obtain ⟨_, _, vs, kv, o, es, ep, ho, hx, hd, _, hp, _⟩ := (show ObjOk X.prog X.w H s.heap _ (.dK _) from I.hok _ _ h0)
          obtain ⟨as, q1, q2, ha⟩ := readsK_of I A.ex _ r h1 kv hp
          refine ⟨_, .dict ho hx.1 hd q1 q2, fun b hb => ?_⟩
          simp only [List.append_nil, List.cons_append, List.mem_cons, List.nil_append] at hb
          rcases hb with z | z
          · rw [z]; exact ⟨_, h0⟩
          · exact ha b z
        · cases q
          obtain ⟨_, _, xs, kv, o, es, ep, ho, hx, hd, hes, _⟩ := (show ObjOk X.prog X.w H s.heap _ (.dT _) from I.hok _ _ h0)
          obtain ⟨as, q1, q2, ha⟩ := readsT_of I A.ex _ r h1 kv hes
          refine ⟨_, .dict ho hx.1 hd q1 q2, fun b hb => ?_⟩
          simp only [List.append_nil, List.cons_append, List.mem_cons, List.nil_append] at hb
          rcases hb with z | z
          · rw [z]; exact ⟨_, h0⟩
          · exact ha b z
    · cases h
  · exact reads_of I A.ex d r h q
end
/-! ### calls of built-ins by data -/
def CallD (X : Cx) (f : Value) (g : List D → M → R D) : Prop :=
  CallR X f (fun xs H Q => ∃ rho F m ds, Abs X.K X.mg rho F H m ∧ RpL X.K X.mg rho F xs ds ∧ RdO X.K X.mg rho F H Q (g ds m))
def reprD (ds : List D) (m : M) : R D := match ds with
  | [d] => match pyRT d m with
    | some p => if p.showable = true ∧ p.depth ≤ 64 ∧ p.shown.length ≤ sizeLine then .ok (.str p.shown) m else .no
    | none => .no
  | _ => .no
section
variable {X : Cx}
theorem cd_repr (hg : X.A.guards = some []) (hu : X.A.units + 130 < cLine) (hb : ∃ o, X.base.get? sysModules = some o) : CallD X (.builtin "repr") reprD := by
  rintro pins s σ H xs us Q I r ⟨rho, F, m, ds, A, rr, h⟩
  unfold reprD at h
  split at h
  · split at h
    · split at h
      · rename_i d p hp hc
        obtain ⟨h1, h2, h3⟩ := hc
        cases rr with
        | cons rr1 rr2 =>
          cases rr2
          obtain ⟨u, rfl, ru⟩ := Vals.one r
          obtain ⟨as, rd, tk⟩ := reads_top I A rr1 hp ru
          have sm : sysModules ∉ as := fun z => by
            obtain ⟨o, q⟩ := tk _ z
            obtain ⟨ob, hob⟩ := hb
            rw [(I.bs _ _ hob).2] at q; cases q
          have fin : ∀ (h' : Heap) (u : Tok) (tk : Nat), (∀ b o, s.heap.get? b = some o → h'.get? b = some o) → EP X pins σ Q (.str p.shown u) { s with heap := h', toks := tk } := fun h' u tk k =>
            ⟨.str _, H, I.kept (t' := tk) k, ⟨_, rfl⟩, h.here A .str⟩
          cases rd with
          | none => exact PySem.P.repr_of_none (fin s.heap _ _ fun _ _ e => e)
          | bool b => exact PySem.P.repr_of_bool (fin s.heap _ _ fun _ _ e => e)
          | int i t => exact PySem.P.repr_of_int (by simpa [PyData.showable] using h1) (fin s.heap _ _ fun _ _ e => e)
          | str x t => exact PySem.P.repr_of_str (fin s.heap _ _ fun _ _ e => e) h3
          | list a1 a2 a3 a4 => exact repr_of_reads' (.list a1 a2 a3 a4) h1 (fun _ => sm) hg (by omega) (fun _ _ e => e) fin h3
          | tuple a1 a2 a3 a4 => exact repr_of_reads' (.tuple a1 a2 a3 a4) h1 (fun _ => sm) hg (by omega) (fun _ _ e => e) fin h3
          | dict a1 a2 a3 a4 a5 => exact repr_of_reads' (.dict a1 a2 a3 a4 a5) h1 (fun _ => sm) hg (by omega) (fun _ _ e => e) fin h3
      · exact h.elim
    · exact h.elim
  · exact h.elim
end
end HB
namespace HB
open PySem L2

theorem CallR.imp {X : Cx} {f : Value} {r r' : List V → Hp → VK → Prop} (h : CallR X f r) (k : ∀ xs H Q, r' xs H Q → r xs H Q) : CallR X f r' := fun pins s σ H xs us Q I r1 q => h pins s σ H xs us Q I r1 (k _ _ _ q)
section
variable {K : PySem.W.Frag} {mg : Str → Option Value} {rho : List Addr} {F H : Hp} {m : M} {Q : VK}
theorem RdO.newLM {ds : List D} {vs : List V} {p : Addr} (h : RdO K mg rho F H Q (.ok (.ref m.length) (m ++ [.lst ds]))) (A : Abs K mg rho F H m) (r : RpL K mg rho F vs ds) (np : H p = none) : Q (.ref p) (upd H p (.lst vs)) := by
  have on : Onto rho F (rho ++ [p]) F := ⟨fun {i x} h => by rw [List.getElem?_append_left (List.getElem?_eq_some_iff.mp h).1]; exact h, Same.refl F⟩
  have nF : F p = none := by
    cases e : F p with
    | none => rfl
    | some u => rw [A.ex p u e] at np; cases np
  obtain ⟨st, A'⟩ := A.alloc (o := .lst vs) (x := .lst ds) np ⟨nF, vs, upd_same, r.mono on⟩
  refine h _ _ _ _ st A' (.ref ?_)
  rw [← A.len, List.getElem?_append_right (Nat.le_refl _)]
  simp
end
/-! ### truth -/
def truthB (d : D) (m : M) : R Bool := match d with
  | .non => .ok false m
  | .bl b => .ok b m
  | .int i => .ok (i != 0) m
  | .str y => if y.length ≤ sizeLine then .ok ((y.length : Int) != 0) m else .no
  | d => match viewQ d m with
    | some ds => .ok (!ds.isEmpty) m
    | none => .no
section
variable {K : PySem.W.Frag} {mg : Str → Option Value} {rho : List Addr} {F H : Hp} {m : M}
theorem RpL.isEmpty {vs : List V} {ds : List D} (r : RpL K mg rho F vs ds) : vs.isEmpty = ds.isEmpty := by cases r <;> rfl
theorem truth_of {x : V} {d : D} {b : Bool} {m' : M} (A : Abs K mg rho F H m) (r : Rp K mg rho F x d) (h : truthB d m = .ok b m') : TruV K x H b ∧ m' = m := by
  unfold truthB at h
  split at h
  · cases r; cases h; exact ⟨rfl, rfl⟩
  · cases r; cases h; exact ⟨rfl, rfl⟩
  · cases r; cases h; exact ⟨rfl, rfl⟩
  · split at h
    · rename_i hc
      cases r; cases h; exact ⟨⟨hc, rfl⟩, rfl⟩
    · cases h
  · split at h
    · rename_i ds hv
      obtain ⟨p, vs, rfl, hp, q1⟩ := r.viewQ A hv
      cases h
      refine ⟨?_, rfl⟩
      rcases hp with hp | hp
      · exact .inl ⟨vs, hp, by rw [q1.isEmpty]⟩
      · exact .inr (.inl ⟨vs, hp, by rw [q1.isEmpty]⟩)
    · cases h
theorem truth_noex {d : D} {m m' : M} {c : Exc} : truthB d m ≠ .ex c m' := by
  unfold truthB
  intro h
  split at h <;> (try split at h) <;> cases h
end
/-! ### built-in functions -/
def absD (ds : List D) (m : M) : R D := match ds with
  | [.int i] => .ok (.int (if i < 0 then -i else i)) m
  | _ => .no
def maxI : List Int → Int
  | [] => 0
  | [a] => a
  | a :: r => let b := maxI r; if b > a then b else a
def minI : List Int → Int
  | [] => 0
  | [a] => a
  | a :: r => let b := minI r; if b < a then b else a
theorem maxI_spec : ∀ {ns : List Int}, ns ≠ [] → maxI ns ∈ ns ∧ ∀ y ∈ ns, y ≤ maxI ns
  | [], h => absurd rfl h
  | [a], _ => by simp [maxI]
  | a :: b :: r, _ => by
    obtain ⟨h1, h2⟩ := maxI_spec (ns := b :: r) (by simp)
    simp only [maxI]
    split
    · refine ⟨List.mem_cons_of_mem _ h1, fun y hy => ?_⟩
      rcases List.mem_cons.mp hy with e | e
      · subst e; omega
      · exact h2 y e
    · refine ⟨List.mem_cons_self, fun y hy => ?_⟩
      rcases List.mem_cons.mp hy with e | e
      · subst e; omega
      · have := h2 y e; omega
theorem minI_spec : ∀ {ns : List Int}, ns ≠ [] → minI ns ∈ ns ∧ ∀ y ∈ ns, minI ns ≤ y
  | [], h => absurd rfl h
  | [a], _ => by simp [minI]
  | a :: b :: r, _ => by
    obtain ⟨h1, h2⟩ := minI_spec (ns := b :: r) (by simp)
    simp only [minI]
    split
    · refine ⟨List.mem_cons_of_mem _ h1, fun y hy => ?_⟩
      rcases List.mem_cons.mp hy with e | e
      · subst e; omega
      · exact h2 y e
    · refine ⟨List.mem_cons_self, fun y hy => ?_⟩
      rcases List.mem_cons.mp hy with e | e
      · subst e; omega
      · have := h2 y e; omega
def maxD (ds : List D) (m : M) : R D := match ds with
  | [.int i, .int j] => .ok (.int (if j > i then j else i)) m
  | [d] => match (viewS d m).bind asInts with
    | some (n :: ns) => .ok (.int (maxI (n :: ns))) m
    | _ => .no
  | _ => .no
def minD (ds : List D) (m : M) : R D := match ds with
  | [.int i, .int j] => .ok (.int (if j < i then j else i)) m
  | [d] => match (viewS d m).bind asInts with
    | some (n :: ns) => .ok (.int (minI (n :: ns))) m
    | _ => .no
  | _ => .no
def sumD (ds : List D) (m : M) : R D := match ds with
  | [d] => match (viewS d m).bind asInts with
    | some ns => .ok (.int ns.sum) m
    | _ => .no
  | _ => .no
def intD (ds : List D) (m : M) : R D := match ds with
  | [.int i] => .ok (.int i) m
  | [.bl b] => .ok (.int (if b then 1 else 0)) m
  | _ => .no
def strD (ds : List D) (m : M) : R D := match ds with
  | [.int i] => if i.natAbs.log2 < 1920 then .ok (.str (toString i)) m else .no
  | [.str x] => .ok (.str x) m
  | _ => .no
def lenD (ds : List D) (m : M) : R D := match ds with
  | [.str x] => if x.length ≤ sizeLine then .ok (.int x.length) m else .no
  | [d] => match viewQ d m with
    | some xs => .ok (.int xs.length) m
    | none => .no
  | _ => .no
def allD (ds : List D) (m : M) : R D := match ds with
  | [d] => match (viewS d m).bind asBls with
    | some bs => .ok (.bl (bs.all id)) m
    | _ => .no
  | _ => .no
def anyD (ds : List D) (m : M) : R D := match ds with
  | [d] => match (viewS d m).bind asBls with
    | some bs => .ok (.bl (bs.any id)) m
    | _ => .no
  | _ => .no
def tupleD (ds : List D) (m : M) : R D := match ds with
  | [.tup xs] => .ok (.tup xs) m
  | [d] => match viewS d m with
    | some xs => .ok (.tup xs) m
    | none => .no
  | _ => .no
def listD (ds : List D) (m : M) : R D := match ds with
  | [d] => match viewQ d m with
    | some xs => .ok (.lst xs) m
    | none => .no
  | _ => .no
/-- a list of our own -/
def listMD (ds : List D) (m : M) : R D := match ds with
  | [d] => match viewQ d m with
    | some xs => .ok (.ref m.length) (m ++ [.lst xs])
    | none => .no
  | _ => .no
section
variable {X : Cx}
theorem bind_view {α : Type} {d : D} {m : M} {f : List D → Option α} {a : α} (h : (viewS d m).bind f = some a) : ∃ ds, viewS d m = some ds ∧ f ds = some a := by
  cases e : viewS d m with
  | none => rw [e] at h; cases h
  | some ds => rw [e] at h; exact ⟨ds, rfl, h⟩
theorem cd_abs : CallD X (.builtin "abs") absD := CallR.imp call_abs (by
  rintro xs H Q ⟨rho, F, m, ds, A, r, h⟩
  unfold absD at h
  split at h
  · cases r with | cons r1 r2 => cases r1; cases r2; exact ⟨_, rfl, h.here A .int⟩
  · exact h.elim)
theorem cd_max (hc : X.calm = true) : CallD X (.builtin "max") maxD := CallR.imp ((call_max2 hc).or (cr_max hc)) (by
  rintro xs H Q ⟨rho, F, m, ds, A, r, h⟩
  unfold maxD at h
  split at h
  · cases r with | cons r1 r2 => cases r2 with | cons r2 r3 => cases r1; cases r2; cases r3; exact .inl ⟨_, _, rfl, h.here A .int⟩
  · split at h
    · rename_i d n ns hv
      obtain ⟨ds, h1, h2⟩ := bind_view hv
      have e := asInts_eq h2
      subst e
      cases r with
      | cons r1 r2 =>
        cases r2
        obtain ⟨p, vs, rfl, hp, q1⟩ := r1.viewS A h1
        have e := q1.intsE
        subst e
        refine .inr ⟨p, _, rfl, hp, by simp, fun k hk hle => ?_⟩
        obtain ⟨g1, g2⟩ := maxI_spec (ns := n :: ns) (by simp)
        have : k = maxI (n :: ns) := by have := hle _ g1; have := g2 _ hk; omega
        rw [this]
        exact h.here A .int
    · exact h.elim
  · exact h.elim)
theorem cd_min (hc : X.calm = true) : CallD X (.builtin "min") minD := CallR.imp ((call_min2 hc).or (cr_min hc)) (by
  rintro xs H Q ⟨rho, F, m, ds, A, r, h⟩
  unfold minD at h
  split at h
  · cases r with | cons r1 r2 => cases r2 with | cons r2 r3 => cases r1; cases r2; cases r3; exact .inl ⟨_, _, rfl, h.here A .int⟩
  · split at h
    · rename_i d n ns hv
      obtain ⟨ds, h1, h2⟩ := bind_view hv
      have e := asInts_eq h2
      subst e
      cases r with
      | cons r1 r2 =>
        cases r2
        obtain ⟨p, vs, rfl, hp, q1⟩ := r1.viewS A h1
        have e := q1.intsE
        subst e
        refine .inr ⟨p, _, rfl, hp, by simp, fun k hk hle => ?_⟩
        obtain ⟨g1, g2⟩ := minI_spec (ns := n :: ns) (by simp)
        have : k = minI (n :: ns) := by have := hle _ g1; have := g2 _ hk; omega
        rw [this]
        exact h.here A .int
    · exact h.elim
  · exact h.elim)
theorem cd_sum (hc : X.calm = true) : CallD X (.builtin "sum") sumD := CallR.imp (cr_sum hc) (by
  rintro xs H Q ⟨rho, F, m, ds, A, r, h⟩
  unfold sumD at h
  split at h
  · split at h
    · rename_i d ns hv
      obtain ⟨ds, h1, h2⟩ := bind_view hv
      have e := asInts_eq h2
      subst e
      cases r with
      | cons r1 r2 =>
        cases r2
        obtain ⟨p, vs, rfl, hp, q1⟩ := r1.viewS A h1
        have e := q1.intsE
        subst e
        exact ⟨p, _, rfl, hp, h.here A .int⟩
    · exact h.elim
  · exact h.elim)
theorem cd_int : CallD X (.type "int") intD := CallR.imp call_int1 (by
  rintro xs H Q ⟨rho, F, m, ds, A, r, h⟩
  unfold intD at h
  split at h
  · cases r with | cons r1 r2 => cases r1; cases r2; exact .inl ⟨_, rfl, h.here A .int⟩
  · cases r with | cons r1 r2 => cases r1; cases r2; exact .inr ⟨_, rfl, h.here A .int⟩
  · exact h.elim)
theorem cd_str : CallD X (.type "str") strD := CallR.imp (call_str_int.or SkE.call_str_str) (by
  rintro xs H Q ⟨rho, F, m, ds, A, r, h⟩
  unfold strD at h
  split at h
  · split at h
    · rename_i hc
      cases r with | cons r1 r2 => cases r1; cases r2; exact .inl ⟨_, rfl, hc, h.here A .str⟩
    · exact h.elim
  · cases r with | cons r1 r2 => cases r1; cases r2; exact .inr ⟨_, rfl, h.here A .str⟩
  · exact h.elim)
theorem cd_len : CallD X (.builtin "len") lenD := CallR.imp call_len (by
  rintro xs H Q ⟨rho, F, m, ds, A, r, h⟩
  unfold lenD at h
  split at h
  · split at h
    · rename_i hc
      cases r with | cons r1 r2 => cases r1; cases r2; exact ⟨_, _, rfl, ⟨hc, rfl⟩, h.here A .int⟩
    · exact h.elim
  · split at h
    · rename_i d _ xs hv
      cases r with
      | cons r1 r2 =>
        cases r2
        obtain ⟨p, vs, rfl, hp, q1⟩ := r1.viewQ A hv
        refine ⟨_, vs.length, rfl, ?_, ?_⟩
        · rcases hp with hp | hp
          · exact .inl ⟨vs, hp, rfl⟩
          · exact .inr ⟨vs, hp, rfl⟩
        · rw [q1.length]; exact h.here A .int
    · exact h.elim
  · exact h.elim)
theorem cd_all (hc : X.calm = true) : CallD X (.builtin "all") allD := CallR.imp (cr_all hc) (by
  rintro xs H Q ⟨rho, F, m, ds, A, r, h⟩
  unfold allD at h
  split at h
  · split at h
    · rename_i d ns hv
      obtain ⟨ds, h1, h2⟩ := bind_view hv
      have e := asBls_eq h2
      subst e
      cases r with
      | cons r1 r2 =>
        cases r2
        obtain ⟨p, vs, rfl, hp, q1⟩ := r1.viewS A h1
        have e := q1.bls
        subst e
        exact ⟨p, _, rfl, hp, h.here A .bl⟩
    · exact h.elim
  · exact h.elim)
theorem cd_any (hc : X.calm = true) : CallD X (.builtin "any") anyD := CallR.imp (cr_any hc) (by
  rintro xs H Q ⟨rho, F, m, ds, A, r, h⟩
  unfold anyD at h
  split at h
  · split at h
    · rename_i d ns hv
      obtain ⟨ds, h1, h2⟩ := bind_view hv
      have e := asBls_eq h2
      subst e
      cases r with
      | cons r1 r2 =>
        cases r2
        obtain ⟨p, vs, rfl, hp, q1⟩ := r1.viewS A h1
        have e := q1.bls
        subst e
        exact ⟨p, _, rfl, hp, h.here A .bl⟩
    · exact h.elim
  · exact h.elim)
theorem cd_tuple : CallD X (.type "tuple") tupleD := CallR.imp call_tuple_of (by
  rintro xs H Q ⟨rho, F, m, ds, A, r, h⟩
  unfold tupleD at h
  split at h
  · cases r with
    | cons r1 r2 =>
      cases r2
      obtain ⟨p, vs, rfl, hp, q1⟩ := r1.tupH A
      exact ⟨p, vs, rfl, .inr ⟨hp, h.here A r1⟩⟩
  · split at h
    · rename_i d _ xs hv
      cases r with
      | cons r1 r2 =>
        cases r2
        obtain ⟨p, vs, rfl, hp, q1⟩ := r1.viewS A hv
        exact ⟨p, vs, rfl, .inl ⟨hp, fun l nl => h.newT A q1 nl⟩⟩
    · exact h.elim
  · exact h.elim)
theorem cd_list : CallD X (.type "list") listD := CallR.imp call_list_of (by
  rintro xs H Q ⟨rho, F, m, ds, A, r, h⟩
  unfold listD at h
  split at h
  · split at h
    · rename_i d xs hv
      cases r with
      | cons r1 r2 =>
        cases r2
        obtain ⟨p, vs, rfl, hp, q1⟩ := r1.viewQ A hv
        exact ⟨p, vs, rfl, hp, fun l nl => h.newL A q1 nl⟩
    · exact h.elim
  · exact h.elim)
theorem cd_listM : CallD X (.type "list") listMD := CallR.imp call_list_of (by
  rintro xs H Q ⟨rho, F, m, ds, A, r, h⟩
  unfold listMD at h
  split at h
  · split at h
    · rename_i d xs hv
      cases r with
      | cons r1 r2 =>
        cases r2
        obtain ⟨p, vs, rfl, hp, q1⟩ := r1.viewQ A hv
        exact ⟨p, vs, rfl, hp, fun l nl => h.newLM A q1 nl⟩
    · exact h.elim
  · exact h.elim)
end
/-! ### isinstance -/
def tyD (d : D) (m : M) : Option String := match d with
  | .non => some "NoneType"
  | .bl _ => some "bool"
  | .int _ => some "int"
  | .str _ => some "str"
  | .tup _ => some "tuple"
  | .lst _ => some "list"
  | .dct _ => some "dict"
  | .ref i => match m[i]? with
    | some (.lst _) => some "list"
    | some (.dct _) => some "dict"
    | _ => none
  | _ => none
theorem ty_of {K : PySem.W.Frag} {mg : Str → Option Value} {rho : List Addr} {F H : Hp} {m : M} {x : V} {d : D} {t : String} (A : Abs K mg rho F H m) (r : Rp K mg rho F x d) (h : tyD d m = some t) : TyX K H x (.type t) := by
  unfold tyD at h
  split at h
  · cases r; cases h; exact .base .non
  · cases r; cases h; exact .base (.bl _)
  · cases r; cases h; exact .base (.int _)
  · cases r; cases h; exact .base (.str _)
  · cases h
    cases r with
    | tup hs hr =>
      rcases sqT_mono A.ex hs with (q | ⟨o, q⟩) | ⟨o, its, n, q, c, _⟩
      · exact .base (.tup q)
      · exact .fTuple q
      · exact .kTuple q c
  · cases h
    cases r with
    | lst hs hr => exact .base (.lst (A.ex _ _ hs))
  · cases h
    cases r with
    | dK hs hr => exact .base (.dK (A.ex _ _ hs))
    | dT hs hr => exact .base (.dT (A.ex _ _ hs))
  · split at h
    · rename_i hm
      cases h
      cases r with
      | ref hi => obtain ⟨_, vs, h0, _⟩ := A.own _ _ _ hi hm; exact .base (.lst h0)
    · rename_i hm
      cases h
      cases r with
      | ref hi => obtain ⟨_, ⟨vs, h0, _⟩ | ⟨vs, h0, _⟩⟩ := A.own _ _ _ hi hm; exact .base (.dK h0); exact .base (.dT h0)
    · cases h
  · cases h
/-- the built-in classes that are asked for, and what is of them -/
def isiB (t c : String) : Bool := t == c || (t == "bool" && c == "int")
end HB
namespace HB
open PySem L2

/-! ### data that tells of no owned object -/
mutual
def noref : D → Bool
  | .non => true
  | .bl _ => true
  | .int _ => true
  | .str _ => true
  | .tup ds => norefL ds
  | .lst ds => norefL ds
  | .dct kvs => norefK kvs
  | .obj _ fs => norefF fs
  | .exv _ fs => norefF fs
  | .ref _ => false
  | .scr _ => true
def norefL : List D → Bool
  | [] => true
  | d :: ds => noref d && norefL ds
def norefK : List (D × D) → Bool
  | [] => true
  | (k, d) :: ds => noref k && noref d && norefK ds
def norefF : List (Str × D) → Bool
  | [] => true
  | (_, d) :: ds => noref d && norefF ds
end
def norefM : MO → Bool
  | .lst ds => norefL ds
  | .dct kvs => norefK kvs
  | .ins _ fs => norefF fs
  | .gone => false
section
variable {K : PySem.W.Frag} {mg : Str → Option Value} {rho rho' : List Addr} {F F' H : Hp}
mutual
theorem Rp.free (e : Same F F') : ∀ {d : D} {v : V}, noref d = true → Rp K mg rho F v d → Rp K mg rho' F' v d
  | .non, _, _, r => by cases r; exact .non
  | .bl _, _, _, r => by cases r; exact .bl
  | .int _, _, _, r => by cases r; exact .int
  | .str _, _, _, r => by cases r; exact .str
  | .tup ds, _, h, r => by
    cases r with | tup hs hr => exact .tup (sqT_mono e hs) (RpL.free e (ds := ds) (by simpa [noref] using h) hr)
  | .lst ds, _, h, r => by
    cases r with | lst hs hr => exact .lst (e _ _ hs) (RpL.free e (ds := ds) (by simpa [noref] using h) hr)
  | .dct kvs, _, h, r => by
    cases r with
    | dK hs hr => exact .dK (e _ _ hs) (RpK.free e (ds := kvs) (by simpa [noref] using h) hr)
    | dT hs hr => exact .dT (e _ _ hs) (RpT.free e (ds := kvs) (by simpa [noref] using h) hr)
  | .obj c fs, _, h, r => by
    cases r with | obj hs hc hr => exact .obj (e _ _ hs) hc (RpF.free e (ds := fs) (by simpa [noref] using h) hr)
  | .exv c fs, _, h, r => by
    cases r with
    | xv0 hs hc => exact .xv0 (e _ _ hs) hc
    | xv hs hc hd hr => exact .xv (e _ _ hs) hc (e _ _ hd) (RpF.free e (ds := fs) (by simpa [noref] using h) hr)
  | .ref _, _, h, _ => by simp [noref] at h
  | .scr _, _, _, r => by cases r with | scr hs => exact .scr (e.seq hs)
theorem RpL.free (e : Same F F') : ∀ {ds : List D} {vs : List V}, norefL ds = true → RpL K mg rho F vs ds → RpL K mg rho' F' vs ds
  | [], _, _, r => by cases r; exact .nil
  | d :: ds, _, h, r => by
    simp only [norefL, Bool.and_eq_true] at h
    cases r with | cons r1 r2 => exact .cons (Rp.free e h.1 r1) (RpL.free e h.2 r2)
theorem RpK.free (e : Same F F') : ∀ {ds : List (D × D)} {vs : List (Key × V)}, norefK ds = true → RpK K mg rho F vs ds → RpK K mg rho' F' vs ds
  | [], _, _, r => by cases r; exact .nil
  | (k, d) :: ds, _, h, r => by
    simp only [norefK, Bool.and_eq_true] at h
    cases r with | cons r1 r2 => exact .cons (Rp.free e h.1.2 r1) (RpK.free e h.2 r2)
theorem RpT.free (e : Same F F') : ∀ {ds : List (D × D)} {vs : List (List Key × V)}, norefK ds = true → RpT K mg rho F vs ds → RpT K mg rho' F' vs ds
  | [], _, _, r => by cases r; exact .nil
  | (k, d) :: ds, _, h, r => by
    simp only [norefK, Bool.and_eq_true] at h
    cases r with | cons r1 r2 => exact .cons (Rp.free e h.1.2 r1) (RpT.free e h.2 r2)
theorem RpF.free (e : Same F F') : ∀ {ds : List (Str × D)} {vs : List (Str × V)}, norefF ds = true → RpF K mg rho F vs ds → RpF K mg rho' F' vs ds
  | [], _, _, r => by cases r; exact .nil
  | (k, d) :: ds, _, h, r => by
    simp only [norefF, Bool.and_eq_true] at h
    cases r with | cons r1 r2 => exact .cons (Rp.free e h.1 r1) (RpF.free e h.2 r2)
end
theorem RpM.free {H' : Hp} {a : Addr} {x : MO} (h : RpM K mg rho F H a x) (n : norefM x = true) (e : Same F F') (hf : F' a = F a) (hh : ∀ o, H a = some o → H' a = some o) : RpM K mg rho' F' H' a x := by
  cases x with
  | gone => trivial
  | lst ds =>
    obtain ⟨f0, vs, h0, r⟩ := h
    exact ⟨hf.trans f0, vs, hh _ h0, r.free e n⟩
  | dct kvs =>
    obtain ⟨f0, q⟩ := h
    rcases q with ⟨ks, h0, r⟩ | ⟨ks, h0, r⟩
    · exact ⟨hf.trans f0, .inl ⟨ks, hh _ h0, r.free e n⟩⟩
    · exact ⟨hf.trans f0, .inr ⟨ks, hh _ h0, r.free e n⟩⟩
  | ins c gs =>
    obtain ⟨f0, C, dx, fs, h0, hc, r⟩ := h
    exact ⟨hf.trans f0, C, dx, fs, hh _ h0, hc, r.free e n⟩
end

/-! ### calling a def: only the owned objects that are handed over go with it -/
abbrev Sem := List D → M → R D
/-- the owned objects among the arguments, in order -/
def refsOf : List D → List Nat
  | [] => []
  | .ref i :: ds => i :: refsOf ds
  | _ :: ds => refsOf ds
/-- the arguments as the callee sees them, from its k-th owned object on -/
def seen (k : Nat) : List D → List D
  | [] => []
  | .ref _ :: ds => .ref k :: seen (k + 1) ds
  | d :: ds => d :: seen k ds
def isRef : D → Bool
  | .ref _ => true
  | _ => false
/-- what is handed over -/
def hand (m : M) : List Nat → Option M
  | [] => some []
  | i :: is => match m[i]?, hand m is with
    | some o, some r => if norefM o then some (o :: r) else none
    | _, _ => none
/-- what comes back -/
def back (m : M) : List Nat → M → Option M
  | [], _ => some m
  | i :: is, o :: r => if norefM o then (back m is r).map (·.set i o) else none
  | _ :: _, [] => none
def nodupB : List Nat → Bool
  | [] => true
  | a :: r => !r.contains a && nodupB r
def callD (sem : Sem) (ds : List D) (m : M) : R D :=
  if ds.all (fun d => isRef d || noref d) && nodupB (refsOf ds) then
    match hand m (refsOf ds) with
    | some mc => match sem (seen 0 ds) mc with
      | .ok d m2 => match back m (refsOf ds) m2 with
        | some m' => match d with
          | .ref j => match (refsOf ds)[j]? with
            | some i => .ok (.ref i) m'
            | none => match m2[j]? with
              | some o => if norefM o then .ok (.ref m'.length) (m' ++ [o]) else .no
              | none => .no
          | d => if noref d then .ok d m' else .no
        | none => .no
      | .ex c m2 => match back m (refsOf ds) m2 with
        | some m' => if norefF c.fs then .ex c m' else .no
        | none => .no
      | .no => .no
    | none => .no
  else .no
section
variable {K : PySem.W.Frag} {mg : Str → Option Value} {rho rho' : List Addr} {F F' H H' : Hp} {m m2 m' mc : M}
theorem nodup_of : ∀ {is : List Nat}, nodupB is = true → is.Nodup
  | [], _ => .nil
  | a :: r, h => by
    simp only [nodupB, Bool.and_eq_true, Bool.not_eq_true', List.contains_eq_mem, decide_eq_false_iff_not] at h
    exact List.nodup_cons.mpr ⟨h.1, nodup_of h.2⟩
theorem hand_spec : ∀ {is : List Nat} {mc : M}, hand m is = some mc → mc.length = is.length ∧ ∀ (k i : Nat), is[k]? = some i → ∃ o, m[i]? = some o ∧ mc[k]? = some o ∧ norefM o = true
  | [], _, h => by cases h; exact ⟨rfl, fun k i e => by simp at e⟩
  | i :: is, mc, h => by
    simp only [hand] at h
    split at h
    · rename_i o r h1 h2
      split at h
      · rename_i hn
        cases h
        obtain ⟨l, f⟩ := hand_spec h2
        refine ⟨by simp [l], fun k j e => ?_⟩
        cases k with
        | zero => simp at e; subst e; exact ⟨o, h1, rfl, hn⟩
        | succ k => exact f k j (by simpa using e)
      · cases h
    · cases h
theorem back_spec : ∀ {is : List Nat} {m2 m' : M}, back m is m2 = some m' → is.Nodup → m'.length = m.length ∧ (∀ (i : Nat), i ∉ is → m'[i]? = m[i]?) ∧ ∀ (k i : Nat), is[k]? = some i → i < m.length → ∃ o, m2[k]? = some o ∧ m'[i]? = some o ∧ norefM o = true
  | [], _, _, h, _ => by cases h; exact ⟨rfl, fun _ _ => rfl, fun k i e => by simp at e⟩
  | i :: is, o :: r, m', h, nd => by
    simp only [back] at h
    split at h
    · rename_i hn
      simp only [Option.map_eq_some_iff] at h
      obtain ⟨m1, h1, rfl⟩ := h
      obtain ⟨n1, n2⟩ := List.nodup_cons.mp nd
      obtain ⟨l, f, g⟩ := back_spec h1 n2
      refine ⟨by simp [l], fun j hj => ?_, fun k j e hl => ?_⟩
      · rw [List.getElem?_set_ne (fun e => hj (by rw [e]; exact List.mem_cons_self))]
        exact f j fun z => hj (List.mem_cons_of_mem _ z)
      · cases k with
        | zero =>
          simp at e; subst e
          exact ⟨o, rfl, List.getElem?_set_self (by rw [l]; exact hl), hn⟩
        | succ k =>
          have e' : is[k]? = some j := by simpa using e
          obtain ⟨o', a1, a2, a3⟩ := g k j e' hl
          refine ⟨o', by simpa using a1, ?_, a3⟩
          rw [List.getElem?_set_ne (fun z => n1 (by rw [z]; exact List.mem_of_getElem? e'))]
          exact a2
    · cases h
  | _ :: _, [], _, h, _ => by simp [back] at h
/-- the addresses that are handed over -/
def handR (rho : List Addr) (is : List Nat) : List Addr := is.map fun i => rho.getD i 0
theorem handR_get {is : List Nat} {k i : Nat} {a : Addr} (e : is[k]? = some i) (h : rho[i]? = some a) : (handR rho is)[k]? = some a := by
  unfold handR
  rw [List.getElem?_map, e]
  simp [List.getD, h]
theorem Abs.hand {is : List Nat} (A : Abs K mg rho F H m) (h : hand m is = some mc) (nd : is.Nodup) : Abs K mg (handR rho is) F H mc := by
  obtain ⟨l, f⟩ := hand_spec h
  have at_ : ∀ (k i : Nat), is[k]? = some i → ∃ a, rho[i]? = some a ∧ (handR rho is)[k]? = some a := fun k i e => by
    obtain ⟨o, h1, _⟩ := f k i e
    have hl : i < rho.length := by rw [A.len]; exact (List.getElem?_eq_some_iff.mp h1).1
    exact ⟨rho[i], by simp [hl], handR_get e (by simp [hl])⟩
  have of : ∀ (k : Nat) a, (handR rho is)[k]? = some a → ∃ i, is[k]? = some i ∧ rho[i]? = some a := fun k a e => by
    have hk : k < is.length := by have := (List.getElem?_eq_some_iff.mp e).1; simpa [handR] using this
    have e1 : is[k]? = some is[k] := by simp [hk]
    obtain ⟨b, q1, q2⟩ := at_ k _ e1
    rw [e] at q2; cases q2
    exact ⟨_, e1, q1⟩
  refine ⟨A.ex, by simp [handR, l], ?_, fun k a o e1 e2 => ?_, fun a ha => ?_⟩
  · refine List.pairwise_iff_getElem.mpr fun i j hi hj hij hne => ?_
    have hj' : j < is.length := by simpa [handR] using hj
    have hi' : i < is.length := Nat.lt_trans hij hj'
    obtain ⟨a, q1, q2⟩ := at_ i _ (show is[i]? = some is[i] by simp [hi'])
    obtain ⟨b, p1, p2⟩ := at_ j _ (show is[j]? = some is[j] by simp [hj'])
    have q3 := (List.getElem?_eq_some_iff.mp q2).2
    have p3 := (List.getElem?_eq_some_iff.mp p2).2
    rw [q3, p3] at hne
    subst hne
    have h1 := List.getElem?_eq_some_iff.mp q1
    have h2 := List.getElem?_eq_some_iff.mp p1
    have e3 : is[i] = is[j] := (List.getElem_inj A.nd).mp (h1.2.trans h2.2.symm)
    have := (List.getElem_inj nd).mp e3
    omega
  · obtain ⟨i, q1, q2⟩ := of k a e1
    obtain ⟨o', h1, h2, h3⟩ := f k i q1
    rw [e2] at h2; cases h2
    exact (A.own i a o q2 h1).free h3 (Same.refl F) rfl fun _ z => z
  · obtain ⟨k, hk⟩ := List.mem_iff_getElem?.mp ha
    obtain ⟨i, _, q2⟩ := of k a hk
    exact A.all a (List.mem_of_getElem? q2)
theorem RpL.seen (e : Same F F') : ∀ {ds : List D} {vs : List V} {k : Nat}, (ds.all fun d => isRef d || noref d) = true → (∀ (j i : Nat) a, (refsOf ds)[j]? = some i → rho[i]? = some a → rho'[k + j]? = some a) → RpL K mg rho F vs ds → RpL K mg rho' F' vs (seen k ds)
  | [], _, _, _, _, r => by cases r; exact .nil
  | .ref i :: ds, _, k, h, f, r => by
    simp only [List.all_cons, Bool.and_eq_true] at h
    cases r with
    | cons r1 r2 =>
      cases r1 with
      | ref hi =>
        refine .cons (.ref (by have := f 0 i _ (by simp [refsOf]) hi; simpa using this)) (RpL.seen e h.2 (fun j i' a q1 q2 => ?_) r2)
        have := f (j + 1) i' a (by simp only [refsOf]; simpa using q1) q2
        rw [show k + 1 + j = k + (j + 1) by omega]
        exact this
  | .non :: ds, _, k, h, f, r => by simp only [List.all_cons, Bool.and_eq_true] at h; cases r with | cons r1 r2 => exact .cons (r1.free e h.1) (RpL.seen e h.2 f r2)
  | .bl _ :: ds, _, k, h, f, r => by simp only [List.all_cons, Bool.and_eq_true] at h; cases r with | cons r1 r2 => exact .cons (r1.free e h.1) (RpL.seen e h.2 f r2)
  | .int _ :: ds, _, k, h, f, r => by simp only [List.all_cons, Bool.and_eq_true] at h; cases r with | cons r1 r2 => exact .cons (r1.free e h.1) (RpL.seen e h.2 f r2)
  | .str _ :: ds, _, k, h, f, r => by simp only [List.all_cons, Bool.and_eq_true] at h; cases r with | cons r1 r2 => exact .cons (r1.free e h.1) (RpL.seen e h.2 f r2)
  | .tup _ :: ds, _, k, h, f, r => by simp only [List.all_cons, Bool.and_eq_true] at h; cases r with | cons r1 r2 => exact .cons (r1.free e (by simpa [isRef] using h.1)) (RpL.seen e h.2 f r2)
  | .lst _ :: ds, _, k, h, f, r => by simp only [List.all_cons, Bool.and_eq_true] at h; cases r with | cons r1 r2 => exact .cons (r1.free e (by simpa [isRef] using h.1)) (RpL.seen e h.2 f r2)
  | .dct _ :: ds, _, k, h, f, r => by simp only [List.all_cons, Bool.and_eq_true] at h; cases r with | cons r1 r2 => exact .cons (r1.free e (by simpa [isRef] using h.1)) (RpL.seen e h.2 f r2)
  | .obj _ _ :: ds, _, k, h, f, r => by simp only [List.all_cons, Bool.and_eq_true] at h; cases r with | cons r1 r2 => exact .cons (r1.free e (by simpa [isRef] using h.1)) (RpL.seen e h.2 f r2)
  | .exv _ _ :: ds, _, k, h, f, r => by simp only [List.all_cons, Bool.and_eq_true] at h; cases r with | cons r1 r2 => exact .cons (r1.free e (by simpa [isRef] using h.1)) (RpL.seen e h.2 f r2)
  | .scr _ :: ds, _, k, h, f, r => by simp only [List.all_cons, Bool.and_eq_true] at h; cases r with | cons r1 r2 => exact .cons (r1.free e h.1) (RpL.seen e h.2 f r2)
/-- the caller's state behind the call -/
theorem Abs.back {is : List Nat} (A : Abs K mg rho F H m) (h : HB.hand m is = some mc) (nd : is.Nodup) (st : Step (handR rho is) F H rho' F' H') (A2 : Abs K mg rho' F' H' m2) (hb : back m is m2 = some m') :
    Step rho F H rho F' H' ∧ Abs K mg rho F' H' m' := by
  obtain ⟨l, f⟩ := hand_spec h
  obtain ⟨l2, g1, g2⟩ := back_spec hb nd
  have inr : ∀ (k i : Nat), is[k]? = some i → ∃ a, rho[i]? = some a ∧ (handR rho is)[k]? = some a := fun k i e => by
    obtain ⟨o, h1, _⟩ := f k i e
    have hl : i < rho.length := by rw [A.len]; exact (List.getElem?_eq_some_iff.mp h1).1
    exact ⟨rho[i], by simp [hl], handR_get e (by simp [hl])⟩
  have sub : ∀ a, a ∈ handR rho is → ∃ (k i : Nat), is[k]? = some i ∧ rho[i]? = some a := fun a ha => by
    obtain ⟨k, hk⟩ := List.mem_iff_getElem?.mp ha
    have hk' : k < is.length := by have := (List.getElem?_eq_some_iff.mp hk).1; simpa [handR] using this
    obtain ⟨b, q1, q2⟩ := inr k _ (show is[k]? = some is[k] by simp [hk'])
    rw [hk] at q2; cases q2
    exact ⟨k, _, by simp [hk'], q1⟩
  have s2 : Step rho F H rho F' H' := ⟨⟨[], by simp, by simp⟩, st.ex, st.dom, fun a o ha hn => st.old a o ha fun z => by
    obtain ⟨k, i, _, q⟩ := sub a z
    exact hn (List.mem_of_getElem? q)⟩
  refine ⟨s2, ⟨A2.ex, by rw [l2]; exact A.len, A.nd, fun i a o hi ho => ?_, fun a ha => let ⟨u, hu⟩ := A.all a ha; st.dom a u hu⟩⟩
  by_cases hm : i ∈ is
  · obtain ⟨k, hk⟩ := List.mem_iff_getElem?.mp hm
    have hl : i < m.length := by rw [← A.len]; exact (List.getElem?_eq_some_iff.mp hi).1
    obtain ⟨o', q1, q2, q3⟩ := g2 k i hk hl
    rw [ho] at q2; cases q2
    obtain ⟨b, p1, p2⟩ := inr k i hk
    rw [hi] at p1; cases p1
    exact (A2.own k a o (st.ix p2) q1).free q3 (Same.refl F') rfl fun _ z => z
  · rw [g1 i hm] at ho
    obtain ⟨u, hu⟩ := A.all a (List.mem_of_getElem? hi)
    have na : a ∉ handR rho is := fun z => by
      obtain ⟨k, j, q1, q2⟩ := sub a z
      have h1 := List.getElem?_eq_some_iff.mp hi
      have h2 := List.getElem?_eq_some_iff.mp q2
      have := (List.getElem_inj A.nd).mp (h1.2.trans h2.2.symm)
      exact hm (by rw [this]; exact List.mem_of_getElem? q1)
    obtain ⟨h1, h2⟩ := st.old a u hu na
    exact (A.own i a o hi ho).mono s2.onto h2 fun v hv => by rw [hu] at hv; cases hv; exact h1
theorem RpX.free {c : Exc} {cls : Value} {d : Option Addr} (e : Same F F') (h : norefF c.fs = true) (r : RpX K mg rho F c cls d) : RpX K mg rho' F' c cls d := by
  cases r with
  | bare g => exact .bare g
  | own g hd hr => exact .own g (e _ _ hd) (hr.free e h)
end
/-- a def's promise, by data -/
def spD (K : PySem.W.Frag) (mg : Str → Option Value) (np : Nat) (sem : Sem) : Sp := fun vs H Q E => vs.length = np ∧ ∃ rho F ds m, Abs K mg rho F H m ∧ RpL K mg rho F vs ds ∧
  RdE K mg (fun cls dx _ H' => E cls dx H') [] (relD K mg) rho F H Q (sem ds m)
/-- a call, by data -/
theorem call_data {K : PySem.W.Frag} {mg : Str → Option Value} {rho : List Addr} {F H : Hp} {m : M} {W : WX} {σ : L2.St} {Q : VK} {np : Nat} {sem : Sem} {ds : List D} {vs : List V} (A : Abs K mg rho F H m) (r : RpL K mg rho F vs ds) (hn : ds.length = np)
    (h : RdE K mg W σ (relD K mg) rho F H Q (callD sem ds m)) : spD K mg np sem vs H Q (fun cls dx H' => W cls dx σ H') := by
  unfold callD at h
  split at h
  · rename_i hc
    simp only [Bool.and_eq_true] at hc
    obtain ⟨hc, hnd⟩ := hc
    have nd := nodup_of hnd
    split at h
    · rename_i mc hmc
      refine ⟨by rw [r.length]; exact hn, handR rho (refsOf ds), F, seen 0 ds, mc, A.hand hmc nd, RpL.seen (Same.refl F) hc (fun j i a q1 q2 => by rw [Nat.zero_add]; exact handR_get q1 q2) r, ?_⟩
      cases hs : sem (seen 0 ds) mc with
      | no => rw [hs] at h; exact h
      | ok d m2 =>
        rw [hs] at h
        simp only at h
        intro v rho' F' H' st A2 rv
        split at h
        · rename_i m' hb
          obtain ⟨s2, A3⟩ := A.back hmc nd st A2 hb
          cases d with
          | ref j =>
            simp only at h
            cases rv with
            | ref hj =>
              rename_i a
              split at h
              · rename_i i hi
                refine h _ _ _ _ s2 A3 (.ref ?_)
                obtain ⟨o, h1, _⟩ := (hand_spec hmc).2 j i hi
                have hl : i < rho.length := by rw [A.len]; exact (List.getElem?_eq_some_iff.mp h1).1
                have q := st.ix (handR_get hi (show rho[i]? = some rho[i] by simp [hl]))
                rw [hj] at q
                rw [q]
                simp [hl]
              · rename_i hi
                split at h
                · rename_i o ho
                  split at h
                  · rename_i hno
                    obtain ⟨r1, e1, e2⟩ := st.pre
                    have na : H a = none := by
                      refine e2 a ?_
                      rw [e1, List.getElem?_append_right (by have := List.getElem?_eq_none_iff.mp hi; simpa [handR] using this)] at hj
                      exact List.mem_of_getElem? hj
                    have nr : a ∉ rho := A.notmem na
                    obtain ⟨u, hu⟩ := A2.all a (List.mem_of_getElem? hj)
                    have s3 : Step rho F H (rho ++ [a]) F' H' := ⟨⟨[a], rfl, fun b hb => by rw [List.mem_singleton.mp hb]; exact na⟩, s2.ex, s2.dom, s2.old⟩
                    refine h _ _ _ _ s3 ⟨A3.ex, by simp [A3.len], ?_, fun i b x hb hx => ?_, fun b hb => ?_⟩ (.ref ?_)
                    · rw [List.nodup_append]
                      refine ⟨A3.nd, by simp, fun b hb c hc => ?_⟩
                      rw [List.mem_singleton.mp hc]
                      intro e; subst e; exact nr hb
                    · by_cases hl : i < rho.length
                      · rw [List.getElem?_append_left hl] at hb
                        rw [List.getElem?_append_left (by rw [← A3.len]; exact hl)] at hx
                        exact (A3.own i b x hb hx).mono ⟨fun h => by rw [List.getElem?_append_left (List.getElem?_eq_some_iff.mp h).1]; exact h, Same.refl F'⟩ rfl fun _ z => z
                      · have hl' : i = rho.length := by
                          have := (List.getElem?_eq_some_iff.mp hb).1
                          simp at this; omega
                        subst hl'
                        rw [List.getElem?_append_right (Nat.le_refl _)] at hb
                        rw [A3.len, List.getElem?_append_right (Nat.le_refl _)] at hx
                        simp at hb hx
                        subst hb; subst hx
                        exact (A2.own j _ _ hj ho).free hno (Same.refl F') rfl fun _ z => z
                    · rcases List.mem_append.mp hb with z | z
                      · exact A3.all b z
                      · rw [List.mem_singleton.mp z]; exact ⟨u, hu⟩
                    · rw [← A3.len, List.getElem?_append_right (Nat.le_refl _)]
                      simp
                  · exact h.elim
                · exact h.elim
          | _ =>
            simp only at h
            split at h
            · rename_i hr
              exact h v _ _ _ s2 A3 (rv.free (Same.refl F') hr)
            · exact h.elim
        · exact h.elim
      | ex c m2 =>
        rw [hs] at h
        simp only at h
        intro cls dx rho' F' H' st A2 rx
        split at h
        · rename_i m' hb
          obtain ⟨s2, A3⟩ := A.back hmc nd st A2 hb
          split at h
          · rename_i hr
            exact h cls dx _ _ _ s2 A3 (rx.free (Same.refl F') hr)
          · exact h.elim
        · exact h.elim
    · exact h.elim
  · exact h.elim
end HB
namespace HB
open PySem L2 PySem.Spec PyProof.Rows

/-! ### a def keeps a promise, where no repr is under way -/
def FnG (P : Program) (w : World) (K : PySem.W.Frag) (mg : Str → Option Value) (base : Heap) (k : Nat) (f : Addr) (fd : FuncData) (ps : List Str) (sp : Sp) : Prop :=
  ∀ (B : Around) (fr : List PySem.Env) (s : Shared) (H : Hp) (ag : Args) (us : List Value) (vs : List V) (Q : VK) (E : XK), Room k B → B.guards = some [] →
    Env0 P w K mg base B fr s H → BindsTo s fd ag (ps.zip us) → Vals vs us → vs.length = ps.length → sp vs H Q E → codeAny (model P w) B (.call (.ref f) ag) (CR (L2.CX P w) fr P w H s Q E) s
theorem FnG.mono {P : Program} {w : World} {K : PySem.W.Frag} {mg : Str → Option Value} {base : Heap} {j k : Nat} {f : Addr} {fd : FuncData} {ps : List Str} {sp : Sp} (G : FnG P w K mg base j f fd ps sp) (h : j ≤ k) : FnG P w K mg base k f fd ps sp :=
  fun B fr s H ag us vs Q E hr => G B fr s H ag us vs Q E (hr.mono h)
theorem deeper_guards (B : Around) (e : PySem.Env) : (B.deeper e).guards = B.guards := rfl
theorem in1_guards (B : Around) : B.in1.guards = B.guards := rfl
theorem under_guards (B : Around) (C : Addr) (us : List Value) (kw : List (Str × Value)) : (B.under (.builtin "type.__call__" ⟨.ref C :: us, kw⟩)).guards = B.guards := by
  first | rfl | simp [Around.under, Code.isGuard, guardIds]
/-- a def of the text, by its body -/
theorem fnG_of {P : Program} {w : World} {K : PySem.W.Frag} {mg : Str → Option Value} {base : Heap} {x qual : Str} {st : Stmt} {f : Addr} {fd : FuncData} {N ps : List Str} {k : Nat} {sp : Sp} (Fn : Fun K x qual st f fd) (S : FnScope N ps (defScope st))
    (hb : ∀ (cdv : Value) (B : Around) (fr : List PySem.Env) (s : Shared) (H : Hp) (vs : List V) (Q : VK) (E : XK), Room k (B.deeper (envOfC qual (defScope st) s.heap.objs.size f cdv)) → B.guards = some [] → vs.length = ps.length → sp vs H Q E →
      ∃ t, PSs (cxOf (L2.CX P w) P w K mg base N qual (defScope st) f cdv B fr s H E) (defBody st) t ∧ t { nx := fun _ H' => Q .non H', rt := Q } (L2.start N vs) H) : FnG P w K mg base (k + 1) f fd ps sp := by
  obtain ⟨oc, od, kV, doc, pm, an, cdv, ct, osl, rfl, lk, hcd⟩ := Fn.ex
  intro B fr s H ag us vs Q E room gd env0 bnd rel hl want
  have stay : ∀ b o, base.get? b = some o → s.heap.get? b = some o := fun b o e => (env0.bs b o e).1
  have kin : K.In s.heap := env0.mod.kin.keeps stay
  have kinds : ∀ y ∈ ps.zip us, (defScope st).names.lookup y.1 = some .local ∨
      ((defScope st).names.lookup y.1 = some .cell ∧ ((cellsFrom (s.heap.objs.size + 1) (defScope st).names []).lookup y.1).isSome = true) := by
    rintro ⟨n, v⟩ hy
    have q := S.par n (List.of_mem_zip hy).1
    rcases q with q | q
    · left; exact q
    · right; exact ⟨q, PySem.W.cellsFrom_some _ _ _ (.inl q)⟩
  apply codeAny_call_function room.depth (kin _ _ lk) rfl S.co S.gen rfl
  · exact PySem.W.codeRec_of kin hcd
  · refine bnd _ _ _ _ (wpAny_newFunctionEnv_cells S.kind kinds ?_)
    intro env he s1 ic
    subst he
    constructor
    · exact (env0.mod.nolimit.keeps stay).keeps ic.toInCall.keep
    · apply codeAny_func
      obtain ⟨t, ht, hq⟩ := hb cdv B fr s H vs Q E (room.deeper _) gd hl want
      have J := inv_start (CX := L2.CX P w) (E := E) S room.hd env0 hl rel ic
      refine wpAny_mono (ht.run [] s1 _ H _ J hq) ?_ ?_
      · intro fl s2 hs
        cases fl
        · obtain ⟨σ2, H2, J2, q⟩ := hs
          exact ⟨V.non, H2, J2.os, J2.bare, J2.base, J2.hok, rfl, q⟩
        · obtain ⟨_, _, _, q⟩ := hs
          exact q.elim
        · obtain ⟨_, _, _, q⟩ := hs
          exact q.elim
        · obtain ⟨v, σ2, H2, J2, rv, q⟩ := hs
          exact ⟨v, H2, J2.os, J2.bare, J2.base, J2.hok, rv, q⟩
      · intro e s2 hs
        exact hs
/-! ### calls -/
section
variable {X : Cx} {k : Nat} {f : Addr} {fd : FuncData} {ps : List Str} {sp : Sp} {W : WX} {x : Str} {p pos : Pos}
theorem runG {pins : List (Addr × Obj)} {σ : L2.St} {H : Hp} {s : Shared} {Q : VK} {us : List Value} {vs : List V} {dvs : List V} {ds : List Value} (G : FnG X.prog X.w X.K X.mg X.base k f fd ps sp) (hr : Room k X.A) (hg : X.A.guards = some []) (hb : Binds X.K fd ps ds) (hd : Vals dvs ds) (tk : Takes X W)
    (I : Inv X pins σ H s) (r : Vals vs us) (hl : (vs ++ dvs).length = ps.length) (h : sp (vs ++ dvs) H Q (fun cls d H' => W cls d σ H')) : wpAny (model X.prog X.w) X.A (call (.ref f) us) (EP X pins σ Q) X.xe s := by
  have r2 : Vals (vs ++ dvs) (us ++ ds) := r.append hd
  have go := G X.A X.stack s H ⟨us, []⟩ (us ++ ds) (vs ++ dvs) Q _ hr hg I.env0 (hb s us I.kIn (r2.length ▸ hl)) r2 hl h
  refine wpAny_call (codeAny_mono go ?_)
  rintro (e | fl) s2 hq
  · exact tk e s2 (XE.of_call I (fun cls d H' z => z) hq)
  · cases fl
    case ret u => exact I.after hq
    all_goals exact hq.elim
/-- f(e, ..) -/
theorem peG {e : Expr} {es : List Expr} {t : TA} {dvs : List V} {ds : List Value} (G : FnG X.prog X.w X.K X.mg X.base k f fd ps sp) (hr : Room k X.A) (hgd : X.A.guards = some []) (hg : Gl X x) (hm : X.mg x = some (.ref f)) (hk : PySem.W.keepIn X.K (.ref f) = true) (hb : Binds X.K fd ps ds) (hd : Vals dvs ds) (tk : Takes X W)
    (ha : PA X (e :: es) t) (hdb : (x == ("__debug__" : Str)) = false) (he : starEach (e :: es) X.env = (false, eval e X.env) :: starEach es X.env) (hpl : (backTo pos (starEach es X.env)).any (·.1) = false) :
    PE X (.Call (.Name x p) (e :: es) [] pos) (fun σ H Q => t σ H fun vs H1 => (vs ++ dvs).length = ps.length ∧ sp (vs ++ dvs) H1 Q (fun cls d H' => W cls d σ H')) := by
  constructor
  intro pins s σ H Q I h
  apply wpAny_Call_Name_kw
  refine ld_glob I hg hm ?_ hdb
  refine PySem.W.callWith_K (h₀ := X.base) I.ok.mod.kin hk ?_ he hpl
  refine thn (ha.run pos pins s σ H _ I h) ?_
  rintro us s1 ⟨vs, H1, I1, rv, hl, q⟩
  exact ⟨I1.kIn, runG G hr hgd hb hd tk I1 rv hl q⟩
/-- f() -/
theorem peG0 {dvs : List V} {ds : List Value} (G : FnG X.prog X.w X.K X.mg X.base k f fd ps sp) (hr : Room k X.A) (hgd : X.A.guards = some []) (hg : Gl X x) (hm : X.mg x = some (.ref f)) (hk : PySem.W.keepIn X.K (.ref f) = true) (hb : Binds X.K fd ps ds) (hd : Vals dvs ds) (tk : Takes X W)
    (hdb : (x == ("__debug__" : Str)) = false) : PE X (.Call (.Name x p) [] [] pos) (fun σ H Q => dvs.length = ps.length ∧ sp dvs H Q (fun cls d H' => W cls d σ H')) := by
  constructor
  intro pins s σ H Q I h
  apply wpAny_Call_Name_kw
  refine ld_glob I hg hm ?_ hdb
  exact PySem.W.callWith_K0 I.kIn hk (runG (us := []) (vs := []) G hr hgd hb hd tk I .nil h.1 h.2)
end
end HB
namespace PySem
namespace HBX
open PySem.W PySem.Calls PyProof.Rows PySem.HandSPX
/-! ### an own error made, whose __new__ is that of a base further up (KeyError has LookupError's) -/
/-- what is asked of the __new__ : its owner O -/
structure NewF (O newId : String) : Prop where
  base : ∃ initO bmO, ExcBaseFacts O newId initO bmO
/-- what the class's row must tell -/
structure RowF (O : String) (bm : List Value) : Prop where
  o : bm.contains (.type O) = true
  a : bm.contains (.type "AttributeError") = false
  n : bm.contains (.type "NameError") = false
section
variable {prog : Program} {w : World} {A : Around} {E : Value → Shared → Prop} {R : Result → Shared → Prop} {h : Heap} {g : Array GenState} {d : Drawn} {t : Nat} {os : OsState}
variable {nm q : Str} {C N : Addr} {bs bm : List Value} {hdct : Bool} {sn : List Str} {sub : List Value} {ab : Bool} {col : Option Bool} {dd : Option Addr} {k0 k1 k2 k3 k5 : Option Value} {O newId : String}
theorem new_check {M : Model} (F : NewF O newId) (T : RowF O bm) {rest : List Value} {Q : Unit → Shared → Prop} (hC : h.get? C = some (excClassObj nm q C N bs bm hdct sn sub ab col dd k0 k1 k2 k3 k5 newId)) (hq : Q () ⟨h, g, d, t, os⟩) :
    wpAny M A (checkBuiltinCall newId ⟨.ref C :: rest, []⟩) Q E ⟨h, g, d, t, os⟩ := by
  obtain ⟨initO, bmO, F⟩ := F.base
  have c1 : (Value.ref C :: bm).contains (.type O) = true := by
    rw [List.contains_cons, T.o, Bool.or_true]
  have c2 := F.noStar
  simp only [checkBuiltinCall, F.newKind, F.newSplit, F.newRow]
  repeat (first | refine wpAny_loadPart_at hC ?_ | (refine wpAny_isSubtype_exc hC ?_; rw [c1]) | refine wpAny_staticBase_exc hC ?_ | refine wpAny_madeBy_exc hC ?_ | (simp only [bne_self_eq_false, Bool.false_eq_true, if_false]) | wp_step)
  exact hq
theorem new_made (F : NewF O newId) (T : RowF O bm) {rest : List Value} (hC : h.get? C = some (excClassObj nm q C N bs bm hdct sn sub ab col dd k0 k1 k2 k3 k5 newId))
    (hq : R (.ok (.ret (.ref (h.objs.size + 1)))) ⟨(h.push (W.kdv_tup rest)).push (excO C h.objs.size), g, d, t, os⟩) (hr : rest.length ≤ sizeLine) : codeAny (model prog w) A (.builtin newId ⟨.ref C :: rest, []⟩) R ⟨h, g, d, t, os⟩ := by
  obtain ⟨initO, bmO, F⟩ := F.base
  have z0 := F.ends
  have z1 : (Value.ref C :: bm).contains (.type O) = true := by rw [List.contains_cons, T.o, Bool.or_true]
  have z2 : (Value.ref C :: bm).contains (.type "AttributeError") = false := by rw [List.contains_cons, T.a] <;> rfl
  have z3 : (Value.ref C :: bm).contains (.type "NameError") = false := by rw [List.contains_cons, T.n] <;> rfl
  refine codeAny_builtinAt F.entry ?_
  unfold Builtin.«BaseException.__new__»
  refine wpAt_bind ?_
  show wpAt _ _ _ (stack >>= _) _ _ _
  refine wpAt_bind (wpAt_stack fun fr below => wpAt_of_wpAny ?_)
  wp_walk
  refine wpAt_of_wpAny ?_
  rw [F.owner]
  repeat (first | (with_reducible refine wpAny_madeHere_exc F.canon hC ?_) | (with_reducible refine wpAny_loadPart_at hC ?_) | (with_reducible refine wpAny_isSubtype_exc hC ?_; first | rw [z1] | rw [z2] | rw [z3]) | wp_step)
  show R _ _
  rw [Heap.size_push]
  exact hq
theorem type_made (F : NewF O newId) (T : RowF O bm) {rest : List Value} {fI : Addr} {Q : Fin → Shared → Prop} (hC : h.get? C = some (excClassObj nm q C N bs bm hdct sn sub ab col dd k0 k1 k2 k3 k5 newId)) (hi : W.Looks (model prog w) h (typeLookup (.ref C) "__init__") (some (.ref fI))) (hb : ∀ self, W.Looks (model prog w) h (bindSpecial (.ref fI) self) (.ref fI, [self])) (hr : rest.length ≤ sizeLine)
    (hq : codeAny (model prog w) A (.call (.ref fI) ⟨.ref (h.objs.size + 1) :: rest, []⟩) (fun r s' => match r with | .ok (.ret v) => v = .none ∧ Q (.done (.ret (.ref (h.objs.size + 1)))) s' | .ok _ => False | .error e => E e s') ⟨(h.push (W.kdv_tup rest)).push (excO C h.objs.size), g, d, t, os⟩) :
    wpAny (model prog w) A (Builtin.«type.__call__» ⟨.ref C :: rest, []⟩) Q E ⟨h, g, d, t, os⟩ := by
  have qt : newId.startsWith "lifetime." = false := by
    obtain ⟨_, _, F⟩ := F.base
    exact F.quiet
  repeat (first | (with_reducible refine wpAny_loadPart_at hC ?_) | (with_reducible refine wpAny_madeBy_exc hC ?_) | wp_step)
  refine codeAny_call_builtin_code (Code.quiet_builtin _ qt) (new_check F T hC ?_)
  refine new_made F T hC ?_ hr
  show wpAny _ _ _ _ _ _
  have up : ∀ b o, h.get? b = some o → ((h.push (W.kdv_tup rest)).push (excO C h.objs.size)).get? b = some o := by
    intro b o e
    exact Heap.get?_push_of_some _ (Heap.get?_push_of_some _ e)
  have c1 := up _ _ hC
  have c2 : ((h.push (W.kdv_tup rest)).push (excO C h.objs.size)).get? (h.objs.size + 1) = some (excO C h.objs.size) := by
    heap_get
  have c3 : (Value.ref C :: bm).contains (.ref C) = true := by
    simp
  have c4 := hi.keeps up
  have c5 := (hb (.ref (h.objs.size + 1))).keeps up
  unfold isInstance
  repeat (first | (with_reducible refine wpAny_loadPart_at c2 ?_) | (with_reducible refine wpAny_isSubtype_exc c1 ?_; rw [c3]) | wp_step)
  show wpAny _ _ (typeLookup (.ref C) _) _ _ _
  refine c4.at ?_
  refine wpAny_holding (wpAny_bind (c5.at ?_))
  refine wpAny_bind (wpAny_call (codeAny_mono hq ?_))
  intro r s2 z
  rcases r with e | (v | _ | _ | _)
  · exact z
  · exact z.elim
  · exact z.elim
  · exact z.elim
  · obtain ⟨rfl, z⟩ := z
    first | exact wpAny_pure (wpAny_pure z) | (wp_walk; exact z)
theorem call_made (F : NewF O newId) (T : RowF O bm) {rest : List Value} {fI : Addr} (hC : h.get? C = some (excClassObj nm q C N bs bm hdct sn sub ab col dd k0 k1 k2 k3 k5 newId)) (hi : W.Looks (model prog w) h (typeLookup (.ref C) "__init__") (some (.ref fI))) (hb : ∀ self, W.Looks (model prog w) h (bindSpecial (.ref fI) self) (.ref fI, [self])) (hr : rest.length ≤ sizeLine)
    (hq : codeAny (model prog w) (A.under (.builtin "type.__call__" ⟨.ref C :: rest, []⟩)) (.call (.ref fI) ⟨.ref (h.objs.size + 1) :: rest, []⟩) (W.InitBack (h.objs.size + 1) R) ⟨(h.push (W.kdv_tup rest)).push (excO C h.objs.size), g, d, t, os⟩) :
    codeAny (model prog w) A (.call (.ref C) ⟨rest, []⟩) R ⟨h, g, d, t, os⟩ := by
  have y1 := tc_lookup
  have y2 := tc_bind (.ref C)
  have y3 : (⟨h, g, d, t, os⟩ : Shared).TypeIs (.ref C) "type" := ⟨_, hC, by rfl⟩
  apply codeAny_of_tree
  show wpAny _ _ (callAny (.ref C) _) _ _ _
  repeat (any_goals (first | assumption | (with_reducible refine wpAny_loadPart_at hC ?_) | wp_step))
  refine ⟨rfl, codeAny_call_builtin_at (Code.quiet_builtin _ (by decide +kernel)) entry_typeCall (wpAny_check_type_call_sub hC (type_made F T hC hi hb hr ?_))⟩
  refine codeAny_mono hq ?_
  intro r s2 z
  rcases r with e | (v | _ | _ | _) <;> exact z
end
end HBX
end PySem
namespace PySem
namespace HBX
open PySem.W PySem.Calls PyProof.Rows PySem.HandSPX Builtin.ObjectAttr
/-! ### own errors: class X(B): def __init__(self, v): super().__init__(text); self.f = v -/
/-- what is asked of the built-in base -/
structure XBase (B newId initId : String) (bmB : List Value) : Prop where
  nw : ∃ O, NewF O newId ∧ RowF O bmB
  kind : builtinKind initId = some .slot
  row : Manifest.signature? initId = some ⟨.positional, "*", B, .self, [⟨"args", .varPos, false⟩]⟩
  star : (B != "*") = true
  plain : plainId initId = true
  entry : entryFor table initId = some Builtin.«BaseException.__init__»
  sup : KxsFacts B initId
  sto : StoreFacts B bmB "object.__setattr__" "object"
theorem xbase_of {B newId initId : String} {bmB : List Value} (F : ExcBaseFacts B newId initId bmB) (k : KxsFacts B initId) (s : StoreFacts B bmB "object.__setattr__" "object") : XBase B newId initId bmB :=
  { nw := ⟨B, ⟨initId, bmB, F⟩, F.hasB, F.noAttr, F.noName⟩, kind := F.initKind, row := F.initRow, star := F.noStar, plain := F.init.plain, entry := F.initEntry, sup := k, sto := s }
/-- the check ahead of the bound __init__ -/
theorem x_check {M : Model} {A : Around} {E : Value → Shared → Prop} {h : Heap} {g : Array GenState} {d : Drawn} {t : Nat} {os : OsState} {B newId initId : String} {bmB : List Value} (F : XBase B newId initId bmB) {nm q : Str} {C N e : Addr} {oe : Obj} {bs bm : List Value} {hdct : Bool} {sn : List Str} {sub : List Value} {ab : Bool} {col : Option Bool} {dd : Option Addr} {k0 k1 k2 k3 k5 : Option Value} {rest : List Value} {Q : Unit → Shared → Prop}
    (hC : h.get? C = some (excClassObj nm q C N bs bm hdct sn sub ab col dd k0 k1 k2 k3 k5 newId)) (he : h.get? e = some oe) (hcls : oe.cls = .ref C) (hq : Q () ⟨h, g, d, t, os⟩) : wpAny M A (checkBoundCall initId ⟨.ref e :: rest, []⟩) Q E ⟨h, g, d, t, os⟩ := by
  have y := F.star
  simp only [checkBoundCall, F.kind, F.row]
  repeat (first | (with_reducible refine wpAny_loadPart_at he ?_; rw [hcls]) | (with_reducible refine wpAny_loadPart_at hC ?_) | wp_step)
  refine wpAny_onRaise ?_
  have z : ∀ (a b : String) (n : Nat), Bind.check ⟨.positional, "*", B, .self, [⟨"args", .varPos, false⟩]⟩ a b n (List.map (fun x => x.fst) ({ pos := Value.ref e :: rest } : Args).kw) = pure () := fun a b n => check_star_args _ _ _ _ _ _
  rw [z]
  exact wpAny_pure hq
def xParams (p1 p2 : Pos) (v : Str) : Arguments := { posonlyargs := [], args := [{ arg := "self", annotation := none, pos := p1 }, { arg := v, annotation := none, pos := p2 }], vararg := none, kwonlyargs := [], kw_defaults := [], kwarg := none, defaults := [] }
def xBody (q : Nat → Pos) (f v : Str) (msg : Expr) : List Stmt := [.Expr (.Call (.Attribute (.Call (.Name "super" (q 0)) [] [] (q 1)) "__init__" (q 2)) [msg] [] (q 3)) (q 4), .Assign [.Attribute (.Name "self" (q 5)) f (q 6)] (.Name v (q 7)) (q 8)]
/-- the values that a message may tell: any one, or texts and ints -/
def pvB : Bool → Value → Prop
  | false => fun _ => True
  | true => fun u => (∃ y t, u = .str y t ∧ y.length ≤ 1000000) ∨ ∃ i t, u = .int i t ∧ i.natAbs.log2 < 1920
/-- a message that is told at any state, of the value of vn -/
structure MsgOk (prog : Program) (w : World) (vn : Str) (fl : Bool) (msg : Expr) : Prop where
  run : ∀ (A : Around) (E : Value → Shared → Prop) (s : Shared) (env : Env) (pos : Pos) (Q : List Value → Shared → Prop) (val : Value),
    (∀ (p : Pos) (tk : Nat) (Q2 : Value → Shared → Prop), Q2 val { s with toks := tk } → wpAny (model prog w) A (eval (.Name vn p) env) Q2 E { s with toks := tk }) → pvB fl val →
    (∀ u tk, Q [u] { s with toks := tk }) → wpAny (model prog w) A (spliced (backTo pos (starEach [msg] env))) Q E s
  one : ∀ env, starEach [msg] env = [(false, eval msg env)]
  cal : ∀ (p0 p1 apos pos : Pos) (env : Env), (apos.endLine == pos.line) = true → ∃ pl : Sem Bool, eval (.Call (.Attribute (.Call (.Name "super" p0) [] [] p1) "__init__" apos) [msg] [] pos) env = (do
      let ov ← attributeBase (.Call (.Name "super" p0) [] [] p1) "__init__" env (eval (.Call (.Name "super" p0) [] [] p1) env)
      standAt apos.atName
      let (f, first) ← holding [ov] (getMethod ov "__init__" pl)
      callWith pos f first (backTo pos (starEach [msg] env)) [])
theorem cal_of {msg : Expr} (h1 : ∀ pos env, methodCallForm 1 (backTo pos (starEach [msg] env)) [] = true) (h2 : ∀ p0 p1 apos pos env, eval (.Call (.Attribute (.Call (.Name "super" p0) [] [] p1) "__init__" apos) [msg] [] pos) env = (do
      let ov ← attributeBase (.Call (.Name "super" p0) [] [] p1) "__init__" env (eval (.Call (.Name "super" p0) [] [] p1) env)
      standAt apos.atName
      methodCall (.Call (.Name "super" p0) [] [] p1) "__init__" apos pos env ov 1 (backTo pos (starEach [msg] env)) [])) (p0 p1 apos pos : Pos) (env : Env) (hl : (apos.endLine == pos.line) = true) :
    ∃ pl : Sem Bool, eval (.Call (.Attribute (.Call (.Name "super" p0) [] [] p1) "__init__" apos) [msg] [] pos) env = (do
      let ov ← attributeBase (.Call (.Name "super" p0) [] [] p1) "__init__" env (eval (.Call (.Name "super" p0) [] [] p1) env)
      standAt apos.atName
      let (f, first) ← holding [ov] (getMethod ov "__init__" pl)
      callWith pos f first (backTo pos (starEach [msg] env)) []) := ⟨(do return (← importBound (.Call (.Name "super" p0) [] [] p1) env).getD true), by
    rw [h2]
    have e : ∀ ov, methodCall (.Call (.Name "super" p0) [] [] p1) "__init__" apos pos env ov 1 (backTo pos (starEach [msg] env)) [] = (do
      let (f, first) ← holding [ov] (getMethod ov "__init__" (do return (← importBound (.Call (.Name "super" p0) [] [] p1) env).getD true))
      callWith pos f first (backTo pos (starEach [msg] env)) []) := fun ov => by
      unfold methodCall methodCallPos
      rw [h1, hl]
      rfl
    simp only [e]⟩
theorem msgOk_str {prog : Program} {w : World} {vn t : Str} {k : Nat} {p : Pos} : MsgOk prog w vn false (.Constant (.str t) k p) where
  run := by
    intro A E s env pos Q val _ _ h
    refine spliced_more ?_
    refine wpAny_Constant_str ?_
    exact spliced_none (h _ _)
  one := fun _ => rfl
  cal := cal_of (fun _ _ => rfl) (fun _ _ _ _ _ => rfl)
/-- f'a{vn}b' -/
theorem msgOk_f {prog : Program} {w : World} {vn a b : Str} {k1 k2 : Nat} {p1 p2 p3 p4 p5 : Pos} (ha : a.length ≤ 1000) (hb : b.length ≤ 1000) : MsgOk prog w vn true (.JoinedStr [.Constant (.str a) k1 p1, .FormattedValue (.Name vn p2) (-1) none p3, .Constant (.str b) k2 p4] p5) where
  run := by
    intro A E s env pos Q val ld pv h
    refine spliced_more ?_
    refine wpAny_JoinedStr ?_
    have fin : ∀ (y : Str) (tk : Nat), y.length ≤ 1001921 → Joins (model prog w) A E (evalEach [.Constant (.str b) k2 p4] env) (Str.empty ++ a ++ y) (fun out s₁ => out.length ≤ sizeLine ∧ wpAny (model prog w) A (spliced (backTo pos (starEach [] env))) (fun vs s₂ => Q (Value.str out s₁.toks :: vs) s₂) E { s₁ with toks := s₁.toks + 1 }) { s with toks := tk } := by
      intro y tk hy
      have l1 : (Str.empty ++ a ++ y).length = a.length + y.length := by
        rw [strLen_append, strLen_append]
        have : Str.empty.length = 0 := rfl
        omega
      have l2 : (Str.empty ++ a ++ y ++ b).length ≤ sizeLine := by
        rw [strLen_append, l1, sizeLine_eq]
        omega
      exact wpAny_Constant_str ⟨b, _, rfl, l2, l2, spliced_none (h _ _)⟩
    have l0 : (Str.empty ++ a).length ≤ sizeLine := by
      rw [strLen_append, sizeLine_eq]
      have : Str.empty.length = 0 := rfl
      omega
    refine wpAny_Constant_str ⟨a, _, rfl, l0, ?_⟩
    show wpAny _ _ (eval (.FormattedValue (.Name vn p2) (-1) none p3) env) _ _ _
    refine wpAny_FormattedValue_plain (ld _ _ _ ?_)
    have lz : ∀ (y : Str), y.length ≤ 1001921 → (Str.empty ++ a ++ y).length ≤ sizeLine := by
      intro y hy
      rw [strLen_append, strLen_append, sizeLine_eq]
      have : Str.empty.length = 0 := rfl
      omega
    rcases pv with ⟨y, t, rfl, hy⟩ | ⟨i, t, rfl, hi⟩
    · have hy2 : y.length ≤ 1001921 := by omega
      exact wpAny_formatField_str ⟨y, _, rfl, lz y hy2, fin y _ hy2⟩ ⟨y, _, rfl, lz y hy2, fin y _ hy2⟩ (by rw [sizeLine_eq]; omega)
    · have hy2 : (Str.ofString (toString i)).length ≤ 1001921 := Nat.le_trans (int_text_len_1921 hi) (by decide)
      exact wpAny_formatField_int hi ⟨_, _, rfl, lz _ hy2, fin _ _ hy2⟩
  one := fun _ => rfl
  cal := cal_of (fun _ _ => rfl) (fun _ _ _ _ _ => rfl)
/-- what the top has left of such a class -/
structure XTxt (prog : Program) (w : World) (K : Frag) (mg : Str → Option Value) (x : Str) (f v : Str) (fl : Bool) (C fI : Addr) : Prop where
  gC : mg x = some (.ref C)
  kC : keepIn K (.ref C) = true
  exC : subIn K (.ref C) (.type "BaseException") = some true
  tyC : typeIn K (.ref C) = some (.type "type")
  hdC : hasDictIn K C = true
  iC : findIn K (.ref C) "__init__" = some (some (.ref fI))
  sa : findIn K (.ref C) "__setattr__" = some (some (.builtin "object.__setattr__"))
  ga : findIn K (.ref C) "__getattribute__" = some (some (.builtin "BaseException.__getattribute__"))
  gg : findIn K (.ref C) "__getattr__" = some none
  noN : findIn K (.ref C) f = some none
  tk : takerIn K C f = some none
  sC : mroIn K C (.ref C) = some true
  tp : nsIn K cStatics "thirdparty.any" = some none
  sup : nsIn K mainGlobals "super" = some none
  top : (prog.main.scope.names.lookup ("super" : Str)).isSome = false
  bsx : ∃ (B newId initId : String) (bmB : List Value), XBase B newId initId bmB ∧ excInitIn K C bmB newId = true ∧ excOver K C bmB = true ∧ subIn K (.ref C) (.type B) = some true ∧ ks_superIn K C C "__init__" = some (some (.builtin initId))
  fn : ∃ (q : Nat → Pos) (p1 p2 : Pos) (qual : Str) (sc : Scope) (kV doc pm ct ccl cl : Value) (od an cdd cld : Option Addr) (cda cc : Addr) (osl ccs csl : Array (Option Value)) (vs : Array Value) (file : Str) (tf : Tok) (msg : Expr) (cdD : ClassData),
    K.lookup fI = some ⟨.type "function", od, .func (ksFn "__init__" qual (xParams p1 p2 v) (xBody q f v msg) sc .none kV doc pm an (.ref cda) ct cc), osl⟩ ∧ codeIn K (.ref cda) qual = true ∧
    K.lookup cda = some ⟨ccl, cdd, .fields vs, ccs⟩ ∧ vs[2]? = some (.str file tf) ∧ ((prog.main.file : Str) == file) = true ∧ K.lookup cc = some ⟨cl, cld, .cell (some (.ref C)), csl⟩ ∧ clsIn K C = some cdD ∧
    sc.names = [(("self" : Str), NameKind.local), (v, .local), ("__class__", .free), ("super", .globalImplicit)] ∧ sc.kind = .function ∧ sc.isCoroutine = false ∧ sc.isGenerator = false ∧ MsgOk prog w v fl msg ∧ ((q 2).endLine == (q 3).line) = true ∧
    (∀ (s : Shared) (a b : Value), BindsTo s (ksFn "__init__" qual (xParams p1 p2 v) (xBody q f v msg) sc .none kV doc pm an (.ref cda) ct cc) ⟨[a, b], []⟩ [("self", a), (v, b)])
/-- self.f = v, past the descriptors -/
theorem x_store {prog : Program} {w : World} {A : Around} {R : Result → Shared → Prop} {hp : Heap} {g : Array GenState} {d : Drawn} {t : Nat} {os : OsState} {K : Frag} {name : Str} {tk : Tok} {v : Value} {x C : Addr} {fv : Array Value} {B : String} {bmB : List Value}
    (SF : StoreFacts B bmB "object.__setattr__" "object") (X : K.In hp) (hx : hp.get? x = some { cls := .ref C, data := .fields fv }) (ho : excOver K C bmB = true) (ht : takerIn K C name = some none) (hh : hasDictIn K C = true)
    (hq : ∀ h' tk' dx, (∀ b o, b ≠ x → hp.get? b = some o → h'.get? b = some o) → hp.objs.size ≤ dx → dx ≠ x → h'.get? x = some { cls := .ref C, dict := some dx, data := .fields fv } →
      h'.Ns1 dx (fun y => if y = name then some v else none) → R (.ok (.ret .none)) ⟨h', g, d, tk', os⟩) :
    codeAny (model prog w) A (.call (.builtin "object.__setattr__") ⟨[.ref x, .str name tk, v], []⟩) R ⟨hp, g, d, t, os⟩ := by
  have hxs : x ≠ hp.objs.size := Nat.ne_of_lt (Heap.lt_size hx)
  refine osa_openX (s := ⟨hp, g, d, t, os⟩) (od := none) SF X ⟨hx, rfl, rfl, trivial⟩ ho ht fun b => ?_
  obtain ⟨cd, hc, hd'⟩ := any_some hh
  have hcls : W.Looks (model prog w) hp (classData C) cd := W.looks_clsIn X hc
  obtain ⟨nm, bs, mro, ns, qn, hd, sn, sb, ab, col, del⟩ := cd
  dsimp only at hd'
  subst hd'
  show wpAny _ _ (storeInOwnDict (.ref x) (.ref C) (.str name tk) name v b) _ _ _
  unfold storeInOwnDict ownDictForStores
  repeat (first | with_reducible refine store_in_new ?_ ?_ | with_reducible refine wpAny_loadPart_at hx ?_ | with_reducible refine hcls.at ?_ | wp_step)
  · exact ⟨_, #[], _, (Heap.get?_update_ne _ _ _ _ hxs.symm).trans (Heap.get?_push_at rfl rfl), rfl, fun e he => absurd he (by simp), fun _ => rfl⟩
  · intro h' tk' hn' hs
    have hx₁ : (hp.push { cls := .type "dict", data := .dict #[] }).get? x = some { cls := .ref C, data := .fields fv } := Heap.get?_push_of_some _ hx
    refine hq h' tk' hp.objs.size (fun b o hb ho => ?_) (Nat.le_refl _) hxs.symm ?_ hn'
    · exact (hs.2 b (Nat.ne_of_lt (Heap.lt_size ho))).trans ((Heap.get?_update_ne _ _ _ _ hb).trans (Heap.get?_push_of_some _ ho))
    · exact (hs.2 x hxs).trans (Heap.get?_update_self _ hx₁ rfl)
/-- the bound __init__ of the base called -/
theorem x_wrap {prog : Program} {w : World} {A : Around} {E : Value → Shared → Prop} {K : Frag} {hh : Heap} {g : Array GenState} {d : Drawn} {tk : Nat} {os : OsState} {u x C t : Addr} {rest : List Value} {B newId i : String} {bmB : List Value} {Q : Value → Shared → Prop}
    (X : K.In hh) (FB : XBase B newId i bmB) (q : excInitIn K C bmB newId = true) (hu : hh.get? u = some (kxs_mw i x)) (he : hh.get? x = some (excO C t)) (hz : rest.length ≤ sizeLine)
    (h : ∀ t' h', (∀ b o, b ≠ x → hh.get? b = some o → h'.get? b = some o) → h'.get? x = some (excO C t') → Q .none ⟨h', g, d, tk, os⟩) :
    wpAny (model prog w) A (call (.ref u) rest) Q E ⟨hh, g, d, tk, os⟩ := by
  obtain ⟨nm, N', qn, bs, bm, hdct, sn, sub, ab, col, dd, k0, k1, k2, k3, k5, hC, hT⟩ := excInit_of X q
  refine wpAny_call (codeAny_of_tree ?_)
  show wpAny _ A.in1 (callAny (.ref u) ⟨rest, []⟩) _ _ _
  simp only [callAny]
  refine wpAny_bind (wpAny_load hu ?_)
  simp only [kxs_mw, show (Value.type "method-wrapper" == Value.type "method" || Value.type "method-wrapper" == Value.type "builtin_function_or_method" || Value.type "method-wrapper" == Value.type "method-wrapper") = true by decide, if_true]
  refine KFB.if_so (by decide) ?_
  refine wpAny_bind (x_check FB hC he rfl ?_)
  refine wpAny_bind (wpAny_pure (wpAny_pure ?_))
  refine ⟨plainId_quiet FB.plain _, codeAny_builtin FB.entry ?_⟩
  exact exc_init_tree (cls := .ref C) (t0 := t) (dv := none) (c2 := .none) (c3 := .none) (b4 := .bool false) he hz fun h' k e' _ => h _ h' k e'
structure InitEnd (h h' : Heap) (x C dx t1 : Addr) (f : Str) (v : Value) : Prop where
  keep : ∀ b o, b ≠ x → h.get? b = some o → h'.get? b = some o
  obj : h'.get? x = some { cls := .ref C, dict := some dx, data := .fields #[.ref t1, .none, .none, .none, .bool false, .none] }
  dbig : h.objs.size ≤ dx
  dne : dx ≠ x
  ns : h'.Ns1 dx (fun y => if y = f then some v else none)
section
variable {prog : Program} {w : World} {A : Around} {E : Value → Shared → Prop} {R : Result → Shared → Prop} {s : Shared} {K : Frag} {mg : Str → Option Value} {C fI : Addr} {xn f vn : Str} {fl : Bool}
theorem x_init (T : XTxt prog w K mg xn f vn fl C fI) (hvs : (vn == ("self" : Str)) = false) (hvd : (vn == ("__debug__" : Str)) = false) (hv1 : (("super" : Str) == vn) = false) (hv2 : (("__class__" : Str) == vn) = false) {x t0 : Addr} {v : Value} (hpv : pvB fl v) (hg : s.heap.Ns mainGlobals mg) (hb : ∃ mb, s.heap.Ns builtinsNs mb ∧ ∀ x : Str, x ≠ "__name__" → mb x = bootBuiltins x) (hsg : mg "super" = none) (X : K.In s.heap) (hlim : s.heap.NoLimit) (hx : s.heap.get? x = some (excO C t0)) (hnx : K.lookup x = none) (hroom : A.depth < recursionLimit)
    (hq : ∀ h' tk dx t1, InitEnd s.heap h' x C dx t1 f v → R (.ok (.ret .none)) { s with heap := h', toks := tk }) :
    codeAny (model prog w) A (.call (.ref fI) ⟨[.ref x, v], []⟩) R s := by
  obtain ⟨B, newId, initId, bmB, XB, e1, e2, e3, e4⟩ := T.bsx
  obtain ⟨q, p1, p2, qual, sc, kV, doc, pm, ct, ccl, cl, od, an, cdd, cld, cda, cc, osl, ccs, csl, vs, file, tf, msg, cdD, ho, hcd, hcode, hvs2, hfile, hcell, hD, hnm, hk, hco, hgen, hmsg, hpl, hbind⟩ := T.fn
  have hself : sc.names.lookup ("self" : Str) = some .local := by rw [hnm]; rfl
  have hvn : sc.names.lookup vn = some .local := by
    rw [hnm]; simp only [List.lookup]
    rw [hvs]; simp
  have hks : sc.names.lookup ("super" : Str) = some .globalImplicit := by
    rw [hnm]; simp only [List.lookup]
    rw [hv1]; rfl
  have hkc : sc.names.lookup ("__class__" : Str) = some .free := by
    rw [hnm]; simp only [List.lookup]
    rw [hv2]; rfl
  refine ks_codeAny_call_defAt (fd := ksFn "__init__" qual (xParams p1 p2 vn) (xBody q f vn msg) sc .none kV doc pm an (.ref cda) ct cc) (body := xBody q f vn msg) (binds := [("self", .ref x), (vn, v)]) hroom (X _ _ ho) rfl hlim (codeRec_of X hcd) rfl (hbind _ _ _) ?_ ?_ (fun h₁ hns hk₁ => ?_) hco hgen hk
  · rw [show (ksFn "__init__" qual (xParams p1 p2 vn) (xBody q f vn msg) sc .none kV doc pm an (.ref cda) ct cc).scope.names = sc.names from rfl, hnm]
    intro y hy
    simp only [List.mem_cons, List.not_mem_nil, or_false] at hy
    rcases hy with rfl | rfl | rfl | rfl <;> exact NameKind.noConfusion
  · intro y hy
    simp only [List.mem_cons, List.not_mem_nil, or_false] at hy
    rcases hy with rfl | rfl
    · exact hself
    · exact hvn
  obtain ⟨hp, g, dr, tk, os⟩ := s
  dsimp only at hk₁ hns X hx hlim hg hb ⊢
  show _root_.PySem.wpAt (model prog w) (A.deeper (ksEnv qual sc hp.objs.size fI (.ref cda) cc)) (.func (xBody q f vn msg) (ksEnv qual sc hp.objs.size fI (.ref cda) cc)) (execs (xBody q f vn msg) (ksEnv qual sc hp.objs.size fI (.ref cda) cc)) _ _ _
  have X₁ : K.In h₁ := X.keeps hk₁
  have hx₁ := hk₁ _ _ hx
  obtain ⟨oD, hD1, hD2⟩ : ∃ oD, h₁.get? C = some oD ∧ oD.data = .cls cdD := by
    unfold clsIn at hD
    split at hD
    · rename_i c d cd' sl ho
      cases hD
      exact ⟨_, X₁ _ _ ho, rfl⟩
    · cases hD
  obtain ⟨pl, hcal⟩ := hmsg.cal (q 0) (q 1) (q 2) (q 3) (ksEnv qual sc hp.objs.size fI (.ref cda) cc) hpl
  refine ks_wpAt_execs_cons (ks_wpAt_Expr_any (ks_wpAt_MethodCall (pl := pl) ?_ hcal) (by unfold interactive; simp [hk]))
  obtain ⟨mb, hb1, hb2⟩ := hb
  have I : InstAt h₁ x (excO C t0) C none := ⟨hx₁, rfl, rfl, trivial⟩
  refine ks_wpAt_super_base (env := ksEnv qual sc hp.objs.size fI (.ref cda) cc) hks hkc (by decide) rfl (X₁ _ _ ho) rfl rfl rfl (X₁ _ _ hcode) rfl hvs2 hfile T.top ?_
  refine ks_loadName_global hk hks (loadGlobal_builtin (env := ksEnv qual sc hp.objs.size fI (.ref cda) cc) (hg.keeps hk₁) hsg (hb1.keeps hk₁) ((hb2 _ (by decide +kernel)).trans (by kernel_rfl : bootBuiltins "super" = some (.type "super"))) ⟨rfl, ?_⟩)
  refine wpAny_loadName_free hk hkc rfl ⟨_, X₁ _ _ hcell, rfl⟩ ?_
  refine wpAny_loadName_local hk hself hns (v := .ref x) ?_ ?_
  · show List.lookup ("self" : Str) [(vn, v), ("self", Value.ref x)] = some (.ref x)
    have : (("self" : Str) == vn) = false := by rw [beq_eq_false_iff_ne]; rw [beq_eq_false_iff_ne] at hvs; exact fun e => hvs e.symm
    simp [List.lookup, this]
  refine ks_wpAny_isType_cls hD1 hD2 ⟨rfl, ?_⟩
  refine ks_wpAny_call_super hD1 hD2 hx₁ rfl (fun c e => by cases e) (looks_mroIn X₁ T.sC) (fun h₂ hso k₂ => ?_)
  have X₂ : K.In h₂ := X₁.keeps k₂
  have I₂ : InstAt h₂ x (excO C t0) C none := ⟨k₂ _ _ hx₁, rfl, rfl, trivial⟩
  have hI : Looks (model prog w) h₂ (isInstance (.ref x) (.type B)) true := I₂.type.andThen (looks_subIn X₂ e3)
  refine kxs_getMethod XB.sup (h := h₂) hso (looks_opaque X₂ T.tp) (l₀ := cdD.mro) (fun A Q E s k q => wpAny_bind ((looks_clsIn X₂ hD) A _ E s k (wpAny_pure q))) rfl X₂ ?_ hI ?_ (by decide) ?_
  · unfold ks_superIn at e4
    rw [hD] at e4
    exact e4
  · exact ks_ne X₂ I₂ hD
  have k₃ : ∀ b o, h₂.get? b = some o → (h₂.push (kxs_mw initId x)).get? b = some o := fun b o e => Heap.get?_push_of_some _ e
  have hone := hmsg.one (ksEnv qual sc hp.objs.size fI (.ref cda) cc)
  refine kxs_callWith (i := initId) (x := x) (by rw [hone]; rfl) ?_
  have hrun := hmsg.run (A.deeper (ksEnv qual sc hp.objs.size fI (.ref cda) cc)) 
  rw [hone]
  refine evalArgs_plain ?_
  show wpAny _ _ (spliced (backTo (q 3) [(false, eval msg (ksEnv qual sc hp.objs.size fI (.ref cda) cc))])) _ _ _
  rw [← hone]
  have hns3 : (h₂.push (kxs_mw initId x)).Ns hp.objs.size (fun y => List.lookup y (List.reverse [(("self" : Str), Value.ref x), (vn, v)])) := hns.keeps fun b o e => k₃ _ _ (k₂ _ _ e)
  refine hrun _ _ _ (q 3) _ v (fun p tk Q2 hQ => wpAny_Name (wpAny_loadName_local hk hvn hns3 (v := v) (by simp [List.lookup]) hQ) hvd) hpv fun um tkm => ?_
  refine ⟨(Heap.get?_push_at rfl rfl : KxsAt initId h₂.objs.size x (h₂.push (kxs_mw initId x))), ?_⟩
  refine x_wrap (X₂.keeps k₃) XB e1 (Heap.get?_push_at rfl rfl) (k₃ _ _ (k₂ _ _ hx₁)) (by rw [sizeLine_eq]; exact (by decide : 1 ≤ 16777216)) fun t' h₄ k₄ hx₄ => ?_
  have X₄ : K.In h₄ := fun a o e => k₄ a o (fun z => by rw [z, hnx] at e; cases e) (k₃ _ _ (X₂ a o e))
  have hxL : hp.objs.size ≠ x := Nat.ne_of_gt (Heap.lt_size hx)
  have hns₄ : h₄.Ns hp.objs.size (fun y => List.lookup y (List.reverse [(("self" : Str), Value.ref x), (vn, v)])) := hns.at (fun o e => k₄ _ o hxL (k₃ _ _ (k₂ _ _ e)))
  refine ks_wpAt_execs_cons (ks_wpAt_Assign_Attr (wpAt_of_wpAny (wpAny_Name (wpAny_loadName_local hk hvn hns₄ (v := v) ?_ (wpAny_Name (wpAny_loadName_local hk hself hns₄ (v := .ref x) ?_ ?_) (by decide))) hvd)))
  · simp [List.lookup]
  · have : (("self" : Str) == vn) = false := by rw [beq_eq_false_iff_ne]; rw [beq_eq_false_iff_ne] at hvs; exact fun e => hvs e.symm
    simp [List.lookup, this]
  refine set_plain X₄ (ox := excO C t') (od := none) ⟨hx₄, rfl, rfl, trivial⟩ T.sa ?_
  refine x_store XB.sto X₄ hx₄ e2 T.tk T.hdC (fun h₅ tk₅ dx k₅ dn dne hx₅ hn₅ => ?_)
  refine wpAt_of_wpAny (wpAny_execs_nil ?_)
  refine hq h₅ tk₅ dx t' ⟨fun b o hb e => k₅ b o hb (k₄ b o hb (k₃ _ _ (k₂ _ _ (hk₁ b o e)))), hx₅, ?_, dne, hn₅⟩
  have z : hp.objs.size < h₄.objs.size := hns₄.lt
  exact Nat.le_of_lt (Nat.lt_of_lt_of_le z dn)
/-- a made one -/
structure OwnMade (h h' : Heap) (e C d : Addr) (f : Str) (v : Value) : Prop where
  keep : ∀ b o, h.get? b = some o → h'.get? b = some o
  new : h.objs.size ≤ e
  obj : ∃ oe vs, h'.get? e = some oe ∧ oe.cls = .ref C ∧ oe.dict = some d ∧ oe.data = .fields vs ∧ vs[1]? = some .none
  dbig : h.objs.size ≤ d
  dne : d ≠ e
  ns : h'.Ns1 d (fun y => if y = f then some v else none)
/-- the names that the value's name may not be -/
def vnOk (vn : Str) : Bool := !(vn == ("self" : Str)) && !(vn == ("__debug__" : Str)) && !(("super" : Str) == vn) && !(("__class__" : Str) == vn)
theorem x_made (T : XTxt prog w K mg xn f vn fl C fI) (hvn : vnOk vn = true) {v : Value} (hpv : pvB fl v) (hg : s.heap.Ns mainGlobals mg) (hb : ∃ mb, s.heap.Ns builtinsNs mb ∧ ∀ x : Str, x ≠ "__name__" → mb x = bootBuiltins x) (hsg : mg "super" = none) (X : K.In s.heap) (hlim : s.heap.NoLimit) (hroom : A.depth + 1 < recursionLimit)
    (hq : ∀ h' tk e d, OwnMade s.heap h' e C d f v → R (.ok (.ret (.ref e))) { s with heap := h', toks := tk }) :
    codeAny (model prog w) A (.call (.ref C) ⟨[v], []⟩) R s := by
  obtain ⟨B, newId, initId, bmB, XB, e1, e2, e3, e4⟩ := T.bsx
  obtain ⟨nm, N', qn, bs, bm, hdct, sn, sub, ab, col, dd, k0, k1, k2, k3, k5, hC, hT⟩ := excInit_of X e1
  simp only [vnOk, Bool.and_eq_true, Bool.not_eq_true'] at hvn
  obtain ⟨⟨⟨v1, v2⟩, v3⟩, v4⟩ := hvn
  have hf : typeIn K (.ref fI) = some (.type "function") := by
    obtain ⟨q, p1, p2, qual, sc, kV, doc, pm, ct, ccl, cl, od, an, cdd, cld, cda, cc, osl, ccs, csl, vs, file, tf, msg, cdD, ho, _⟩ := T.fn
    show (K.lookup fI).map (·.cls) = some (.type "function")
    rw [ho]; rfl
  obtain ⟨hp, g, dr, tk, os⟩ := s
  have k : ∀ b o, hp.get? b = some o → ((hp.push (kdv_tup [v])).push (excO C hp.objs.size)).get? b = some o := fun b o e => Heap.get?_push_of_some _ (Heap.get?_push_of_some _ e)
  have hget : ((hp.push (kdv_tup [v])).push (excO C hp.objs.size)).get? (hp.objs.size + 1) = some (excO C hp.objs.size) := by heap_get
  have hnx : K.lookup (hp.objs.size + 1) = none := by
    cases e : K.lookup (hp.objs.size + 1) with
    | none => rfl
    | some o =>
      have z : hp.get? (hp.objs.size + 1) = some o := X _ _ e
      exact absurd (Nat.lt_of_succ_lt (Heap.lt_size z)) (Nat.lt_irrefl _)
  obtain ⟨O, nf, rf⟩ := XB.nw
  refine call_made nf ⟨(hT _).trans rf.o, (hT _).trans rf.a, (hT _).trans rf.n⟩ hC (looks_findIn X T.iC) (fun self => bind_fn X self hf) (by rw [sizeLine_eq]; exact (by decide : 1 ≤ 16777216)) ?_
  obtain ⟨mb, hb1, hb2⟩ := hb
  refine x_init (s := ⟨(hp.push (kdv_tup [v])).push (excO C hp.objs.size), g, dr, tk, os⟩) T v1 v2 v3 v4 hpv (Heap.Ns.keeps hg k) ⟨mb, Heap.Ns.keeps hb1 k, hb2⟩ hsg (X.keeps k) (hlim.keeps k) hget hnx ?_ fun h' tk' dx t1 ⟨k', hx, dn, dne, hns⟩ => ?_
  · show A.depth + 1 < recursionLimit
    exact hroom
  · have old : ∀ b o, hp.get? b = some o → h'.get? b = some o := fun b o e => k' b o (Nat.ne_of_lt (Nat.lt_succ_of_lt (Heap.lt_size e))) (k b o e)
    have z : hp.objs.size + 1 + 1 ≤ dx := by
      first
        | (simpa only [Heap.size_push] using dn)
        | exact dn
        | (have q := dn; rw [Heap.size_push, Heap.size_push] at q; exact q)
    exact ⟨rfl, hq h' tk' (hp.objs.size + 1) dx ⟨old, Nat.le_succ _, ⟨_, _, hx, rfl, rfl, rfl, rfl⟩, Nat.le_trans (Nat.le_trans (Nat.le_succ _) (Nat.le_succ _)) z, dne, hns⟩⟩
end
end HBX
end PySem
namespace HB
open PySem L2 PyProof.Rows
open PySem.HBX
theorem relO_one {f0 : Str} {v : V} {v' : Value} (r : RelV v v') (f : Str) : RelO (List.lookup f [(f0, v)]) (if f = f0 then some v' else none) := by
  by_cases hw : f = f0
  · subst hw
    rw [if_pos rfl]
    have q : List.lookup f [(f, v)] = some v := by simp [List.lookup]
    rw [q]
    exact r
  · rw [if_neg hw]
    have qw : (f == f0) = false := by simpa using hw
    have q2 : List.lookup f [(f0, v)] = none := by simp [List.lookup, qw]
    rw [q2]
    trivial
section
variable {X : Cx} {C fI : Addr} {xn f vn : Str} {fl : Bool}
/-- the values that a message may tell -/
def pvV : Bool → V → Prop
  | false => fun _ => True
  | true => fun v => (∃ y, v = .str y ∧ y.length ≤ 1000000) ∨ ∃ i, v = .int i ∧ i.natAbs.log2 < 1920
theorem pv_of {fl : Bool} {v : V} {u : Value} (h : pvV fl v) (r : RelV v u) : pvB fl u := by
  cases fl with
  | false => trivial
  | true =>
    rcases h with ⟨y, rfl, hy⟩ | ⟨i, rfl, hi⟩
    · obtain ⟨t, rfl⟩ := r
      exact .inl ⟨y, t, rfl, hy⟩
    · obtain ⟨t, rfl⟩ := r
      exact .inr ⟨i, t, rfl, hi⟩
def tMkX (C : Addr) (f : Str) (fl : Bool) (ta : TA) : L2.St → Hp → XK → Prop := fun σ H Q => ta σ H fun vs H1 => ∃ v, vs = [v] ∧ pvV fl v ∧ ∀ d, H1 d = none → Q (.ref C) (some d) (upd H1 d (.xd [(f, v)]))
theorem pmk_x {a : Expr} {ta : TA} {p pos : Pos} {k : Nat} (T : XTxt X.prog X.w X.K X.mg xn f vn fl C fI) (hvn : vnOk vn = true) (hsg : X.mg "super" = none) (hr : Room k X.A) (ha : PA X [a] ta) (hg : Gl X xn) (hd : (xn == ("__debug__" : Str)) = false)
    (he : starEach (a :: []) X.env = (false, eval a X.env) :: starEach [] X.env) (hpl : (backTo pos (starEach [] X.env)).any (·.1) = false) :
    PMk X (.Call (.Name xn p) [a] [] pos) (tMkX C f fl ta) := by
  intro pins s σ H Q I h
  refine wpAny_Call_Name_kw (ld_glob I hg T.gC ?_ hd)
  refine PySem.W.callWith_K (h₀ := X.base) I.ok.mod.kin T.kC (thn (ha.run pos pins s σ H _ I h) fun us s1 hh => ?_) he hpl
  obtain ⟨vs, H1, I1, r1, v, ev, pvv, q1⟩ := hh
  subst ev
  refine ⟨I1.kIn, ?_⟩
  cases r1 with
  | cons rv rn =>
    rename_i v' us'
    cases rn
    show wpAny _ _ (call (.ref C) [v']) _ _ _
    have hlim := I1.nolimit
    have hG : s1.heap.Ns mainGlobals X.mg := I1.ok.mod.glob.keeps I1.bk
    have hB : ∃ mb, s1.heap.Ns builtinsNs mb ∧ ∀ x : Str, x ≠ "__name__" → mb x = bootBuiltins x := by
      obtain ⟨mb, h1, h2⟩ := I1.ok.mod.blt
      exact ⟨mb, h1.keeps I1.bk, h2⟩
    obtain ⟨hp, g, dr, tk, os⟩ := s1
    refine wpAny_call (x_made T hvn (pv_of pvv rv) hG hB hsg I1.kIn hlim (by have := hr.dp; omega) fun h' tk' e d M => ?_)
    show MkP X pins σ Q (.ref e) ⟨h', g, dr, tk', os⟩
    obtain ⟨oe, fv, hoe, hc, hd, hdat, h1⟩ := M.obj
    have hns := M.ns
    obtain ⟨G', g1, g2⟩ := restrict h' fun b => decide (b ≠ e)
    have gk : ∀ b, b ≠ e → G'.get? b = h'.get? b := fun b hb => g1 b (decide_eq_true hb)
    have ge : G'.get? e = none := g2 e (by simp)
    have old : ∀ b o, hp.get? b = some o → G'.get? b = some o := fun b o q => (gk b (Nat.ne_of_lt (Nat.lt_of_lt_of_le (Heap.lt_size q) M.new))).trans (M.keep b o q)
    have ob : ObjOk X.prog X.w (upd H1 d (.xd [(f, v)])) G' d (.xd [(f, v)]) :=
      ⟨_, hns.at (fun o q => (gk d M.dne).trans q), fun y => relO_one rv y⟩
    have J : Inv X pins σ (upd H1 d (.xd [(f, v)])) ⟨G', g, dr, tk', os⟩ := I1.laid (t' := tk') old M.dbig ob
    refine ⟨e, oe, fv, ⟨G', g, dr, tk', os⟩, _, .ref C, some d, rfl, J, fun b o q => ?_, ge, hoe, ⟨hc, hd⟩, hdat, h1, ?_, rfl, I1.bare, raises_own T.exC T.tyC, q1 d (I1.hok.fresh M.dbig)⟩
    · by_cases hb : b = e
      · have q' : G'.get? b = some o := q
        rw [hb, ge] at q'; cases q'
      · exact (gk b hb).symm.trans q
    · rw [upd_ne (Ne.symm M.dne)]
      exact I1.hok.fresh M.new
end
/-- an own error with a field -/
def XOk (P : Program) (w : World) (K : PySem.W.Frag) (mg : Str → Option Value) (x f : Str) (fl : Bool) : Prop := ∃ vn C fI, XTxt P w K mg x f vn fl C fI ∧ vnOk vn = true ∧ (x == ("__debug__" : Str)) = false
/-- an own error without __init__ -/
def XOk0 (K : PySem.W.Frag) (mg : Str → Option Value) (x : Str) : Prop := ∃ (C : Addr) (B newId initId : String) (bmB : List Value), ExcBaseFacts B newId initId bmB ∧ PySem.W.excIn K C bmB newId = true ∧ mg x = some (.ref C) ∧ PySem.W.keepIn K (.ref C) = true ∧
  PySem.W.subIn K (.ref C) (.type "BaseException") = some true ∧ PySem.W.typeIn K (.ref C) = some (.type "type") ∧ (x == ("__debug__" : Str)) = false
end HB
namespace HB
open PySem PySem.F PySem.W PySem.HBX
abbrev kbm : List Value := [.type "KeyError", .type "LookupError", .type "Exception", .type "BaseException", .type "object"]
theorem key_init : Slot "KeyError" "__init__" "KeyError.__init__" := Slot.of (owner := "KeyError") (n := "__init__") (by rw [typeLookup_type, builtinLookup_eq_fast]; kernel_rfl) (by decide +kernel) (by decide +kernel) (by decide +kernel) (by first | exact .inl (by decide +kernel) | exact .inr (by decide +kernel)) (by rw [isSubtype_type]; kernel_rfl)
theorem key_kxs : KxsFacts "KeyError" "KeyError.__init__" := ⟨by show builtinType _ = _; rw [builtinType_eq_fast]; kernel_rfl, by first | kernel_rfl | rfl⟩
theorem key_sto : StoreFacts "KeyError" kbm "object.__setattr__" "object" := { F.store_IndexError with mro := by kernel_rfl, slot := Slot.of (owner := "object") (n := "__setattr__") (by rw [typeLookup_type, builtinLookup_eq_fast]; kernel_rfl) (by decide +kernel) (by decide +kernel) (by decide +kernel) (by first | exact .inl (by decide +kernel) | exact .inr (by decide +kernel)) (by rw [isSubtype_type]; kernel_rfl), hasOwner := by decide +kernel, passes := fun _ => by kernel_rfl }
theorem key_entry : entryFor table "KeyError.__init__" = some Builtin.«BaseException.__init__» := entryFor_alias (id' := "BaseException.__init__") (by rw [fastTable_eq_tree]; kernel_rfl) (by first | rfl | decide +kernel) (by decide +kernel) (by rw [fastTable_eq_tree]; kernel_rfl)
theorem xb_KeyError : XBase "KeyError" "LookupError.__new__" "KeyError.__init__" kbm := { nw := ⟨"LookupError", ⟨_, _, excBase_LookupError⟩, by decide +kernel, by decide +kernel, by decide +kernel⟩, kind := by kernel_rfl, row := by kernel_rfl, star := by decide +kernel, plain := key_init.plain, entry := key_entry, sup := key_kxs, sto := key_sto }
theorem xb_IndexError : XBase "IndexError" "IndexError.__new__" "IndexError.__init__" [.type "IndexError", .type "LookupError", .type "Exception", .type "BaseException", .type "object"] := xbase_of excBase_IndexError kxs_IndexError store_IndexError
theorem xb_OverflowError : XBase "OverflowError" "OverflowError.__new__" "OverflowError.__init__" [.type "OverflowError", .type "ArithmeticError", .type "Exception", .type "BaseException", .type "object"] := xbase_of excBase_OverflowError kxs_OverflowError store_OverflowError
theorem xb_LookupError : XBase "LookupError" "LookupError.__new__" "LookupError.__init__" [.type "LookupError", .type "Exception", .type "BaseException", .type "object"] := xbase_of excBase_LookupError kxs_LookupError store_LookupError
theorem xb_ArithmeticError : XBase "ArithmeticError" "ArithmeticError.__new__" "ArithmeticError.__init__" [.type "ArithmeticError", .type "Exception", .type "BaseException", .type "object"] := xbase_of excBase_ArithmeticError kxs_ArithmeticError store_ArithmeticError
theorem xb_RuntimeError : XBase "RuntimeError" "RuntimeError.__new__" "RuntimeError.__init__" [.type "RuntimeError", .type "Exception", .type "BaseException", .type "object"] := xbase_of excBase_RuntimeError kxs_RuntimeError store_RuntimeError
theorem xb_ValueError : XBase "ValueError" "ValueError.__new__" "ValueError.__init__" [.type "ValueError", .type "Exception", .type "BaseException", .type "object"] := xbase_of excBase_ValueError kxs_ValueError store_ValueError
end HB
namespace HB
open PySem L2 PySem.Spec PyProof.Rows
open PySem.HBX
/-! ### own errors as values -/
section
variable {X : Cx} {C fI : Addr} {xn f vn : Str} {fl : Bool}
/-- X(v), the object itself -/
theorem pe_xnew {a : Expr} {ta : TA} {p pos : Pos} {k : Nat} (T : XTxt X.prog X.w X.K X.mg xn f vn fl C fI) (hvn : vnOk vn = true) (hsg : X.mg "super" = none) (hr : Room k X.A) (ha : PA X [a] ta) (hg : Gl X xn) (hd : (xn == ("__debug__" : Str)) = false)
    (he : starEach (a :: []) X.env = (false, eval a X.env) :: starEach [] X.env) (hpl : (backTo pos (starEach [] X.env)).any (·.1) = false) :
    PE X (.Call (.Name xn p) [a] [] pos) (fun σ H Q => ta σ H fun vs H1 => ∃ v, vs = [v] ∧ pvV fl v ∧ ∀ d e, H1 d = none → H1 e = none → d ≠ e → Q (.ref e) (upd (upd H1 d (.xd [(f, v)])) e (XV (.ref C) (some d) e))) := by
  refine ⟨fun pins s σ H Q I h => ?_⟩
  refine wpAny_Call_Name_kw (ld_glob I hg T.gC ?_ hd)
  refine PySem.W.callWith_K (h₀ := X.base) I.ok.mod.kin T.kC (thn (ha.run pos pins s σ H _ I h) fun us s1 hh => ?_) he hpl
  obtain ⟨vs, H1, I1, r1, v, ev, pvv, q1⟩ := hh
  subst ev
  refine ⟨I1.kIn, ?_⟩
  cases r1 with
  | cons rv rn =>
    rename_i v' us'
    cases rn
    show wpAny _ _ (call (.ref C) [v']) _ _ _
    have hlim := I1.nolimit
    have hG : s1.heap.Ns mainGlobals X.mg := I1.ok.mod.glob.keeps I1.bk
    have hB : ∃ mb, s1.heap.Ns builtinsNs mb ∧ ∀ x : Str, x ≠ "__name__" → mb x = bootBuiltins x := by
      obtain ⟨mb, h1, h2⟩ := I1.ok.mod.blt
      exact ⟨mb, h1.keeps I1.bk, h2⟩
    obtain ⟨hp, g, dr, tk, os⟩ := s1
    refine wpAny_call (x_made T hvn (pv_of pvv rv) hG hB hsg I1.kIn hlim (by have := hr.dp; omega) fun h' tk' e d M => ?_)
    obtain ⟨oe, fv, hoe, hc, hd, hdat, h1⟩ := M.obj
    have hns := M.ns
    obtain ⟨G', g1, g2⟩ := restrict h' fun b => decide (b ≠ e)
    have gk : ∀ b, b ≠ e → G'.get? b = h'.get? b := fun b hb => g1 b (decide_eq_true hb)
    have ge : G'.get? e = none := g2 e (by simp)
    have old : ∀ b o, hp.get? b = some o → G'.get? b = some o := fun b o q => (gk b (Nat.ne_of_lt (Nat.lt_of_lt_of_le (Heap.lt_size q) M.new))).trans (M.keep b o q)
    have ob : ObjOk X.prog X.w (upd H1 d (.xd [(f, v)])) G' d (.xd [(f, v)]) :=
      ⟨_, hns.at (fun o q => (gk d M.dne).trans q), fun y => relO_one rv y⟩
    have J : Inv X pins σ (upd H1 d (.xd [(f, v)])) ⟨G', g, dr, tk', os⟩ := I1.laid (t' := tk') old M.dbig ob
    have hn0 : H1 e = none := I1.hok.fresh M.new
    have hne : upd H1 d (.xd [(f, v)]) e = none := by rw [upd_ne (Ne.symm M.dne)]; exact hn0
    have up : ∀ b o, G'.get? b = some o → h'.get? b = some o := fun b o q => by
      by_cases hb : b = e
      · rw [hb, ge] at q; cases q
      · exact (gk b hb).symm.trans q
    refine ⟨.ref e, _, J.laidN (h' := h') (t' := tk') up ge hne (xv_ok hoe ⟨hc, hd⟩ hdat), rfl, q1 d e (I1.hok.fresh M.dbig) hn0 M.dne⟩
/-- X(v), an own error without __init__ -/
theorem pe_xnew0 {bmB : List Value} {B newId initId : String} {x : Str} {e : Expr} {ta : TA} {p pos : Pos} (F : ExcBaseFacts B newId initId bmB) (q : PySem.W.excIn X.K C bmB newId = true) (gC : X.mg x = some (.ref C)) (kC : PySem.W.keepIn X.K (.ref C) = true) (hg : Gl X x)
    (ha : PA X [e] ta) (hdb : (x == ("__debug__" : Str)) = false) (he : starEach (e :: []) X.env = (false, eval e X.env) :: starEach [] X.env) (hpl : (backTo pos (starEach [] X.env)).any (·.1) = false) :
    PE X (.Call (.Name x p) [e] [] pos) (fun σ H Q => ta σ H fun vs H1 => ∃ v, vs = [v] ∧ ∀ a, H1 a = none → Q (.ref a) (upd H1 a (XV (.ref C) none a))) := by
  refine ⟨fun pins s σ H Q I h => ?_⟩
  refine wpAny_Call_Name_kw (ld_glob I hg gC ?_ hdb)
  refine PySem.W.callWith_K (h₀ := X.base) I.ok.mod.kin kC (thn (ha.run pos pins s σ H _ I h) fun us s1 hh => ?_) he hpl
  obtain ⟨vs, H1, I1, r1, v, ev, q1⟩ := hh
  subst ev
  refine ⟨I1.kIn, ?_⟩
  cases r1 with
  | cons rv rn =>
    rename_i u us'
    cases rn
    show wpAny _ _ (call (.ref C) [u]) _ _ _
    obtain ⟨bm, N, nm, qn, bs, hdct, sn, sub, ab, col, dd, k0, k1, k2, k3, k5, mN, hC, hN, hni, T⟩ := exc_obj I1.kIn q
    refine wpAny_call_exc_subT F T hC hN hni (fun h' a hm => ?_) (by rw [sizeLine_eq]; exact (by decide : 1 ≤ 16777216))
    have hn : H1 a = none := I1.hok.gone hm.new
    obtain ⟨t, ht, _, _⟩ := hm.there
    exact ⟨.ref a, _, I1.laidN hm.keeps hm.new hn (xv_ok ht ⟨rfl, rfl⟩ rfl), rfl, q1 a hn⟩
end
/-! ### what is asked of such a value -/
theorem xv_at {X : Cx} {pins : List (Addr × Obj)} {σ : L2.St} {H : Hp} {s : Shared} {a C : Addr} {d : Option Addr} (I : Inv X pins σ H s) (ha : H a = some (XV (.ref C) d a)) (hd : ∀ dd, d = some dd → ∃ fs, H dd = some (.xd fs)) :
    ∃ oe od, PySem.W.InstAt s.heap a oe C od ∧ ∀ dd fs, d = some dd → H dd = some (.xd fs) → ∃ (o : Obj) (mA : Str → Option Value), od = some o ∧ (∀ n, PySem.W.lookIn n o = some (mA n)) ∧ ∀ n, RelO (fs.lookup n) (mA n) := by
  obtain ⟨⟨oe, vs, ho, hz, hda⟩, _, _⟩ := I.hok a _ ha
  cases d with
  | none =>
    refine ⟨oe, none, ⟨ho, hz.1, by unfold PySem.W.notCls; rw [hda] <;> rfl, ?_⟩, fun dd fs e => nomatch e⟩
    rw [hz.2]
    trivial
  | some dd =>
    obtain ⟨fs, hf⟩ := hd dd rfl
    obtain ⟨mA, hns, hr⟩ := (show ObjOk X.prog X.w H s.heap dd (.xd fs) from I.hok dd _ hf)
    obtain ⟨od, ho2, hl⟩ := lookIn_ns hns
    refine ⟨oe, some od, ⟨ho, hz.1, by unfold PySem.W.notCls; rw [hda] <;> rfl, ?_⟩, fun d2 fs2 e e2 => ?_⟩
    · rw [hz.2]
      exact ho2
    · cases e
      rw [hf] at e2
      cases e2
      exact ⟨od, mA, rfl, hl, hr⟩
/-- what a class must say, so that its errors are asked rightly -/
structure XCl (K : PySem.W.Frag) (C : Addr) : Prop where
  cl : (PySem.W.clsIn K C).isSome = true
  ga : PySem.W.findIn K (.ref C) "__getattribute__" = some (some (.builtin "BaseException.__getattribute__"))
  gt : PySem.W.findIn K (.ref C) "__getattr__" = some none
  sub : PySem.W.subIn K (.ref C) (.type "BaseException") = some true
  ca : PySem.W.findIn K (.ref C) "__class__" = some (some (.builtin "object.__class__"))
  cg : PySem.W.specialIn K (.builtin "object.__class__") "__get__" = some (some (.builtin "getset_descriptor.__get__"))
  tk : PySem.W.takesIn K (.builtin "object.__class__") = some true
  ob : PySem.W.mroIn K C (.type "object") = some true
def rIsV (K : PySem.W.Frag) : List V → Hp → VK → Prop := fun xs H Q => ∃ (a C : Addr) (d : Option Addr) (c : V) (u : Value) (b : Bool), xs = [.ref a, c] ∧ ClsV c u ∧ H a = some (XV (.ref C) d a) ∧ (∀ dd, d = some dd → ∃ fs, H dd = some (.xd fs)) ∧ XCl K C ∧ PySem.W.kitOne K (.ref C) u = some b ∧ Q (.bl b) H
theorem call_isv {X : Cx} : CallR X (.builtin "isinstance") (rIsV X.K) := by
  intro pins s σ H xs us Q I r h
  obtain ⟨a, C, d, c, u, b, rfl, k, ha, hd, T, e, q⟩ := h
  obtain ⟨u1, u2, rfl, r1, r2⟩ := vals2 r
  have e2 := k.eq r2
  subst e2
  cases (show u1 = Value.ref a from r1)
  obtain ⟨oe, od, J, _⟩ := xv_at I ha hd
  exact PySem.W.kia_one (PySem.W.kitx_exc T.cl T.ga T.gt T.sub T.ca T.cg T.tk T.ob) I.kIn J e (fun z => nomatch z) fun tk => ⟨.bl b, H, I.tok tk, rfl, q⟩
/-- e.f -/
theorem pe_xfv {X : Cx} {e : Expr} {te : TE} {pos : Pos} {n : Str} (he : PE X e te) (hb : attributeBase e n X.env (eval e X.env) = eval e X.env) :
    PE X (.Attribute e n pos) (fun σ H Q => te σ H fun x H1 => ∃ a C dd fs v, x = .ref a ∧ H1 a = some (XV (.ref C) (some dd) a) ∧ H1 dd = some (.xd fs) ∧ XfC X.K C ∧ PySem.W.findIn X.K (.ref C) n = some none ∧ fs.lookup n = some v ∧ Q v H1) := by
  refine ⟨fun pins s σ H Q I h => ?_⟩
  refine attr_of hb (thn (he.run pins s σ H _ I h) fun u s1 hh => ?_)
  obtain ⟨x, H1, I1, rx, a, C, dd, fs, v, ex, ha, hd, T, hno, l, q⟩ := hh
  subst ex
  obtain rfl : u = Value.ref a := rx
  obtain ⟨oe, od, J, look⟩ := xv_at I1 ha (fun d2 e => by cases e; exact ⟨fs, hd⟩)
  obtain ⟨o, mA, rfl, hl, hr⟩ := look dd fs rfl hd
  obtain ⟨u, hu, ru⟩ := RelO.some_of (v := v) (o := mA n) (by rw [← l]; exact hr n)
  exact HandSPX.exc_get I1.kIn J T.ga T.gg T.exC (PySem.W.findObj_own T.hdC hno rfl (by rw [hl, hu])) (handed_of ru) ⟨v, H1, I1.tok _, ru, q⟩
/-- str(e), by an own __str__ that raises nothing -/
def rStrV (X : Cx) : List V → Hp → VK → Prop := fun xs H Q => ∃ (a C f : Addr) (d : Option Addr) (fd : FuncData) (ps : List Str) (sp : Sp) (k : Nat), xs = [.ref a] ∧ H a = some (XV (.ref C) d a) ∧ (∀ dd, d = some dd → ∃ fs, H dd = some (.xd fs)) ∧
  FnG X.prog X.w X.K X.mg X.base k f fd ps sp ∧ Room k X.A.in1.in1 ∧ X.A.guards = some [] ∧ Binds X.K fd ps [] ∧ ps.length = 1 ∧ PySem.W.findIn X.K (.ref C) "__str__" = some (some (.ref f)) ∧ PySem.W.isFn X.K (.ref f) = true ∧
  sp [.ref a] H (fun v H' => ∃ y, v = .str y ∧ Q v H') (fun _ _ _ => False)
theorem call_strv {X : Cx} : CallR X (.type "str") (rStrV X) := by
  intro pins s σ H xs us Q I r h
  obtain ⟨a, C, f, d, fd, ps, sp, k, rfl, ha, hd, G, room, gd, hb, hl, hs, hf, q⟩ := h
  cases r with
  | cons rv rn =>
    cases rn
    rename_i u
    cases (show u = Value.ref a from rv)
    obtain ⟨oe, od, J, _⟩ := xv_at I ha hd
    refine PySem.W.kso_call (by have := room.un; omega) I.kIn J hs hf ?_
    have r2 : Vals [V.ref a] [Value.ref a] := .cons rfl .nil
    have e0 : Env0 X.prog X.w X.K X.mg X.base X.A.in1.in1 X.stack s H := { I.env0 with frames := I.env0.frames }
    have b := hb s [.ref a] I.kIn (by rw [hl]; rfl)
    rw [List.append_nil] at b
    have go := G X.A.in1.in1 X.stack s H ⟨[.ref a], []⟩ [.ref a] [.ref a] _ _ room gd e0 b r2 hl.symm q
    refine wpAny_call (codeAny_mono go ?_)
    rintro (e | fl) s2 hq
    · obtain ⟨_, _, _, _, _, _, _, _, _, _, _, _, no⟩ := (show L2.CX X.prog X.w X.stack H s (fun _ _ _ => False) e s2 from hq)
      exact no.elim
    · cases fl
      case ret u =>
        obtain ⟨v, H', I', rv', y, rfl, q'⟩ := I.after hq
        obtain ⟨t, rfl⟩ := (show ∃ t, u = Value.str y t from rv')
        exact ⟨_, H', I', rv', q'⟩
      all_goals exact hq.elim
end HB
namespace HB
open PySem L2

/-! ### the text without places -/
inductive BOp where
  | add | sub | mul | fdiv | mod | pow
inductive COp where
  | eq | ne | lt | le | gt | ge | isN | notN | inn | notIn
inductive BF where
  | abs | max | min | sum | int | str | len | all | any | tuple | list | listM | repr
inductive G where
  | name (i : Nat) | tup (gs : G) | nil | cons (g gs : G)
/-- a call whose arguments are all made ahead -/
inductive Pr where
  | xnew (n f : Str) (fl : Bool) | xnew0 (n : Str) | strx (tbl : List (Str × Nat))
/-- what is asked of a receiver -/
inductive Mr where
  | fldx (f : Str) (cs : List Str) | isx (c : Str) (tbl : List (Str × Bool)) | get2 | lrng | lstr
inductive T where
  | prm (p : Pr) (es : T) | mth (p : Mr) (a es : T) | dcte (es : T)
  | var (i : Nat) | non | bl (b : Bool) | int (i : Int) | str (x : Str) | gint (x : Str) (i : Int)
  | bin (o : BOp) (a b : T) | neg (a : T) | cmp (o : COp) (a b : T) | chain (o p : COp) (a b c : T)
  | and (a b : T) | or (a b : T) | not (a : T) | ite (c a b : T)
  | tup (es : T) | lst (es : T) | lstM (es : T) | nil | cons (a es : T)
  | ix (a b : T) | sl (a lo hi : T) | noP
  | call (j : Nat) (es : T) | blt (b : BF) (es : T) | isi (a : T) (c : String) | join (a b : T) | popAt (a b : T)
  | dct0 | dctI (k v : Int)
  | rng1 (a : T) | rng2 (a b : T) | lc (own : List (Str × Nat)) (g : G) (it c e : T)
def bopD : BOp → D → D → M → R D
  | .add => addD | .sub => subD | .mul => mulD | .fdiv => fdivD | .mod => modD | .pow => powD
def bopO : BOp → Operator
  | .add => .Add | .sub => .Sub | .mul => .Mult | .fdiv => .FloorDiv | .mod => .Mod | .pow => .Pow
def copD : COp → D → D → M → R D
  | .eq => eqD | .ne => neD | .lt => ltD | .le => leD | .gt => gtD | .ge => geD | .isN => isND | .notN => notND | .inn => inD | .notIn => notInD
def copO : COp → CmpOp
  | .eq => .Eq | .ne => .NotEq | .lt => .Lt | .le => .LtE | .gt => .Gt | .ge => .GtE | .isN => .Is | .notN => .IsNot | .inn => .In | .notIn => .NotIn
def bfD : BF → List D → M → R D
  | .abs => absD | .max => maxD | .min => minD | .sum => sumD | .int => intD | .str => strD | .len => lenD | .all => allD | .any => anyD | .tuple => tupleD | .list => listD | .listM => listMD | .repr => reprD
def bfX : BF → Str
  | .abs => "abs" | .max => "max" | .min => "min" | .sum => "sum" | .int => "int" | .str => "str" | .len => "len" | .all => "all" | .any => "any" | .tuple => "tuple" | .list => "list" | .listM => "list" | .repr => "repr"
def bfV : BF → Value
  | .abs => .builtin "abs" | .max => .builtin "max" | .min => .builtin "min" | .sum => .builtin "sum" | .int => .type "int" | .str => .type "str" | .len => .builtin "len" | .all => .builtin "all" | .any => .builtin "any"
  | .tuple => .type "tuple" | .list => .type "list" | .listM => .type "list" | .repr => .builtin "repr"
/-- names of the built-ins that the text may use -/
def bltAll : List Str := ["abs", "max", "min", "sum", "int", "str", "len", "all", "any", "tuple", "list", "repr", "isinstance", "bool", "dict", "range", "zip", "enumerate", "sorted", "set", "reversed", "iter", "next", "super"]

/-! ### targets -/
mutual
def asgG : G → D → Env → Option Env
  | .name i, d, env => some (env.set i (some d))
  | .tup gs, .tup ds, env => asgGs gs ds env
  | _, _, _ => none
def asgGs : G → List D → Env → Option Env
  | .nil, [], env => some env
  | .cons g gs, d :: ds, env => match asgG g d env with
    | some env2 => asgGs gs ds env2
    | none => none
  | _, _, _ => none
end
def gSlots : G → List Nat
  | .name i => [i]
  | .tup gs => gSlots gs
  | .nil => []
  | .cons g gs => gSlots g ++ gSlots gs
/-! ### what is walked -/
def viewI (d : D) (m : M) : Option (List D) := match d with
  | .tup ds => some ds
  | .lst ds => some ds
  | .scr ns => some (ns.map D.int)
  | .str x => some (x.cps.toList.map fun c => D.str ⟨#[c]⟩)
  | _ => none
def rngD (ds : List D) (m : M) : R D := match ds with
  | [.int j] => if -(2 ^ 62) ≤ j ∧ j < 2 ^ 62 then .ok (.lst ((List.range j.toNat).map fun (i : Nat) => D.int (i : Int))) m else .no
  | [.int i, .int j] => if -(2 ^ 62) ≤ i ∧ i < 2 ^ 62 ∧ -(2 ^ 62) ≤ j ∧ j < 2 ^ 62 then .ok (.lst ((List.range (j - i).toNat).map fun (n : Nat) => D.int (i + (n : Int)))) m else .no
  | _ => .no
def ixD (d e : D) (m : M) : R D := match e with
  | .int i => match d with
    | .str x => if x.length ≤ sizeLine then
        match atI x.cps.toList i with
        | some c => .ok (.str ⟨#[c]⟩) m
        | none => .no
      else .no
    | d => match viewQ d m with
      | some ds => match atI ds i with
        | some e => .ok e m
        | none => .no
      | none => .no
  | _ => .no
def cutD (xs : List D) (lo hi : Option Int) : List D := (xs.drop (HT.sIx xs.length 0 lo)).take (HT.sIx xs.length xs.length hi - HT.sIx xs.length 0 lo)
def slD (d : D) (lo hi : Option Int) (m : M) : R D := match d with
  | .str x => if x.length ≤ sizeLine then .ok (.str (cutS x lo hi)) m else .no
  | .tup ds => .ok (.tup (cutD ds lo hi)) m
  | d => match viewS d m with
    | some ds => .ok (.lst (cutD ds lo hi)) m
    | none => .no
def joinD (d e : D) (m : M) : R D := match d with
  | .str a => match (viewQ e m).bind asStrs with
    | some ys => if (ys.map (·.length)).sum + ys.length * a.length ≤ 16777216 then .ok (.str (Txt.join a ys)) m else .no
    | none => .no
  | _ => .no
def popAtD (d e : D) (m : M) : R D := match d, e with
  | .ref k, .int i => match m[k]? with
    | some (.lst ds) => if -(2 ^ 63) ≤ i ∧ i < 2 ^ 63 then
        match seqIndex? i ds.length with
        | some j => match ds[j]? with
          | some y => .ok y (m.set k (.lst (ds.eraseIdx j)))
          | none => .no
        | none => .no
      else .no
    | _ => .no
  | _, _ => .no
def isiD (d : D) (c : String) (m : M) : R D := match tyD d m with
  | some t => match kitB t c with
    | some b => .ok (.bl b) m
    | none => .no
  | none => .no
/-- the new list of a comprehension -/
def lcGo (step : D → M → R (Option D)) : List D → List D → M → R (List D)
  | [], acc, m => .ok acc m
  | x :: xs, acc, m => match step x m with
    | .ok (some y) m => lcGo step xs (acc ++ [y]) m
    | .ok none m => lcGo step xs acc m
    | _ => .no
def partD (r : R D) (m : M) : R (Option Int) := match r with
  | .ok (.int i) m => .ok (some i) m
  | .ok _ _ => .no
  | .ex c m => .ex c m
  | .no => .no
def isNoP : T → Bool
  | .noP => true
  | _ => false
def pvD : Bool → D → Bool
  | false, _ => true
  | true, .str y => decide (y.length ≤ 1000000)
  | true, .int i => decide (i.natAbs.log2 < 1920)
  | true, _ => false
def strR (r : R D) : R D := match r with
  | .ok (.str x) m => .ok (.str x) m
  | _ => .no
def prD (fs : List Sem) : Pr → List D → M → R D
  | .xnew n f fl, [d], m => if pvD fl d then .ok (.exv n [(f, d)]) m else .no
  | .xnew0 n, [_], m => .ok (.exv n []) m
  | .strx tbl, [.exv n gs], m => match tbl.lookup n with
    | some j => match fs[j]? with
      | some sem => strR (callD sem [.exv n gs] m)
      | none => .no
    | none => .no
  | _, _, _ => .no
/-- the keys that a dict may have here -/
def keyOf : D → Option Key
  | .int i => some (.inl i)
  | .str x => some (.inr x)
  | _ => none
def isDct : D → Bool
  | .dct _ => true
  | _ => false
def keysOf : List (D × D) → Option (List (Key × D))
  | [] => some []
  | (k, d) :: r => match keyOf k, keysOf r with
    | some k, some r => some ((k, d) :: r)
    | _, _ => none
def findK (kvs : List (Key × D)) (k : Key) : Option D := (kvs.find? fun kv => decide (kv.1 = k)).map (·.2)
def putD (kvs : List (Key × D)) (k : Key) (v : D) : List (Key × D) := if kvs.any (fun kv => decide (kv.1 = k)) then kvs.map fun kv => if kv.1 = k then (kv.1, v) else kv else kvs ++ [(k, v)]
def dctOf (kvs : List (Key × D)) : D := .dct (kvs.map fun kv => (keyD kv.1, kv.2))
def mrG : Mr → D → M → Bool
  | .fldx _ _, _, _ => true
  | .isx _ _, _, _ => true
  | .lrng, _, _ => true
  | .lstr, _, _ => true
  | .get2, d, _ => isDct d
def mrD (fs : List Sem) : Mr → D → List D → M → R D
  | .fldx f cs, .exv n gs, [], m => if cs.contains n then match gs.lookup f with
      | some d => .ok d m
      | none => .no
    else .no
  | .isx _ tbl, .exv n _, [], m => match tbl.lookup n with
    | some b => .ok (.bl b) m
    | none => .no
  | .lrng, .int j, [], m => if -(2 ^ 62) ≤ j ∧ j ≤ 16777216 then .ok (.lst ((List.range j.toNat).map fun (i : Nat) => D.int (i : Int))) m else .no
  | .lstr, .str x, [], m => if x.cps.size ≤ sizeLine then .ok (.lst (x.cps.toList.map fun c => D.str ⟨#[c]⟩)) m else .no
  | .get2, .dct kvs, [k, v], m => match keyOf k, keysOf kvs with
    | some k, some (p :: ps) => .ok ((findK (p :: ps) k).getD v) m
    | _, _ => .no
  | _, _, _, _ => .no
/-- the pairs of a dict display -/
def pairsD : List D → Option (List (Key × D))
  | [] => some []
  | k :: v :: r => match keyOf k, pairsD r with
    | some k, some r => some ((k, v) :: r)
    | _, _ => none
  | _ => none
def dcteD (ds : List D) (m : M) : R D := match pairsD ds with
  | some kvs => .ok (dctOf (kvs.foldl (fun acc kv => putD acc kv.1 kv.2) [])) m
  | none => .no
mutual
def evE (fs : List Sem) : T → Env → M → R D
  | .prm p es, env, m => (evA fs es env m).bind fun ds m => prD fs p ds m
  | .mth p a es, env, m => (evE fs a env m).bind fun d m => if mrG p d m then (evA fs es env m).bind fun ds m => mrD fs p d ds m else .no
  | .dcte es, env, m => (evA fs es env m).bind fun ds m => dcteD ds m
  | .var i, env, m => match env[i]? with
    | some (some d) => .ok d m
    | _ => .no
  | .non, _, m => .ok .non m
  | .bl b, _, m => .ok (.bl b) m
  | .int i, _, m => .ok (.int i) m
  | .str x, _, m => .ok (.str x) m
  | .gint _ i, _, m => .ok (.int i) m
  | .bin o a b, env, m => (evE fs a env m).bind fun d m => (evE fs b env m).bind fun e m => bopD o d e m
  | .neg a, env, m => (evE fs a env m).bind fun d m => match d with
    | .int i => .ok (.int (-i)) m
    | _ => .no
  | .cmp o a b, env, m => (evE fs a env m).bind fun d m => (evE fs b env m).bind fun e m => copD o d e m
  | .chain o p a b c, env, m => (evE fs a env m).bind fun d m => (evE fs b env m).bind fun e m => (copD o d e m).bind fun t m => match t with
    | .bl true => (evE fs c env m).bind fun g m => copD p e g m
    | .bl false => .ok (.bl false) m
    | _ => .no
  | .and a b, env, m => (evE fs a env m).bind fun d m => (truthB d m).bind fun t m => if t then evE fs b env m else .ok d m
  | .or a b, env, m => (evE fs a env m).bind fun d m => (truthB d m).bind fun t m => if t then .ok d m else evE fs b env m
  | .not a, env, m => (evE fs a env m).bind fun d m => (truthB d m).bind fun t m => .ok (.bl (!t)) m
  | .ite c a b, env, m => (evE fs c env m).bind fun d m => (truthB d m).bind fun t m => if t then evE fs a env m else evE fs b env m
  | .tup es, env, m => (evA fs es env m).bind fun ds m => if ds.length ≤ sizeLine then .ok (.tup ds) m else .no
  | .lst es, env, m => (evA fs es env m).bind fun ds m => if ds.length ≤ sizeLine then .ok (.lst ds) m else .no
  | .lstM es, env, m => (evA fs es env m).bind fun ds m => if ds.length ≤ sizeLine then .ok (.ref m.length) (m ++ [.lst ds]) else .no
  | .nil, _, _ => .no
  | .cons _ _, _, _ => .no
  | .ix a b, env, m => (evE fs a env m).bind fun d m => (evE fs b env m).bind fun e m => ixD d e m
  | .sl a lo hi, env, m => (evE fs a env m).bind fun d m => (if isNoP lo then R.ok none m else partD (evE fs lo env m) m).bind fun l m => (if isNoP hi then R.ok none m else partD (evE fs hi env m) m).bind fun h m => slD d l h m
  | .noP, _, _ => .no
  | .call j es, env, m => (evA fs es env m).bind fun ds m => match fs[j]? with
    | some sem => callD sem ds m
    | none => .no
  | .blt b es, env, m => (evA fs es env m).bind fun ds m => bfD b ds m
  | .isi a c, env, m => (evE fs a env m).bind fun d m => isiD d c m
  | .join a b, env, m => (evE fs a env m).bind fun d m => match d with
    | .str x => (evE fs b env m).bind fun e m => joinD (.str x) e m
    | _ => .no
  | .popAt a b, env, m => (evE fs a env m).bind fun d m => match d with
    | .ref k => match m[k]? with
      | some (.lst _) => (evE fs b env m).bind fun e m => popAtD (.ref k) e m
      | _ => .no
    | _ => .no
  | .dct0, _, m => .ok (.dct []) m
  | .dctI k v, _, m => .ok (.dct [(.int k, .int v)]) m
  | .rng1 a, env, m => (evE fs a env m).bind fun d m => rngD [d] m
  | .rng2 a b, env, m => (evE fs a env m).bind fun d m => (evE fs b env m).bind fun e m => rngD [d, e] m
  | .lc own g it c e, env, m => (evE fs it env m).bind fun d m => match viewI d m with
    | some xs => if xs.length ≤ sizeLine then
        (lcGo (fun x m => match asgG g x (wipeD env (own.map (·.2))) with
          | some env2 => (if isNoP c then R.ok true m else (evE fs c env2 m).bind truthB).bind fun t m => if t then (evE fs e env2 m).bind fun y m => .ok (some y) m else .ok none m
          | none => .no) xs [] m).bind fun ys m => .ok (.lst ys) m
      else .no
    | none => .no
def evA (fs : List Sem) : T → Env → M → R (List D)
  | .nil, _, m => .ok [] m
  | .cons a es, env, m => (evE fs a env m).bind fun d m => (evA fs es env m).bind fun ds m => .ok (d :: ds) m
  | _, _, _ => .no
end
def evT (fs : List Sem) (e : T) (env : Env) (m : M) : R Bool := (evE fs e env m).bind truthB

/-! ### does the text stand there -/
/-- the tables of a program: whole numbers, errors with a field, who is whose kin -/
structure Tb where
  gints : List (Str × Int) := []
  xcs : List (Str × Str × Bool) := []
  xsub : List (Str × Str × Bool) := []
  xc0 : List Str := []
  xis : List (Str × Str × Bool) := []
structure Ck where
  N : List Str
  sc : Scope
  raw : Option Scope
  fns : List (Str × Nat)
  mths : List (Str × Str × Nat)
  tb : Tb
def visB (sc : Scope) (x : Str) : Bool := match sc.names.lookup x with
  | some .local => true
  | some .cell => true
  | some .free => true
  | _ => false
def okN (x : Str) : Bool := !(x == ("__debug__" : Str)) && !(x == ("__classdict__" : Str)) && decide (x ≠ "__name__")
def glB (sc : Scope) (x : Str) : Bool := decide (sc.names.lookup x = some .globalImplicit) && okN x
def plainB : Expr → Bool
  | .Starred _ _ => false
  | _ => true
def noSliceB : Expr → Bool
  | .Slice _ _ _ _ => false
  | _ => true
def noCall0 : Expr → Bool
  | .Call (.Name _ _) [] [] _ => false
  | _ => true
def noSet : Expr → Bool
  | .Set _ _ _ => false
  | _ => true
def locB (C : Ck) (x : Str) : Bool := match C.sc.names.lookup x with
  | some .local => true
  | some .cell => match C.raw with
    | none => true
    | some s => decide (s.names.lookup x = some .cell)
  | _ => false
mutual
def chkG (C : Ck) : G → Expr → Bool
  | .name i, .Name x _ => decide (C.N[i]? = some x) && locB C x
  | .tup gs, .Tuple es _ _ => chkGs C gs es
  | _, _ => false
def chkGs (C : Ck) : G → List Expr → Bool
  | .nil, [] => true
  | .cons g gs, e :: es => plainB e && chkG C g e && chkGs C gs es
  | _, _ => false
end
def prC (C : Ck) : Pr → Expr → Option (List Expr)
  | .xnew n f fl, .Call (.Name x _) [p] [] _ => if decide (x = n) && glB C.sc x && plainB p && C.tb.xcs.contains (n, f, fl) then some [p] else none
  | .xnew0 n, .Call (.Name x _) [p] [] _ => if decide (x = n) && glB C.sc x && plainB p && C.tb.xc0.contains n then some [p] else none
  | .strx tbl, .Call (.Name x _) [p] [] _ => if decide (x = "str") && glB C.sc x && plainB p && tbl.all (fun r => decide (C.fns.length ≤ r.2) && decide (C.mths[r.2 - C.fns.length]? = some (r.1, ("__str__" : Str), 1))) then some [p] else none
  | _, _ => none
def mrC (C : Ck) : Mr → Expr → Option (Expr × List Expr)
  | .fldx f cs, .Attribute p g _ => if decide (g = f) && noCall0 p && cs.all (fun c => C.tb.xcs.contains (c, f, false) || C.tb.xcs.contains (c, f, true)) then some (p, []) else none
  | .isx c tbl, .Call (.Name x _) [p, .Name y _] [] _ => if decide (x = "isinstance") && glB C.sc x && plainB p && glB C.sc y && decide (y = c) && tbl.all (fun r => C.tb.xis.contains (r.1, c, r.2)) then some (p, []) else none
  | .lrng, .Call (.Name x _) [.Call (.Name y _) [p] [] _] [] _ => if decide (x = "list") && glB C.sc x && decide (y = "range") && glB C.sc y && plainB p then some (p, []) else none
  | .lstr, .Call (.Name x _) [p] [] _ => if decide (x = "list") && glB C.sc x && plainB p then some (p, []) else none
  | .get2, .Call (.Attribute p x ap) [q, r] [] pos => if decide (x = "get") && noCall0 p && plainB q && plainB r && (ap.endLine == pos.line) then some (p, [q, r]) else none
  | _, _ => none
def flatPairs : List (Option Expr) → List Expr → Option (List Expr)
  | [], [] => some []
  | some k :: ks, v :: vs => (flatPairs ks vs).map fun r => k :: v :: r
  | _, _ => none
def clsNames : List String := ["int", "bool", "str", "tuple", "list", "dict"]
mutual
def chk (C : Ck) : T → Expr → Bool
  | .prm p es, e => match prC C p e with
    | some ps => chkA C es ps
    | none => false
  | .mth p a es, e => match mrC C p e with
    | some (q, ps) => chk C a q && chkA C es ps
    | none => false
  | .dcte es, .Dict ks vs _ => match flatPairs ks vs with
    | some ps => decide (ks ≠ []) && decide (ks.length ≤ 15) && chkA C es ps
    | none => false
  | .var i, .Name x _ => decide (C.N[i]? = some x) && visB C.sc x && okN x
  | .non, .Constant .none _ _ => true
  | .bl b, .Constant (.bool c) _ _ => b == c
  | .int i, .Constant (.int j) _ _ => i == j
  | .str x, .Constant (.str y) _ _ => decide (x = y)
  | .gint x i, .Name y _ => decide (x = y) && glB C.sc y && decide ((x, i) ∈ C.tb.gints)
  | .bin o a b, .BinOp p q r _ => decide (q = bopO o) && chk C a p && chk C b r
  | .neg a, .UnaryOp .USub p _ => chk C a p
  | .not a, .UnaryOp .Not p _ => chk C a p
  | .cmp o a b, .Compare p [q] [r] _ => decide (q = copO o) && !(behindInMarks q r) && chk C a p && chk C b r
  | .chain o o2 a b c, .Compare p [q, q2] [r, r2] _ => decide (q = copO o) && decide (q2 = copO o2) && !(behindInMarks q2 r2) && chk C a p && chk C b r && chk C c r2
  | .and a b, .BoolOp .And (p :: q :: rest) pos => chk C a p && (if rest.isEmpty then chk C b q else chk C b (.BoolOp .And (q :: rest) pos))
  | .or a b, .BoolOp .Or (p :: q :: rest) pos => chk C a p && (if rest.isEmpty then chk C b q else chk C b (.BoolOp .Or (q :: rest) pos))
  | .ite c a b, .IfExp p q r _ => chk C c p && chk C a q && chk C b r
  | .tup es, .Tuple ps _ _ => chkA C es ps
  | .lst es, .List ps _ => chkA C es ps
  | .lstM es, .List ps _ => chkA C es ps
  | .ix a b, .Subscript p q _ => noSliceB q && chk C a p && chk C b q
  | .sl a lo hi, .Subscript p (.Slice l h none _) _ => chk C a p && (match l with
        | none => isNoP lo
        | some q => !isNoP lo && chk C lo q) && (match h with
        | none => isNoP hi
        | some q => !isNoP hi && chk C hi q)
  | .call j es, .Call (.Name x _) ps [] _ => decide (C.fns[j]? = some (x, ps.length)) && glB C.sc x && chkA C es ps
  | .blt b es, .Call (.Name x _) (p :: ps) [] _ => decide (x = bfX b) && glB C.sc x && chkA C es (p :: ps)
  | .isi a c, .Call (.Name x _) [p, .Name y _] [] _ => decide (x = "isinstance") && glB C.sc x && plainB p && glB C.sc y && decide (y = Str.ofString c) && decide (c ∈ clsNames) && chk C a p
  | .join a b, .Call (.Attribute p x ap) [q] [] pos => decide (x = "join") && noCall0 p && plainB q && (ap.endLine == pos.line) && chk C a p && chk C b q
  | .popAt a b, .Call (.Attribute p x ap) [q] [] pos => decide (x = "pop") && noCall0 p && plainB q && (ap.endLine == pos.line) && chk C a p && chk C b q
  | .dct0, .Dict [] [] _ => true
  | .dctI k v, .Dict [some (.Constant (.int i) _ _)] [.Constant (.int j) _ _] _ => decide (k = i) && decide (v = j)
  | .lc own g it c e, .ListComp elt [⟨tg, iter, ifs, asy⟩] scope _ => decide (asy = 0) && (match it, iter with
        | .rng1 a, .Call (.Name x _) [p] [] _ => decide (x = "range") && glB C.sc x && plainB p && chk C a p
        | .rng2 a b, .Call (.Name x _) [p, q] [] _ => decide (x = "range") && glB C.sc x && plainB p && plainB q && chk C a p && chk C b q
        | a, p => chk C a p) && noSet iter && blkC C.N C.sc scope own && chkG { C with sc := relS scope C.sc, raw := some scope } g tg && (gSlots g).all (fun i => (own.map (·.2)).contains i) &&
      (match ifs with
        | [] => isNoP c
        | [q] => !isNoP c && chk { C with sc := relS scope C.sc, raw := some scope } c q
        | _ => false) && chk { C with sc := relS scope C.sc, raw := some scope } e elt
  | _, _ => false
def chkA (C : Ck) : T → List Expr → Bool
  | .nil, [] => true
  | .cons a es, p :: ps => plainB p && chk C a p && chkA C es ps
  | _, _ => false
end
def chkI (C : Ck) (it : T) (iter : Expr) : Bool := match it, iter with
  | .rng1 a, .Call (.Name x _) [p] [] _ => decide (x = "range") && glB C.sc x && plainB p && chk C a p
  | .rng2 a b, .Call (.Name x _) [p, q] [] _ => decide (x = "range") && glB C.sc x && plainB p && plainB q && chk C a p && chk C b q
  | a, p => chk C a p
end HB
namespace HB
open PySem L2

/-! ### what stands around -/
def Callee (P : Program) (w : World) (K : PySem.W.Frag) (mg : Str → Option Value) (base : Heap) (k : Nat) (x : Str) (n : Nat) (sem : Sem) : Prop :=
  ∃ (f : Addr) (fd : FuncData) (ps : List Str), mg x = some (.ref f) ∧ PySem.W.keepIn K (.ref f) = true ∧ Binds K fd ps [] ∧ ps.length = n ∧ FnG P w K mg base k f fd ps (spD K mg n sem)
/-- a method of an own class -/
def Mth (P : Program) (w : World) (K : PySem.W.Frag) (mg : Str → Option Value) (base : Heap) (k : Nat) (c y : Str) (n : Nat) (sem : Sem) : Prop :=
  ∃ (C f : Addr) (fd : FuncData) (ps : List Str) (j : Nat), mg c = some (.ref C) ∧ PySem.W.findIn K (.ref C) y = some (some (.ref f)) ∧ PySem.W.isFn K (.ref f) = true ∧ PySem.W.keepIn K (.ref f) = true ∧ Binds K fd ps [] ∧ ps.length = n ∧ j + 2 ≤ k ∧ FnG P w K mg base j f fd ps (spD K mg n sem)
/-- the tables are right -/
structure TbOk (P : Program) (w : World) (K : PySem.W.Frag) (mg : Str → Option Value) (tb : Tb) : Prop where
  gi : ∀ x i, (x, i) ∈ tb.gints → ∃ t, mg x = some (.int i t)
  xok : ∀ x f fl, (x, f, fl) ∈ tb.xcs → XOk P w K mg x f fl
  xsb : ∀ r x b, (r, x, b) ∈ tb.xsub → ∃ A B, mg r = some (.ref A) ∧ mg x = some (.ref B) ∧ PySem.W.exmOne K (.ref A) (.ref B) = some b
  xo0 : ∀ x ∈ tb.xc0, XOk0 K mg x
  xis : ∀ r c b, (r, c, b) ∈ tb.xis → ∃ A, mg r = some (.ref A) ∧ XCl K A ∧ ((∃ B, mg c = some (.ref B) ∧ PySem.W.kitOne K (.ref A) (.ref B) = some b) ∨ ∃ z, mg c = none ∧ bootBuiltins c = some (.type z) ∧ PySem.W.kitOne K (.ref A) (.type z) = some b)
  sup : mg "super" = none
structure GdE (X : Cx) (W : WX) (C : Ck) (fs : List Sem) (k : Nat) : Prop where
  N : X.N = C.N
  sc : X.env.scope = C.sc
  fn : ∀ x, (match C.raw with
    | none => True
    | some s => s.names.lookup x = some .cell) → X.fn x = true
  nd : X.N.Nodup
  calm : X.calm = true
  room : Room k X.A
  gd : X.A.guards = some []
  tk : Takes X W
  fl : C.fns.length ≤ fs.length
  fok : ∀ (j : Nat) x n sem, C.fns[j]? = some (x, n) → fs[j]? = some sem → Callee X.prog X.w X.K X.mg X.base k x n sem
  mok : ∀ (j : Nat) c y n sem, C.mths[j]? = some (c, y, n) → fs[C.fns.length + j]? = some sem → Mth X.prog X.w X.K X.mg X.base k c y n sem
  tb : TbOk X.prog X.w X.K X.mg C.tb
  bs : ∃ o, X.base.get? sysModules = some o
  nob : ∀ x ∈ bltAll, X.mg x = none
theorem RdE.of0 {K : PySem.W.Frag} {mg : Str → Option Value} {W : WX} {σ : L2.St} {rho : List Addr} {F H : Hp} {Q : VK} {r : R D} (h : RdE K mg W σ (relD K mg) rho F H Q r) (n : ∀ c m, r ≠ .ex c m) : RdO K mg rho F H Q r := by
  cases r with
  | ok d m => exact h
  | ex c m => exact absurd rfl (n c m)
  | no => exact h
section
variable {X : Cx} {W : WX}
/-! ### the single steps -/
theorem step_var {i : Nat} {se : SE} (hse : ∀ env m, se env m = match env[i]? with
    | some (some d) => .ok d m
    | _ => .no) : ∀ σ H Q, tE X W se σ H Q → tVar i σ H Q := by
  rintro σ H Q ⟨rho, F, env, m, A, En, h⟩
  rw [hse] at h
  split at h
  · rename_i d e
    obtain ⟨v, hv, r⟩ := En.2 i d e
    exact ⟨v, hv, h v _ _ _ Step.refl A r⟩
  · exact h.elim
theorem step_c {v : V} {d : D} {se : SE} (hse : ∀ env m, se env m = .ok d m) (hr : ∀ rho F, Rp X.K X.mg rho F v d) : ∀ σ H Q, tE X W se σ H Q → tC v σ H Q := by
  rintro σ H Q ⟨rho, F, env, m, A, En, h⟩
  rw [hse] at h
  exact h v _ _ _ Step.refl A (hr rho F)
/-- two operands, then an operator by data that raises nothing -/
theorem step_op {f : Value → Value → PySem.Sem Value} {g : D → D → M → R D} {sa sb : SE} {r : R2} (hr : r = fun x y H Q => ∃ rho F m d e, Abs X.K X.mg rho F H m ∧ Rp X.K X.mg rho F x d ∧ Rp X.K X.mg rho F y e ∧ RdO X.K X.mg rho F H Q (g d e m))
    (nx : ∀ d e m c m', g d e m ≠ .ex c m') :
    ∀ σ H Q, tE X W (fun env m => (sa env m).bind fun d m => (sb env m).bind fun e m => g d e m) σ H Q → tOp r (tE X W sa) (tE X W sb) σ H Q := by
  rintro σ H Q ⟨rho, F, env, m, A, En, h⟩
  refine ⟨rho, F, env, m, A, En, RdE.bind h fun d m1 v r1 F1 H1 s1 A1 q1 h1 => ?_⟩
  refine ⟨r1, F1, env, m1, A1, En.mono s1.onto, RdE.bind h1 fun e m2 u r2 F2 H2 s2 A2 q2 h2 => ?_⟩
  rw [hr]
  exact ⟨r2, F2, m2, d, e, A2, q1.mono s2.onto, q2, h2.of0 fun c m' => nx d e m2 c m'⟩
/-- one operand -/
theorem step_un {g : D → M → R D} {sa : SE} {r : V → Hp → VK → Prop} (hr : ∀ rho F H m d x Q, Abs X.K X.mg rho F H m → Rp X.K X.mg rho F x d → RdE X.K X.mg W [] (relD X.K X.mg) rho F H Q (g d m) → r x H Q) (nx : ∀ d m c m', g d m ≠ .ex c m') :
    ∀ σ H Q, tE X W (fun env m => (sa env m).bind fun d m => g d m) σ H Q → tUn r (tE X W sa) σ H Q := by
  rintro σ H Q ⟨rho, F, env, m, A, En, h⟩
  refine ⟨rho, F, env, m, A, En, RdE.bind h fun d m1 v r1 F1 H1 s1 A1 q1 h1 => ?_⟩
  refine hr r1 F1 H1 m1 d v Q A1 q1 ?_
  cases e : g d m1 with
  | ok d m => rw [e] at h1; exact h1
  | ex c m => exact absurd e (nx _ _ _ _)
  | no => rw [e] at h1; exact h1
theorem truth_m {d : D} {m m' : M} {b : Bool} (h : truthB d m = .ok b m') : m' = m := by
  unfold truthB at h
  split at h
  · cases h; rfl
  · cases h; rfl
  · cases h; rfl
  · split at h <;> cases h; rfl
  · split at h <;> cases h; rfl
/-- a value by its truth -/
theorem step_truth {sa : SE} : ∀ σ H Q, tT X W (fun env m => (sa env m).bind truthB) σ H Q → (tE X W sa) σ H (fun x H1 => ∃ k, TruV X.K x H1 k ∧ Q k H1) := by
  rintro σ H Q ⟨rho, F, env, m, A, En, h⟩
  refine ⟨rho, F, env, m, A, En, RdE.bind h fun d m1 v r1 F1 H1 s1 A1 q1 h1 => ?_⟩
  cases e : truthB d m1 with
  | ok b m2 =>
    rw [e] at h1
    obtain ⟨t1, rfl⟩ := truth_of A1 q1 e
    exact ⟨b, t1, h1 b _ _ _ Step.refl A1 rfl⟩
  | ex c m2 => exact absurd e truth_noex
  | no => rw [e] at h1; exact h1.elim
theorem step_and {sa sb : SE} : ∀ σ H Q, tE X W (fun env m => (sa env m).bind fun d m => (truthB d m).bind fun t m => if t then sb env m else .ok d m) σ H Q → tAndT X.K (tE X W sa) (tE X W sb) σ H Q := by
  rintro σ H Q ⟨rho, F, env, m, A, En, h⟩
  refine ⟨rho, F, env, m, A, En, RdE.bind h fun d m1 v r1 F1 H1 s1 A1 q1 h1 => ?_⟩
  cases e : truthB d m1 with
  | ok b m2 =>
    rw [e] at h1
    obtain ⟨t1, rfl⟩ := truth_of A1 q1 e
    refine ⟨b, t1, ?_⟩
    cases b with
    | true => exact iteT ⟨r1, F1, env, m2, A1, En.mono s1.onto, h1⟩
    | false => exact iteF (h1 v _ _ _ Step.refl A1 q1)
  | ex c m2 => exact absurd e truth_noex
  | no => rw [e] at h1; exact h1.elim
theorem step_or {sa sb : SE} : ∀ σ H Q, tE X W (fun env m => (sa env m).bind fun d m => (truthB d m).bind fun t m => if t then .ok d m else sb env m) σ H Q → tOrT X.K (tE X W sa) (tE X W sb) σ H Q := by
  rintro σ H Q ⟨rho, F, env, m, A, En, h⟩
  refine ⟨rho, F, env, m, A, En, RdE.bind h fun d m1 v r1 F1 H1 s1 A1 q1 h1 => ?_⟩
  cases e : truthB d m1 with
  | ok b m2 =>
    rw [e] at h1
    obtain ⟨t1, rfl⟩ := truth_of A1 q1 e
    refine ⟨b, t1, ?_⟩
    cases b with
    | true => exact iteT (h1 v _ _ _ Step.refl A1 q1)
    | false => exact iteF ⟨r1, F1, env, m2, A1, En.mono s1.onto, h1⟩
  | ex c m2 => exact absurd e truth_noex
  | no => rw [e] at h1; exact h1.elim
theorem step_not {sa : SE} : ∀ σ H Q, tE X W (fun env m => (sa env m).bind fun d m => (truthB d m).bind fun t m => .ok (.bl (!t)) m) σ H Q → tNotT X.K (tE X W sa) σ H Q := by
  rintro σ H Q ⟨rho, F, env, m, A, En, h⟩
  refine ⟨rho, F, env, m, A, En, RdE.bind h fun d m1 v r1 F1 H1 s1 A1 q1 h1 => ?_⟩
  cases e : truthB d m1 with
  | ok b m2 =>
    rw [e] at h1
    obtain ⟨t1, rfl⟩ := truth_of A1 q1 e
    exact ⟨b, t1, h1 _ _ _ _ Step.refl A1 .bl⟩
  | ex c m2 => exact absurd e truth_noex
  | no => rw [e] at h1; exact h1.elim
/-- tests -/
theorem step_andT {sa sb : SE} : ∀ σ H Q, tT X W (fun env m => ((sa env m).bind fun d m => (truthB d m).bind fun t m => if t then sb env m else .ok d m).bind truthB) σ H Q →
    tAnd (tT X W fun env m => (sa env m).bind truthB) (tT X W fun env m => (sb env m).bind truthB) σ H Q := by
  rintro σ H Q ⟨rho, F, env, m, A, En, h⟩
  refine ⟨rho, F, env, m, A, En, ?_⟩
  dsimp only at h ⊢
  cases ea : sa env m with
  | ok d m1 =>
    rw [ea] at h
    show RdE _ _ _ _ _ _ _ _ _ (truthB d m1)
    cases e : truthB d m1 with
    | ok b m2 =>
      have := truth_m e
      subst this
      simp only [R.bind, e] at h
      intro v r1 F1 H1 s1 A1 q1
      subst q1
      cases v with
      | true => exact iteT ⟨r1, F1, env, m2, A1, En.mono s1.onto, RdE.step (show RdE X.K X.mg W σ relB rho F H Q ((sb env m2).bind truthB) from h) s1⟩
      | false =>
        have h' : RdE X.K X.mg W σ relB rho F H Q (truthB d m2) := by simpa [R.bind] using h
        rw [e] at h'
        exact iteF (h' _ _ _ _ s1 A1 rfl)
    | ex c m2 => exact absurd e truth_noex
    | no => simp only [R.bind, e] at h; exact h
  | ex c m1 => rw [ea] at h; exact h
  | no => rw [ea] at h; exact h
theorem step_orT {sa sb : SE} : ∀ σ H Q, tT X W (fun env m => ((sa env m).bind fun d m => (truthB d m).bind fun t m => if t then .ok d m else sb env m).bind truthB) σ H Q →
    tOr (tT X W fun env m => (sa env m).bind truthB) (tT X W fun env m => (sb env m).bind truthB) σ H Q := by
  rintro σ H Q ⟨rho, F, env, m, A, En, h⟩
  refine ⟨rho, F, env, m, A, En, ?_⟩
  dsimp only at h ⊢
  cases ea : sa env m with
  | ok d m1 =>
    rw [ea] at h
    show RdE _ _ _ _ _ _ _ _ _ (truthB d m1)
    cases e : truthB d m1 with
    | ok b m2 =>
      have := truth_m e
      subst this
      simp only [R.bind, e] at h
      intro v r1 F1 H1 s1 A1 q1
      subst q1
      cases v with
      | false => exact iteF ⟨r1, F1, env, m2, A1, En.mono s1.onto, RdE.step (show RdE X.K X.mg W σ relB rho F H Q ((sb env m2).bind truthB) from h) s1⟩
      | true =>
        have h' : RdE X.K X.mg W σ relB rho F H Q (truthB d m2) := by simpa [R.bind] using h
        rw [e] at h'
        exact iteT (h' _ _ _ _ s1 A1 rfl)
    | ex c m2 => exact absurd e truth_noex
    | no => simp only [R.bind, e] at h; exact h
  | ex c m1 => rw [ea] at h; exact h
  | no => rw [ea] at h; exact h
theorem step_notT {sa : SE} : ∀ σ H Q, tT X W (fun env m => ((sa env m).bind fun d m => (truthB d m).bind fun t m => .ok (.bl (!t)) m).bind truthB) σ H Q → tNot (tT X W fun env m => (sa env m).bind truthB) σ H Q := by
  rintro σ H Q ⟨rho, F, env, m, A, En, h⟩
  refine ⟨rho, F, env, m, A, En, ?_⟩
  dsimp only at h ⊢
  cases ea : sa env m with
  | ok d m1 =>
    rw [ea] at h
    show RdE _ _ _ _ _ _ _ _ _ (truthB d m1)
    cases e : truthB d m1 with
    | ok b m2 =>
      have := truth_m e
      subst this
      simp only [R.bind, e] at h
      intro v r1 F1 H1 s1 A1 q1
      subst q1
      exact h _ _ _ _ s1 A1 rfl
    | ex c m2 => exact absurd e truth_noex
    | no => simp only [R.bind, e] at h; exact h
  | ex c m1 => rw [ea] at h; exact h
  | no => rw [ea] at h; exact h
theorem step_ite {sc sa sb : SE} : ∀ σ H Q, tE X W (fun env m => (sc env m).bind fun d m => (truthB d m).bind fun t m => if t then sa env m else sb env m) σ H Q →
    tIf (tT X W fun env m => (sc env m).bind truthB) (tE X W sa) (tE X W sb) σ H Q := by
  rintro σ H Q ⟨rho, F, env, m, A, En, h⟩
  refine ⟨rho, F, env, m, A, En, ?_⟩
  dsimp only at h ⊢
  cases ea : sc env m with
  | ok d m1 =>
    rw [ea] at h
    show RdE _ _ _ _ _ _ _ _ _ (truthB d m1)
    cases e : truthB d m1 with
    | ok b m2 =>
      have := truth_m e
      subst this
      simp only [R.bind, e] at h
      intro v r1 F1 H1 s1 A1 q1
      subst q1
      cases v with
      | true => exact iteT ⟨r1, F1, env, m2, A1, En.mono s1.onto, RdE.step (by simpa using h) s1⟩
      | false => exact iteF ⟨r1, F1, env, m2, A1, En.mono s1.onto, RdE.step (by simpa using h) s1⟩
    | ex c m2 => exact absurd e truth_noex
    | no => simp only [R.bind, e] at h; exact h
  | ex c m1 => rw [ea] at h; exact h
  | no => rw [ea] at h; exact h
theorem step_iteT {sc sa sb : SE} : ∀ σ H Q, tT X W (fun env m => ((sc env m).bind fun d m => (truthB d m).bind fun t m => if t then sa env m else sb env m).bind truthB) σ H Q →
    (tT X W fun env m => (sc env m).bind truthB) σ H (fun c H1 => if c = true then (tT X W fun env m => (sa env m).bind truthB) σ H1 Q else (tT X W fun env m => (sb env m).bind truthB) σ H1 Q) := by
  rintro σ H Q ⟨rho, F, env, m, A, En, h⟩
  refine ⟨rho, F, env, m, A, En, ?_⟩
  dsimp only at h ⊢
  cases ea : sc env m with
  | ok d m1 =>
    rw [ea] at h
    show RdE _ _ _ _ _ _ _ _ _ (truthB d m1)
    cases e : truthB d m1 with
    | ok b m2 =>
      have := truth_m e
      subst this
      simp only [R.bind, e] at h
      intro v r1 F1 H1 s1 A1 q1
      subst q1
      cases v with
      | true => exact iteT ⟨r1, F1, env, m2, A1, En.mono s1.onto, RdE.step (by simpa [R.bind] using h) s1⟩
      | false => exact iteF ⟨r1, F1, env, m2, A1, En.mono s1.onto, RdE.step (by simpa [R.bind] using h) s1⟩
    | ex c m2 => exact absurd e truth_noex
    | no => simp only [R.bind, e] at h; exact h
  | ex c m1 => rw [ea] at h; exact h
  | no => rw [ea] at h; exact h
theorem pt_ifExp {c a b : Expr} {pos : Pos} {tc ta tb : TT} (hc : PT X c tc) (ha : PT X a ta) (hb : PT X b tb) : PT X (.IfExp c a b pos) (fun σ H Q => tc σ H fun c H1 => if c = true then ta σ H1 Q else tb σ H1 Q) := by
  refine ⟨fun pins s σ H Q I h => ?_⟩
  have e : isTrue (.IfExp c a b pos) X.env (eval (.IfExp c a b pos) X.env) = (do
      if ← isTrue c X.env (eval c X.env) then isTrue a X.env (eval a X.env) else isTrue b X.env (eval b X.env)) := by first | rfl | simp only [isTrue]
  rw [e]
  refine wpAny_bind (thn (hc.run pins s σ H _ I h) fun t s1 ⟨H1, I1, q1⟩ => ?_)
  cases t with
  | true => exact ha.run pins s1 σ H1 Q I1 q1
  | false => exact hb.run pins s1 σ H1 Q I1 q1
/-- argument lists -/
theorem step_cons {sa : SE} {sr : SA} : ∀ σ H Q, tA X W (fun env m => (sa env m).bind fun d m => (sr env m).bind fun ds m => .ok (d :: ds) m) σ H Q → tCons (tE X W sa) (tA X W sr) σ H Q := by
  rintro σ H Q ⟨rho, F, env, m, A, En, h⟩
  refine ⟨rho, F, env, m, A, En, RdE.bind h fun d m1 v r1 F1 H1 s1 A1 q1 h1 => ?_⟩
  refine ⟨r1, F1, env, m1, A1, En.mono s1.onto, RdE.bind h1 fun e m2 u r2 F2 H2 s2 A2 q2 h2 => ?_⟩
  exact h2 _ _ _ _ Step.refl A2 (.cons (q1.mono s2.onto) q2)
theorem step_nil : ∀ σ H Q, tA X W (fun env m => .ok [] m) σ H Q → tNil σ H Q := by
  rintro σ H Q ⟨rho, F, env, m, A, En, h⟩
  exact h _ _ _ _ Step.refl A .nil
theorem step_tup {sr : SA} : ∀ σ H Q, tE X W (fun env m => (sr env m).bind fun ds m => if ds.length ≤ sizeLine then .ok (.tup ds) m else .no) σ H Q → tTup (tA X W sr) σ H Q := by
  rintro σ H Q ⟨rho, F, env, m, A, En, h⟩
  refine ⟨rho, F, env, m, A, En, RdE.bind h fun ds m1 vs r1 F1 H1 s1 A1 q1 h1 => ?_⟩
  split at h1
  · rename_i hl
    exact ⟨by rw [q1.length]; exact hl, fun p np => RdO.newT (RdE.of0 h1 (fun _ _ z => nomatch z)) A1 q1 np⟩
  · exact h1.elim
theorem step_lst {sr : SA} : ∀ σ H Q, tE X W (fun env m => (sr env m).bind fun ds m => if ds.length ≤ sizeLine then .ok (.lst ds) m else .no) σ H Q → tLst (tA X W sr) σ H Q := by
  rintro σ H Q ⟨rho, F, env, m, A, En, h⟩
  refine ⟨rho, F, env, m, A, En, RdE.bind h fun ds m1 vs r1 F1 H1 s1 A1 q1 h1 => ?_⟩
  split at h1
  · rename_i hl
    exact ⟨by rw [q1.length]; exact hl, fun p np => RdO.newL (RdE.of0 h1 (fun _ _ z => nomatch z)) A1 q1 np⟩
  · exact h1.elim
theorem step_lstM {sr : SA} : ∀ σ H Q, tE X W (fun env m => (sr env m).bind fun ds m => if ds.length ≤ sizeLine then .ok (.ref m.length) (m ++ [.lst ds]) else .no) σ H Q → tLst (tA X W sr) σ H Q := by
  rintro σ H Q ⟨rho, F, env, m, A, En, h⟩
  refine ⟨rho, F, env, m, A, En, RdE.bind h fun ds m1 vs r1 F1 H1 s1 A1 q1 h1 => ?_⟩
  split at h1
  · rename_i hl
    exact ⟨by rw [q1.length]; exact hl, fun p np => RdO.newLM (RdE.of0 h1 (fun _ _ z => nomatch z)) A1 q1 np⟩
  · exact h1.elim
end
end HB
namespace HB
open PySem L2

/-! ### operators never raise -/
theorem bop_noex {o : BOp} {d e : D} {m : M} {c : Exc} {m' : M} : bopD o d e m ≠ .ex c m' := by
  intro h
  cases o <;> simp only [bopD, addD, subD, mulD, fdivD, modD, powD] at h <;> (repeat' split at h) <;> cases h
theorem eqB_noex {d e : D} {m : M} {c : Exc} {m' : M} : eqB d e m ≠ .ex c m' := by
  intro h
  unfold eqB at h
  (repeat' split at h) <;> cases h
theorem inB_noex {d e : D} {m : M} {c : Exc} {m' : M} : inB d e m ≠ .ex c m' := by
  intro h
  unfold inB at h
  (repeat' split at h) <;> cases h
theorem cop_noex {o : COp} {d e : D} {m : M} {c : Exc} {m' : M} : copD o d e m ≠ .ex c m' := by
  intro h
  cases o
  case eq =>
    simp only [copD, eqD, blR] at h
    split at h
    · cases h
    · rename_i q; exact eqB_noex q
    · cases h
  case ne =>
    simp only [copD, neD, notR] at h
    cases q : eqB d e m with
    | ok b m => rw [q] at h; cases h
    | ex c m => exact eqB_noex q
    | no => rw [q] at h; cases h
  case inn =>
    simp only [copD, inD, blR] at h
    split at h
    · cases h
    · rename_i q; exact inB_noex q
    · cases h
  case notIn =>
    simp only [copD, notInD, notR] at h
    cases q : inB d e m with
    | ok b m => rw [q] at h; cases h
    | ex c m => exact inB_noex q
    | no => rw [q] at h; cases h
  all_goals (simp only [copD, ltD, leD, gtD, geD, isND, notND] at h; (repeat' split at h) <;> cases h)
/-- a comparison hands back a truth value -/
theorem eqB_bl {d e f : D} {m m' : M} (h : eqD d e m = .ok f m') : ∃ b, f = .bl b := by
  unfold eqD blR at h
  split at h
  · cases h; exact ⟨_, rfl⟩
  · cases h
  · cases h
theorem cop_bl {o : COp} {d e f : D} {m m' : M} (h : copD o d e m = .ok f m') : ∃ b, f = .bl b := by
  cases o
  case eq => exact eqB_bl h
  case ne =>
    simp only [copD, neD] at h
    cases q : notR (eqB d e m) with
    | ok b m => rw [q] at h; cases h; exact ⟨_, rfl⟩
    | ex c m => rw [q] at h; cases h
    | no => rw [q] at h; cases h
  case inn =>
    simp only [copD, inD] at h
    cases q : inB d e m with
    | ok b m => rw [q] at h; cases h; exact ⟨_, rfl⟩
    | ex c m => rw [q] at h; cases h
    | no => rw [q] at h; cases h
  case notIn =>
    simp only [copD, notInD] at h
    cases q : notR (inB d e m) with
    | ok b m => rw [q] at h; cases h; exact ⟨_, rfl⟩
    | ex c m => rw [q] at h; cases h
    | no => rw [q] at h; cases h
  all_goals (simp only [copD, ltD, leD, gtD, geD, isND, notND] at h; (repeat' split at h) <;> cases h <;> exact ⟨_, rfl⟩)
section
variable {X : Cx} {W : WX}
theorem od_bin (o : BOp) : OpD X (binaryOp (bopO o)) (bopD o) := by
  cases o
  · exact od_add
  · exact od_sub
  · exact od_mul
  · exact od_fdiv
  · exact od_mod
  · exact od_pow
theorem od_cmp (hu : X.A.units + 65 < cLine) (o : COp) : OpD X (compareOp (copO o)) (copD o) := by
  have hu' : X.A.units + 64 < cLine := by omega
  cases o
  · exact od_eq hu'
  · exact od_ne hu'
  · exact od_lt
  · exact od_le
  · exact od_gt
  · exact od_ge
  · exact od_isN
  · exact od_notN
  · exact od_in hu
  · exact od_notIn hu
/-! ### plain arguments -/
theorem star_cons {e : Expr} {es : List Expr} {env : PySem.Env} (h : plainB e = true) : starEach (e :: es) env = (false, eval e env) :: starEach es env := by
  cases e <;> first | rfl | (simp [plainB] at h)
theorem star_any {env : PySem.Env} {pos : Pos} : ∀ {es : List Expr}, es.all plainB = true → (backTo pos (starEach es env)).any (·.1) = false
  | [], _ => rfl
  | e :: es, h => by
    simp only [List.all_cons, Bool.and_eq_true] at h
    rw [star_cons h.1]
    have ih := star_any (env := env) (pos := pos) h.2
    simp only [backTo, List.map_cons, List.any_cons, Bool.false_or] at ih ⊢
    exact ih
theorem chkA_plain {C : Ck} : ∀ {t : T} {ps : List Expr}, chkA C t ps = true → ps.all plainB = true
  | t, [], _ => rfl
  | .cons a es, p :: ps, h => by
    simp only [chkA, Bool.and_eq_true] at h
    simp only [List.all_cons, Bool.and_eq_true]
    exact ⟨h.1.1, chkA_plain h.2⟩
/-! ### subscripts -/
theorem atI_of {K : PySem.W.Frag} {mg : Str → Option Value} {rho : List Addr} {F : Hp} {vs : List V} {ds : List D} {i : Int} {d : D} (r : RpL K mg rho F vs ds) (h : atI ds i = some d) : ∃ v, atI vs i = some v ∧ Rp K mg rho F v d := by
  unfold atI at h ⊢
  rw [r.length]
  cases e : ixN ds.length i with
  | none => rw [e] at h; cases h
  | some j => rw [e] at h; exact r.get h
theorem ix_noex {d e : D} {m : M} {c : Exc} {m' : M} : ixD d e m ≠ .ex c m' := by
  intro h
  unfold ixD at h
  (repeat' split at h) <;> cases h
theorem IxR.imp {r r' : R2} (h : IxR X r) (k : ∀ x y H Q, r' x y H Q → r x y H Q) : IxR X r' := fun value slice pins s σ H x y v u Q I rx ry q hs => h value slice pins s σ H x y v u Q I rx ry (k _ _ _ _ q) hs
theorem ix_data : IxR X (fun x y H Q => ∃ rho F m d e, Abs X.K X.mg rho F H m ∧ Rp X.K X.mg rho F x d ∧ Rp X.K X.mg rho F y e ∧ RdO X.K X.mg rho F H Q (ixD d e m)) := IxR.imp ix_seq (by
  rintro x y H Q ⟨rho, F, m, d, e, A, r1, r2, h⟩
  unfold ixD at h
  split at h
  · cases r2
    split at h
    · split at h
      · split at h
        · rename_i hc _ c hi
          cases r1
          exact .inr (.inr ⟨_, _, c, rfl, rfl, hc, hi, h.here A .str⟩)
        · exact h.elim
      · exact h.elim
    · split at h
      · rename_i ds hv
        split at h
        · rename_i e hi
          obtain ⟨p, vs, rfl, hp, q1⟩ := r1.viewQ A hv
          obtain ⟨v, hv', rv⟩ := atI_of q1 hi
          rcases hp with hp | hp
          · exact .inl ⟨p, vs, _, v, rfl, rfl, hp, hv', h.here A rv⟩
          · exact .inr (.inl ⟨p, vs, _, v, rfl, rfl, hp, hv', h.here A rv⟩)
        · exact h.elim
      · exact h.elim
  · exact h.elim)
theorem cut_of {K : PySem.W.Frag} {mg : Str → Option Value} {rho : List Addr} {F : Hp} {vs : List V} {ds : List D} (r : RpL K mg rho F vs ds) (lo hi : Option Int) : RpL K mg rho F (cutV vs lo hi) (cutD ds lo hi) := by
  unfold cutV cutD
  rw [r.length]
  exact (r.drop _).take _
theorem SlR.imp {r r' : V → Option Int → Option Int → Hp → VK → Prop} (h : SlR X r) (k : ∀ x lo hi H Q, r' x lo hi H Q → r x lo hi H Q) : SlR X r' := fun pins s σ H x v vl vu lo hi sl Q I rx hs pl pu q => h pins s σ H x v vl vu lo hi sl Q I rx hs pl pu (k _ _ _ _ _ q)
theorem sl_data : SlR X (fun x lo hi H Q => ∃ rho F m d, Abs X.K X.mg rho F H m ∧ Rp X.K X.mg rho F x d ∧ RdO X.K X.mg rho F H Q (slD d lo hi m)) := SlR.imp (sl_str.or (sl_tupA.or sl_list)) (by
  rintro x lo hi H Q ⟨rho, F, m, d, A, r1, h⟩
  unfold slD at h
  split at h
  · split at h
    · rename_i hc
      cases r1
      exact .inl ⟨_, rfl, hc, h.here A .str⟩
    · exact h.elim
  · rename_i ds
    obtain ⟨p, vs, rfl, hp, q1⟩ := r1.tupH A
    refine .inr (.inl ⟨p, vs, rfl, hp, fun hw => ?_, fun _ l nl => h.newT A (cut_of q1 lo hi) nl⟩)
    have e : cutD ds lo hi = ds := by
      unfold cutD
      rw [q1.length] at hw
      rw [hw.1, hw.2]
      simp
    rw [e] at h
    exact h.here A r1
  · split at h
    · rename_i ds hv
      obtain ⟨p, vs, rfl, hp, q1⟩ := r1.viewS A hv
      exact .inr (.inr ⟨p, vs, rfl, hp, fun l nl => h.newL A (cut_of q1 lo hi) nl⟩)
    · exact h.elim)
theorem sl_noex {d : D} {lo hi : Option Int} {m : M} {c : Exc} {m' : M} : slD d lo hi m ≠ .ex c m' := by
  intro h
  unfold slD at h
  (repeat' split at h) <;> cases h
/-- a part of a slice -/
def tP (X : Cx) (W : WX) (b : Bool) (se : SE) : TO := fun σ H Q => ∃ rho F env m, Abs X.K X.mg rho F H m ∧ RpEnv X.K X.mg rho F σ env ∧ RdE X.K X.mg W σ (fun _ _ (v d : Option Int) => v = d) rho F H Q (if b then R.ok none m else partD (se env m) m)
theorem po_data {se : SE} {p : Expr} (h : PE X p (tE X W se)) : PO X (some p) (tP X W false se) := by
  refine ⟨fun pins s σ H Q I q => (po_some h).run pins s σ H Q I ?_⟩
  obtain ⟨rho, F, env, m, A, En, q⟩ := q
  refine ⟨rho, F, env, m, A, En, ?_⟩
  simp only [Bool.false_eq_true, if_false] at q
  cases e : se env m with
  | ok d m1 =>
    rw [e] at q
    unfold partD at q
    split at q
    · rename_i z
      cases z
      intro v r1 F1 H1 s1 A1 q1
      cases q1
      exact ⟨_, rfl, q _ _ _ _ s1 A1 rfl⟩
    · exact q.elim
    · rename_i z; cases z
    · rename_i z; cases z
  | ex c m1 => rw [e] at q; exact q
  | no => rw [e] at q; exact q
theorem po_data0 {se : SE} : PO X none (tP X W true se) := by
  refine ⟨fun pins s σ H Q I q => po_none.run pins s σ H Q I ?_⟩
  obtain ⟨rho, F, env, m, A, En, q⟩ := q
  exact q none _ _ _ Step.refl A rfl
end
end HB
namespace HB
open PySem L2
/-! ### an object aside: neither ours nor standing still -/
section
variable {K : PySem.W.Frag} {mg : Str → Option Value} {rho rho' : List Addr} {F F' H H' : Hp} {m : M} {p : Addr} {o : HO}
theorem Abs.side (A : Abs K mg rho F H m) (nr : p ∉ rho) (nF : F p = none) : Abs K mg rho F (upd H p o) m := by
  refine ⟨fun b u h => ?_, A.len, A.nd, fun i a x hi hm => ?_, fun a ha => ?_⟩
  · rw [upd_ne (ne_of_none h nF)]; exact A.ex b u h
  · have ne : a ≠ p := fun e => nr (by rw [← e]; exact List.mem_of_getElem? hi)
    exact (A.own i a x hi hm).mono ⟨fun h => h, Same.refl F⟩ rfl fun u h => by rw [upd_ne ne]; exact h
  · have ne : a ≠ p := fun e => nr (by rw [← e]; exact ha)
    rw [upd_ne ne]; exact A.all a ha
theorem Abs.sideFix (A : Abs K mg rho F H m) (nr : p ∉ rho) (nF : F p = none) (hp : H p = some o) : Abs K mg rho (upd F p o) H m := by
  have sF : Same F (upd F p o) := fun b u h => by rw [upd_ne (ne_of_none h nF)]; exact h
  refine ⟨fun b u h => ?_, A.len, A.nd, fun i a x hi hm => ?_, A.all⟩
  · by_cases e : b = p
    · subst e; rw [upd_same] at h; rw [← h]; exact hp
    · rw [upd_ne e] at h; exact A.ex b u h
  · have ne : a ≠ p := fun e => nr (by rw [← e]; exact List.mem_of_getElem? hi)
    exact (A.own i a x hi hm).mono ⟨fun h => h, sF⟩ (upd_ne ne) fun u h => h
/-- a thing that was not there may change -/
theorem Step.side (s : Step rho F H rho' F' H') (np : H p = none) : Step rho F H rho' F' (upd H' p o) := by
  refine ⟨s.pre, s.ex, fun a u h => ?_, fun a u h hn => ?_⟩
  · rw [upd_ne (ne_of_none h np)]; exact s.dom a u h
  · rw [upd_ne (ne_of_none h np)]; exact s.old a u h hn
theorem Step.sideFix (s : Step rho F H rho' F' H') (np : H p = none) (nF : F' p = none) : Step rho F H rho' (upd F' p o) H' := by
  refine ⟨s.pre, s.ex.trans fun b u h => by rw [upd_ne (ne_of_none h nF)]; exact h, s.dom, fun a u h hn => ?_⟩
  obtain ⟨h1, h2⟩ := s.old a u h hn
  exact ⟨h1, by rw [upd_ne (ne_of_none h np)]; exact h2⟩
end
/-! ### what is walked, by data -/
structure Walks (K : PySem.W.Frag) (mg : Str → Option Value) (J : It) (rho : List Addr) (F : Hp) (xs : List D) : Prop where
  stop : ∀ rho2 F2 H m, Onto rho F rho2 F2 → Abs K mg rho2 F2 H m → J.stop xs.length H
  go : ∀ (i : Nat) d rho2 F2 H m, xs[i]? = some d → Onto rho F rho2 F2 → Abs K mg rho2 F2 H m → J.go i H ∧ ∀ v H', J.yld i H v H' → ∃ F3, Step rho2 F2 H rho2 F3 H' ∧ Abs K mg rho2 F3 H' m ∧ Rp K mg rho2 F3 v d
section
variable {K : PySem.W.Frag} {mg : Str → Option Value} {rho : List Addr} {F : Hp}
theorem walks_list {a : Addr} {vs : List V} {ds : List D} (h : ∀ F2 H, Same F F2 → Same F2 H → SqL K H a vs) (r : RpL K mg rho F vs ds) : Walks K mg (Itl K a) rho F ds where
  stop := fun r2 F2 H m on A => ⟨vs, h F2 H on.ex A.ex, by rw [r.length]; exact Nat.le_refl _⟩
  go := fun i d r2 F2 H m hd on A => by
    obtain ⟨v, hv, rv⟩ := r.get hd
    refine ⟨⟨vs, v, h F2 H on.ex A.ex, hv⟩, fun u H' y => ?_⟩
    obtain ⟨e, y⟩ := y
    subst e
    have := y vs (h F2 H' on.ex A.ex)
    rw [hv] at this
    cases this
    exact ⟨F2, Step.refl, A, rv.mono on⟩
theorem walks_tup {a : Addr} {vs : List V} {ds : List D} (h : ∀ F2 H, Same F F2 → Same F2 H → SqT K H a vs) (r : RpL K mg rho F vs ds) : Walks K mg (Itt K a) rho F ds where
  stop := fun r2 F2 H m on A => ⟨vs, h F2 H on.ex A.ex, by rw [r.length]; exact Nat.le_refl _⟩
  go := fun i d r2 F2 H m hd on A => by
    obtain ⟨v, hv, rv⟩ := r.get hd
    refine ⟨⟨vs, v, h F2 H on.ex A.ex, hv⟩, fun u H' y => ?_⟩
    obtain ⟨e, y⟩ := y
    subst e
    have := y vs (h F2 H' on.ex A.ex)
    rw [hv] at this
    cases this
    exact ⟨F2, Step.refl, A, rv.mono on⟩
theorem walks_str {x : Str} : Walks K mg (Its x) rho F (x.cps.toList.map fun c => D.str ⟨#[c]⟩) where
  stop := fun r2 F2 H m on A => by show x.cps.size ≤ _; simp
  go := fun i d r2 F2 H m hd on A => by
    rw [List.getElem?_map, Option.map_eq_some_iff] at hd
    obtain ⟨c, hc, rfl⟩ := hd
    have hc' : x.cps[i]? = some c := by rw [← Array.getElem?_toList]; exact hc
    refine ⟨by show i < x.cps.size; exact (Array.getElem?_eq_some_iff.mp hc').1, fun u H' y => ?_⟩
    obtain ⟨e, c', e1, e2⟩ := y
    subst e
    rw [hc'] at e1; cases e1
    subst e2
    exact ⟨F2, Step.refl, A, .str⟩
theorem walks_rng {lo : Int} {n : Nat} : Walks K mg (Itr lo n) rho F ((List.range n).map fun (i : Nat) => D.int (lo + (i : Int))) where
  stop := fun r2 F2 H m on A => by show n ≤ _; simp
  go := fun i d r2 F2 H m hd on A => by
    rw [List.getElem?_map, Option.map_eq_some_iff] at hd
    obtain ⟨c, hc, rfl⟩ := hd
    have hi : i < n := by have := (List.getElem?_eq_some_iff.mp hc).1; simpa using this
    have hc' : c = i := by
      rw [List.getElem?_range hi] at hc
      cases hc; rfl
    subst hc'
    refine ⟨hi, fun u H' y => ?_⟩
    obtain ⟨e, e2⟩ := y
    subst e
    subst e2
    exact ⟨F2, Step.refl, A, .int⟩
end
def tI (X : Cx) (W : WX) (se : SE) : TI := fun σ H Rr => ∃ rho F env m, Abs X.K X.mg rho F H m ∧ RpEnv X.K X.mg rho F σ env ∧ match se env m with
  | .ok d m1 => match viewI d m1 with
    | some xs => ∀ J rho' F' H', Step rho F H rho' F' H' → Abs X.K X.mg rho' F' H' m1 → Walks X.K X.mg J rho' F' xs → Rr J H'
    | none => False
  | .ex c m1 => ∀ cls dx rho' F' H', Step rho F H rho' F' H' → Abs X.K X.mg rho' F' H' m1 → RpX X.K X.mg rho' F' c cls dx → W cls dx σ H'
  | .no => False
section
variable {X : Cx} {W : WX}
theorem piOr {tg e : Expr} {w1 w2 : TI} (h1 : PI X tg e w1) (h2 : PI X tg e w2) : PI X tg e (fun σ H Rr => w1 σ H Rr ∨ w2 σ H Rr) := ⟨fun pins s σ H Rr I q => by
  rcases q with q | q
  · exact h1.run pins s σ H Rr I q
  · exact h2.run pins s σ H Rr I q⟩
theorem piImp {tg e : Expr} {w1 w2 : TI} (h1 : PI X tg e w1) (k : ∀ σ H Rr, w2 σ H Rr → w1 σ H Rr) : PI X tg e w2 := ⟨fun pins s σ H Rr I q => h1.run pins s σ H Rr I (k _ _ _ q)⟩
theorem pi_data {tg p : Expr} {se : SE} (h : PE X p (tE X W se)) : PI X tg p (tI X W se) := by
  refine piImp (piOr (pi_list h) (piOr (pi_tup h) (pi_str h))) ?_
  rintro σ H Rr ⟨rho, F, env, m, A, En, q⟩
  cases e : se env m with
  | no => rw [e] at q; exact q.elim
  | ex c m1 =>
    rw [e] at q
    exact .inl ⟨rho, F, env, m, A, En, by rw [e]; exact q⟩
  | ok d m1 =>
    rw [e] at q
    simp only at q
    split at q
    · rename_i xs hv
      unfold viewI at hv
      split at hv
      · cases hv
        refine .inr (.inl ⟨rho, F, env, m, A, En, ?_⟩)
        rw [e]
        intro v r1 F1 H1 s1 A1 q1
        cases q1 with
        | tup hs hr => exact ⟨_, rfl, ⟨_, sqT_mono A1.ex hs⟩, q _ _ _ _ s1 A1 (walks_tup (fun F2 H2 e1 e2 => sqT_mono e2 (sqT_mono e1 hs)) hr)⟩
      · cases hv
        refine .inl ⟨rho, F, env, m, A, En, ?_⟩
        rw [e]
        intro v r1 F1 H1 s1 A1 q1
        cases q1 with
        | lst hs hr => exact ⟨_, rfl, ⟨_, SqL.of (A1.ex _ _ hs)⟩, q _ _ _ _ s1 A1 (walks_list (fun F2 H2 e1 e2 => SqL.of (e2 _ _ (e1 _ _ hs))) hr)⟩
      · cases hv
        refine .inl ⟨rho, F, env, m, A, En, ?_⟩
        rw [e]
        intro v r1 F1 H1 s1 A1 q1
        cases q1 with
        | scr hs => exact ⟨_, rfl, ⟨_, A1.ex.seq hs⟩, q _ _ _ _ s1 A1 (walks_list (fun F2 H2 e1 e2 => e2.seq (e1.seq hs)) (RpL.ints _))⟩
      · cases hv
        refine .inr (.inr ⟨rho, F, env, m, A, En, ?_⟩)
        rw [e]
        intro v r1 F1 H1 s1 A1 q1
        cases q1
        exact ⟨_, rfl, q _ _ _ _ s1 A1 walks_str⟩
      · cases hv
    · exact q.elim
theorem pi_rng1 {tg a : Expr} {p pos : Pos} {sa : SE} (hg : Gl X "range") (hm : X.mg "range" = none) (hl : plainB a = true) (h : PE X a (tE X W sa)) : PI X tg (.Call (.Name "range" p) [a] [] pos) (tI X W fun env m => (sa env m).bind fun d m => rngD [d] m) := by
  refine piImp (pi_range1 hg hm (pa_cons h pa_nil (star_cons hl)) (star_cons hl)) ?_
  rintro σ H Rr ⟨rho, F, env, m, A, En, q⟩
  refine ⟨rho, F, env, m, A, En, ?_⟩
  dsimp only at q
  cases e : sa env m with
  | no => rw [e] at q; exact q
  | ex c m1 => rw [e] at q; exact q
  | ok d m1 =>
    rw [e] at q
    intro v r1 F1 H1 s1 A1 q1
    show ∃ j : Int, [v] = [V.int j] ∧ _
    simp only [R.bind, rngD] at q
    split at q
    · rename_i d' m2 hd
      split at hd
      · rename_i j hj
        cases hj
        split at hd
        · rename_i hc
          cases hd
          cases q1
          refine ⟨j, rfl, hc.1, hc.2, q _ _ _ _ s1 A1 ?_⟩
          have := walks_rng (K := X.K) (mg := X.mg) (rho := r1) (F := F1) (lo := 0) (n := j.toNat)
          simpa using this
        · cases hd
      · rename_i hj; cases hj
      · cases hd
    · rename_i hd
      exfalso
      (repeat' split at hd) <;> cases hd
    · exact q.elim
theorem pi_rng2 {tg a b : Expr} {p pos : Pos} {sa sb : SE} (hg : Gl X "range") (hm : X.mg "range" = none) (hl : plainB a = true) (hl2 : plainB b = true) (h : PE X a (tE X W sa)) (h2 : PE X b (tE X W sb)) :
    PI X tg (.Call (.Name "range" p) [a, b] [] pos) (tI X W fun env m => (sa env m).bind fun d m => (sb env m).bind fun e m => rngD [d, e] m) := by
  refine piImp (pi_range2 hg hm (pa_cons h (pa_cons h2 pa_nil (star_cons hl2)) (star_cons hl)) (by rw [star_cons hl, star_cons hl2]; rfl) (star_cons hl2)) ?_
  rintro σ H Rr ⟨rho, F, env, m, A, En, q⟩
  refine ⟨rho, F, env, m, A, En, ?_⟩
  dsimp only at q
  cases e : sa env m with
  | no => rw [e] at q; exact q
  | ex c m1 => rw [e] at q; exact q
  | ok d m1 =>
    rw [e] at q
    intro v r1 F1 H1 s1 A1 q1
    refine ⟨r1, F1, env, m1, A1, En.mono s1.onto, ?_⟩
    simp only [R.bind] at q
    cases e2 : sb env m1 with
    | no => rw [e2] at q; exact q
    | ex c m2 => rw [e2] at q; exact fun cls dx r2 F2 H2 s2 => q cls dx r2 F2 H2 (s1.trans s2)
    | ok d2 m2 =>
      rw [e2] at q
      intro u r2 F2 H2 s2 A2 q2
      show ∃ i j : Int, [v, u] = [V.int i, V.int j] ∧ _
      simp only [rngD] at q
      split at q
      · rename_i d' m3 hd
        split at hd
        · rename_i j hj; cases hj
        · rename_i i j hj
          cases hj
          split at hd
          · rename_i hc
            cases hd
            cases q1
            cases q2
            exact ⟨i, j, rfl, hc, q _ _ _ _ (s1.trans s2) A2 walks_rng⟩
          · cases hd
        · cases hd
      · rename_i hd
        exfalso
        (repeat' split at hd) <;> cases hd
      · exact q.elim
end
end HB
namespace HB
open PySem L2
/-! ### targets -/
theorem wipe_get (σ : L2.St) (j : Nat) : ∀ vs : List Nat, (L2.wipe σ vs)[j]? = if j ∈ vs then (σ[j]?).map (fun _ => none) else σ[j]?
  | [] => by simp [L2.wipe]
  | v :: vs => by
    unfold L2.wipe
    by_cases h : v = j
    · subst h
      have hl : (L2.wipe σ vs).length = σ.length := wipe_length σ vs
      rw [List.getElem?_set_self']
      have := wipe_get σ v vs
      by_cases hv : v < σ.length
      · have e : σ[v]? = some σ[v] := by simp [hv]
        rw [e] at this ⊢
        simp only [List.mem_cons, true_or, if_true, Option.map_some]
        split at this <;> rw [this] <;> rfl
      · have e : σ[v]? = none := by simpa using hv
        rw [e] at this ⊢
        simp only [List.mem_cons, true_or, if_true, Option.map_none]
        split at this <;> rw [this] <;> rfl
    · rw [List.getElem?_set_ne h, wipe_get σ j vs]
      have : j ≠ v := fun e => h e.symm
      simp [this]
theorem wipe_set {σ : L2.St} {i : Nat} {x : Option V} {vs : List Nat} (h : i ∈ vs) : L2.wipe (σ.set i x) vs = L2.wipe σ vs := by
  apply List.ext_getElem?
  intro j
  rw [wipe_get, wipe_get]
  by_cases hj : j ∈ vs
  · rw [if_pos hj, if_pos hj]
    by_cases e : i = j
    · subst e
      rw [List.getElem?_set_self']
      cases σ[i]? <;> rfl
    · rw [List.getElem?_set_ne e]
  · rw [if_neg hj, if_neg hj, List.getElem?_set_ne (fun e => hj (by rw [← e]; exact h))]
/-- σ2 is σ but for the slots gs -/
def SetIn (σ σ2 : L2.St) (gs : List Nat) : Prop := ∀ vs : List Nat, (∀ i ∈ gs, i ∈ vs) → L2.wipe σ2 vs = L2.wipe σ vs
def tG (X : Cx) (g : G) : TG := fun v σ H Q => ∃ rho F env m d, Abs X.K X.mg rho F H m ∧ RpEnv X.K X.mg rho F σ env ∧ Rp X.K X.mg rho F v d ∧ match asgG g d env with
  | some env2 => ∀ σ2, RpEnv X.K X.mg rho F σ2 env2 → SetIn σ σ2 (gSlots g) → Q σ2 H
  | none => False
def tGs (X : Cx) (g : G) : TGs := fun vs σ H Q => ∃ rho F env m ds, Abs X.K X.mg rho F H m ∧ RpEnv X.K X.mg rho F σ env ∧ RpL X.K X.mg rho F vs ds ∧ match asgGs g ds env with
  | some env2 => ∀ σ2, RpEnv X.K X.mg rho F σ2 env2 → SetIn σ σ2 (gSlots g) → Q σ2 H
  | none => False
section
variable {X : Cx} {C : Ck}
structure GdT (X : Cx) (C : Ck) : Prop where
  N : X.N = C.N
  sc : X.env.scope = C.sc
  fn : ∀ x, (match C.raw with
    | none => True
    | some s => s.names.lookup x = some .cell) → X.fn x = true
  nd : X.N.Nodup
  calm : X.calm = true
theorem GdE.t {W : WX} {fs : List Sem} {k : Nat} (g : GdE X W C fs k) : GdT X C := ⟨g.N, g.sc, g.fn, g.nd, g.calm⟩
theorem asgEach_len (env : PySem.Env) : ∀ es : List Expr, (assignEach es env).length = es.length
  | [] => rfl
  | e :: es => by
    cases e <;> simp [assignEach, asgEach_len env es]
theorem asgEach_cons {e : Expr} {es : List Expr} {env : PySem.Env} (h : plainB e = true) : assignEach (e :: es) env = (false, assign e env) :: assignEach es env := by
  cases e <;> first | rfl | (simp [plainB] at h)
theorem asgEach_star {env : PySem.Env} : ∀ {es : List Expr}, es.all plainB = true → (assignEach es env).findIdx? (·.1) = none
  | [], _ => rfl
  | e :: es, h => by
    simp only [List.all_cons, Bool.and_eq_true] at h
    rw [asgEach_cons h.1]
    simp [List.findIdx?_cons, asgEach_star h.2]
theorem chkGs_plain : ∀ {g : G} {es : List Expr}, chkGs C g es = true → es.all plainB = true
  | g, [], _ => rfl
  | .cons g gs, e :: es, h => by
    simp only [chkGs, Bool.and_eq_true] at h
    simp only [List.all_cons, Bool.and_eq_true]
    exact ⟨h.1.1, chkGs_plain h.2⟩
theorem asgGs_len : ∀ {g : G} {ds : List D} {env env2 : Env} {es : List Expr}, chkGs C g es = true → asgGs g ds env = some env2 → ds.length = es.length
  | .nil, [], _, _, [], _, _ => rfl
  | .cons g gs, d :: ds, env, env2, e :: es, h, q => by
    simp only [chkGs, Bool.and_eq_true] at h
    simp only [asgGs] at q
    split at q
    · simp [asgGs_len h.2 q]
    · cases q
theorem SetIn.trans {σ σ1 σ2 : L2.St} {a b : List Nat} (h : SetIn σ σ1 a) (h' : SetIn σ1 σ2 b) : SetIn σ σ2 (a ++ b) := fun vs hv =>
  (h' vs fun i hi => hv i (List.mem_append_right _ hi)).trans (h vs fun i hi => hv i (List.mem_append_left _ hi))
mutual
theorem sndG (Gd : GdT X C) : ∀ (g : G) {e : Expr}, chkG C g e = true → PG X e (tG X g)
  | .name i, .Name x pos, h => by
    simp only [chkG, Bool.and_eq_true, decide_eq_true_eq] at h
    obtain ⟨h1, h2⟩ := h
    have hx : Loc X.env.scope x ∧ (X.fn x = true ∨ X.env.scope.names.lookup x = some .local) := by
      unfold locB at h2
      rw [Gd.sc]
      split at h2
      · rename_i e; exact ⟨.inl e, .inr e⟩
      · rename_i e
        refine ⟨.inr e, .inl (Gd.fn x ?_)⟩
        split at h2
        · rename_i e2; first | trivial | (rw [e2]; trivial)
        · rename_i s e2; first | (rw [e2]; simpa using h2) | simpa using h2
      · cases h2
    refine ⟨fun pins s σ H v u Q I r q => ?_⟩
    refine (pg_name (i := i) Gd.nd (by rw [Gd.N]; exact h1) hx.1 hx.2).run pins s σ H v u Q I r ?_
    obtain ⟨rho, F, env, m, d, A, En, rv, q⟩ := q
    simp only [asgG] at q
    exact q _ (En.set rv i) fun vs hv => wipe_set (hv i (by simp [gSlots]))
  | .tup gs, .Tuple es k pos, h => by
    simp only [chkG] at h
    refine ⟨fun pins s σ H v u Q I r q => ?_⟩
    refine (pg_tup (n := es.length) Gd.calm (sndGs Gd gs h) (asgEach_len _ _) (asgEach_star (chkGs_plain h))).run pins s σ H v u Q I r ?_
    obtain ⟨rho, F, env, m, d, A, En, rv, q⟩ := q
    cases d with
    | tup ds =>
      simp only [asgG] at q
      obtain ⟨p, vs, rfl, hp, hr⟩ := rv.tupH A
      refine ⟨p, vs, rfl, hp, ?_, rho, F, env, m, ds, A, En, hr, q⟩
      split at q
      · rename_i env2 he
        rw [hr.length]
        exact asgGs_len h he
      · exact q.elim
    | _ => simp only [asgG] at q
  | .nil, _, h => by simp [chkG] at h
  | .cons _ _, _, h => by simp [chkG] at h
  | .name _, .BoolOp .., h | .name _, .NamedExpr .., h | .name _, .BinOp .., h | .name _, .UnaryOp .., h | .name _, .Lambda .., h | .name _, .IfExp .., h | .name _, .Dict .., h | .name _, .Set .., h | .name _, .ListComp .., h | .name _, .SetComp .., h
  | .name _, .DictComp .., h | .name _, .GeneratorExp .., h | .name _, .Await .., h | .name _, .Yield .., h | .name _, .YieldFrom .., h | .name _, .Compare .., h | .name _, .Call .., h | .name _, .FormattedValue .., h | .name _, .JoinedStr .., h
  | .name _, .Constant .., h | .name _, .Attribute .., h | .name _, .Subscript .., h | .name _, .Starred .., h | .name _, .List .., h | .name _, .Tuple .., h | .name _, .Slice .., h => by simp [chkG] at h
  | .tup _, .BoolOp .., h | .tup _, .NamedExpr .., h | .tup _, .BinOp .., h | .tup _, .UnaryOp .., h | .tup _, .Lambda .., h | .tup _, .IfExp .., h | .tup _, .Dict .., h | .tup _, .Set .., h | .tup _, .ListComp .., h | .tup _, .SetComp .., h
  | .tup _, .DictComp .., h | .tup _, .GeneratorExp .., h | .tup _, .Await .., h | .tup _, .Yield .., h | .tup _, .YieldFrom .., h | .tup _, .Compare .., h | .tup _, .Call .., h | .tup _, .FormattedValue .., h | .tup _, .JoinedStr .., h
  | .tup _, .Constant .., h | .tup _, .Attribute .., h | .tup _, .Subscript .., h | .tup _, .Starred .., h | .tup _, .List .., h | .tup _, .Name .., h | .tup _, .Slice .., h => by simp [chkG] at h
theorem sndGs (Gd : GdT X C) : ∀ (g : G) {es : List Expr}, chkGs C g es = true → PGs X es (tGs X g)
  | .nil, [], _ => ⟨fun pins s σ H vs us Q I r q => by
    refine pgs_nil.run pins s σ H vs us Q I r ?_
    obtain ⟨rho, F, env, m, ds, A, En, rv, q⟩ := q
    cases rv with
    | nil => exact ⟨rfl, q σ En fun _ _ => rfl⟩
    | cons a b => simp [asgGs] at q⟩
  | .cons g gs, e :: es, h => by
    simp only [chkGs, Bool.and_eq_true] at h
    obtain ⟨⟨h0, h1⟩, h2⟩ := h
    refine ⟨fun pins s σ H vs us Q I r q => ?_⟩
    refine (pgs_cons (sndG Gd g h1) (sndGs Gd gs h2) (by rw [asgEach_cons h0]; rfl)).run pins s σ H vs us Q I r ?_
    obtain ⟨rho, F, env, m, ds, A, En, rv, q⟩ := q
    cases rv with
    | nil => simp [asgGs] at q
    | cons a b =>
      rename_i d _ ds
      simp only [asgGs] at q
      refine ⟨_, _, rfl, rho, F, env, m, d, A, En, a, ?_⟩
      cases e1 : asgG g d env with
      | none => rw [e1] at q; exact q
      | some env2 =>
        rw [e1] at q
        intro σ2 En2 s2
        refine ⟨rho, F, env2, m, ds, A, En2, b, ?_⟩
        simp only at q
        cases e2 : asgGs gs ds env2 with
        | none => rw [e2] at q; exact q
        | some env3 =>
          rw [e2] at q
          exact fun σ3 En3 s3 => q σ3 En3 (s2.trans s3)
  | .nil, _ :: _, h => by simp [chkGs] at h
  | .cons _ _, [], h => by simp [chkGs] at h
  | .name _, _, h => by simp [chkGs] at h
  | .tup _, _, h => by simp [chkGs] at h
end
end
end HB
namespace HB
open PySem L2
abbrev W0 : WX := fun _ _ _ _ => False
def lcStep (g : G) (vs : List Nat) (cB : Bool) (sc se : SE) (env : Env) (x : D) (m : M) : R (Option D) := match asgG g x (wipeD env vs) with
  | some env2 => (if cB then R.ok true m else (sc env2 m).bind truthB).bind fun t m => if t then (se env2 m).bind fun y m => .ok (some y) m else .ok none m
  | none => .no
def lcE (g : G) (vs : List Nat) (cB : Bool) (si sc se : SE) : SE := fun env m => (si env m).bind fun d m => match viewI d m with
  | some xs => if xs.length ≤ sizeLine then (lcGo (lcStep g vs cB sc se env) xs [] m).bind fun ys m => .ok (.lst ys) m else .no
  | none => .no
def tCond (X : Cx) (cB : Bool) (sc : SE) : TT := if cB then tYes else tT X W0 (fun env m => (sc env m).bind truthB)
section
variable {X : Cx} {W : WX}
theorem step_lc {g : G} {vs : List Nat} {cB : Bool} {si sc se : SE} (hgs : ∀ i ∈ gSlots g, i ∈ vs) : ∀ σ H Q, tE X W (lcE g vs cB si sc se) σ H Q → tLc (tI X W si) (tG X g) (tCond X cB sc) (tE X W0 se) vs σ H Q := by
  rintro σ H Q ⟨rho, F, env, m, A, En, h⟩
  refine ⟨rho, F, env, m, A, En, ?_⟩
  unfold lcE at h
  cases ei : si env m with
  | no => rw [ei] at h; exact h
  | ex c m1 => rw [ei] at h; exact h
  | ok d m1 =>
    rw [ei] at h
    simp only [R.bind] at h ⊢
    cases ev : viewI d m1 with
    | none => rw [ev] at h; exact h
    | some xs =>
      rw [ev] at h
      simp only at h ⊢
      split at h
      · rename_i hz
        intro J r1 F1 H1 s1 A1 wk Dl nD
        have nr1 : Dl ∉ r1 := A1.notmem nD
        have nF1 : F1 Dl = none := by
          cases e : F1 Dl with
          | none => rfl
          | some u => rw [A1.ex Dl u e] at nD; cases nD
        refine ⟨fun i n Hi => n = xs.length - i ∧ i ≤ xs.length ∧ ∃ ri Fi mi accV accD, Step r1 F1 H1 ri Fi Hi ∧ Abs X.K X.mg ri Fi Hi mi ∧ Hi Dl = some (.lst accV) ∧ Fi Dl = none ∧ Dl ∉ ri ∧ RpL X.K X.mg ri Fi accV accD ∧ accD.length ≤ i ∧
          RdE X.K X.mg W σ (relD X.K X.mg) rho F H Q ((lcGo (lcStep g vs cB sc se env) (xs.drop i) accD mi).bind fun ys m => .ok (.lst ys) m), ?_, ?_⟩
        · exact ⟨xs.length, by simp, Nat.zero_le _, r1, F1, m1, [], [], Step.refl.side nD, A1.side nr1 nF1, upd_same, nF1, nr1, .nil, Nat.le_refl _, h⟩
        · rintro i n Hi ⟨rfl, hi, ri, Fi, mi, accV, accD, st, Ai, hD, nFi, nri, racc, hacc, hq⟩
          by_cases hlt : i < xs.length
          · right
            have ex : xs[i]? = some xs[i] := by simp [hlt]
            obtain ⟨hgo, hy⟩ := wk.go i xs[i] ri Fi Hi mi ex st.onto Ai
            refine ⟨hgo, fun H' => i + 1 ≤ xs.length ∧ ∃ ri Fi mi accV accD, Step r1 F1 H1 ri Fi H' ∧ Abs X.K X.mg ri Fi H' mi ∧ H' Dl = some (.lst accV) ∧ Fi Dl = none ∧ Dl ∉ ri ∧ RpL X.K X.mg ri Fi accV accD ∧ accD.length ≤ i + 1 ∧
              RdE X.K X.mg W σ (relD X.K X.mg) rho F H Q ((lcGo (lcStep g vs cB sc se env) (xs.drop (i + 1)) accD mi).bind fun ys m => .ok (.lst ys) m), ?_, ?_⟩
            · rintro H' ⟨h1, h2⟩
              exact ⟨xs.length - (i + 1), by omega, rfl, h1, h2⟩
            · intro v H2 hyl
              obtain ⟨F3, st3, A3, rv⟩ := hy v H2 hyl
              obtain ⟨hD2, hF2⟩ := st3.old Dl _ hD nri
              rw [nFi] at hF2
              have dr : xs.drop i = xs[i] :: xs.drop (i + 1) := (List.drop_eq_getElem_cons hlt)
              rw [dr] at hq
              simp only [lcGo] at hq
              refine ⟨ri, F3, wipeD env vs, mi, xs[i], A3, ((En.mono s1.onto).mono (st.trans st3).onto).wipe vs, rv, ?_⟩
              cases eg : asgG g xs[i] (wipeD env vs) with
              | none =>
                simp only [lcStep, eg] at hq
                exact hq
              | some env2 =>
                intro σ2 En2 hset
                have hw : L2.wipe σ2 vs = L2.wipe σ vs := by
                  rw [hset vs hgs]
                  apply List.ext_getElem?
                  intro j
                  rw [wipe_get, wipe_get]
                  by_cases hj : j ∈ vs
                  · rw [if_pos hj, if_pos hj]
                    cases σ[j]? <;> rfl
                  · rw [if_neg hj, if_neg hj]
                refine ⟨hw, ?_⟩
                simp only [lcStep, eg] at hq
                -- the test
                have after : ∀ (t : Bool) (mt : M) (rt : List Addr) (Ft Ht : Hp), Step ri F3 H2 rt Ft Ht → Abs X.K X.mg rt Ft Ht mt →
                    RdE X.K X.mg W σ (relD X.K X.mg) rho F H Q (((match (if t = true then (se env2 mt).bind fun y m => R.ok (some y) m else R.ok none mt : R (Option D)) with
                      | .ok (some y) m => lcGo (lcStep g vs cB sc se env) (xs.drop (i + 1)) (accD ++ [y]) m
                      | .ok none m => lcGo (lcStep g vs cB sc se env) (xs.drop (i + 1)) accD m
                      | _ => .no) : R (List D)).bind fun ys m => .ok (.lst ys) m) →
                    if t = true then tE X W0 se σ2 Ht (fun y H4 => ∃ acc, H4 Dl = some (.lst acc) ∧ acc.length < sizeLine ∧ i + 1 ≤ xs.length ∧ ∃ ri Fi mi accV accD, Step r1 F1 H1 ri Fi (upd H4 Dl (.lst (acc ++ [y]))) ∧ Abs X.K X.mg ri Fi (upd H4 Dl (.lst (acc ++ [y]))) mi ∧ (upd H4 Dl (.lst (acc ++ [y]))) Dl = some (.lst accV) ∧ Fi Dl = none ∧ Dl ∉ ri ∧ RpL X.K X.mg ri Fi accV accD ∧ accD.length ≤ i + 1 ∧
                      RdE X.K X.mg W σ (relD X.K X.mg) rho F H Q ((lcGo (lcStep g vs cB sc se env) (xs.drop (i + 1)) accD mi).bind fun ys m => .ok (.lst ys) m))
                    else (i + 1 ≤ xs.length ∧ ∃ ri Fi mi accV accD, Step r1 F1 H1 ri Fi Ht ∧ Abs X.K X.mg ri Fi Ht mi ∧ Ht Dl = some (.lst accV) ∧ Fi Dl = none ∧ Dl ∉ ri ∧ RpL X.K X.mg ri Fi accV accD ∧ accD.length ≤ i + 1 ∧
                      RdE X.K X.mg W σ (relD X.K X.mg) rho F H Q ((lcGo (lcStep g vs cB sc se env) (xs.drop (i + 1)) accD mi).bind fun ys m => .ok (.lst ys) m)) := by
                  intro t mt rt Ft Ht st4 A4 hq4
                  obtain ⟨hD4, hF4⟩ := st4.old Dl _ hD2 nri
                  rw [hF2] at hF4
                  have nrt : Dl ∉ rt := by
                    obtain ⟨q, e1, e2⟩ := st4.pre
                    rw [e1]
                    intro z
                    rcases List.mem_append.mp z with z | z
                    · exact nri z
                    · rw [e2 _ z] at hD2; cases hD2
                  cases t with
                  | false =>
                    refine iteF ⟨hlt, rt, Ft, mt, accV, accD, (st.trans st3).trans st4, A4, hD4, hF4, nrt, racc.mono (st3.trans st4).onto, by omega, ?_⟩
                    simpa using hq4
                  | true =>
                    refine iteT ⟨rt, Ft, env2, mt, A4, En2.mono st4.onto, ?_⟩
                    simp only [if_true] at hq4
                    cases es : se env2 mt with
                    | no => rw [es] at hq4; exact hq4
                    | ex c m5 => rw [es] at hq4; exact hq4.elim
                    | ok y m5 =>
                      rw [es] at hq4
                      intro yv r5 F5 H5 st5 A5 ry
                      obtain ⟨hD5, hF5⟩ := st5.old Dl _ hD4 nrt
                      rw [hF4] at hF5
                      have nr5 : Dl ∉ r5 := by
                        obtain ⟨q, e1, e2⟩ := st5.pre
                        rw [e1]
                        intro z
                        rcases List.mem_append.mp z with z | z
                        · exact nrt z
                        · rw [e2 _ z] at hD4; cases hD4
                      refine ⟨accV, hD5, by rw [racc.length]; omega, hlt, r5, F5, m5, accV ++ [yv], accD ++ [y], (((st.trans st3).trans st4).trans st5).side nD, A5.side nr5 hF5, upd_same, hF5, nr5, ?_, by simp; omega, hq4⟩
                      exact (racc.mono ((st3.trans st4).trans st5).onto).append (.cons ry .nil)
                unfold tCond
                cases cB with
                | true =>
                  simp only [if_true, R.bind] at hq ⊢
                  exact after true mi ri F3 H2 Step.refl A3 hq
                | false =>
                  simp only [Bool.false_eq_true, if_false] at hq ⊢
                  refine ⟨ri, F3, env2, mi, A3, En2, ?_⟩
                  dsimp only
                  cases ec : (sc env2 mi).bind truthB with
                  | no => rw [ec] at hq; exact hq.elim
                  | ex c m4 => rw [ec] at hq; exact hq.elim
                  | ok t m4 =>
                    rw [ec] at hq
                    simp only [R.bind] at hq
                    intro tv r4 F4 H4 st4 A4 et
                    subst et
                    exact after _ m4 r4 F4 H4 st4 A4 hq
          · left
            have e : i = xs.length := by omega
            subst e
            refine ⟨wk.stop ri Fi Hi mi st.onto Ai, ?_⟩
            simp only [List.drop_length, lcGo, R.bind] at hq
            exact hq _ _ _ _ (s1.trans (st.sideFix nD nFi)) (Ai.sideFix nri nFi hD) (.lst upd_same (racc.mono ⟨fun h => h, fun b u h => by rw [upd_ne (ne_of_none h nFi)]; exact h⟩))
      · exact h.elim
end
end HB
namespace HB
open PySem L2
def isBoolOp : Expr → Bool
  | .BoolOp _ _ _ => true
  | _ => false
structure SndE (X : Cx) (W : WX) (fs : List Sem) (e : T) (pe : Expr) : Prop where
  v : PE X pe (tE X W (evE fs e))
  t : PT X pe (tT X W (evT fs e))
  w : isBoolOp pe = true → PW X pe (tT X W (evT fs e))
def SndP (fs : List Sem) (e : T) : Prop := ∀ X W C k, GdE X W C fs k → (∀ pe, chk C e pe = true → SndE X W fs e pe) ∧ (∀ ps, chkA C e ps = true → PA X ps (tA X W (evA fs e)))
section
variable {X : Cx} {W : WX} {C : Ck} {fs : List Sem} {k : Nat}
/-- a test by the truth of its value -/
theorem SndE.plain {e : T} {pe : Expr} (h : PE X pe (tE X W (evE fs e))) (he : ∀ whole, isTrue pe X.env whole = (do let v ← whole; standAt pe.pos; holding [v] (truthy v))) (nb : isBoolOp pe = false) : SndE X W fs e pe :=
  ⟨h, PT.imp (pt_truth h he) fun σ H Q q => step_truth σ H Q q, fun z => by rw [nb] at z; cases z⟩
theorem vis_of {sc : Scope} {x : Str} (h : visB sc x = true) : Vis sc x := by
  unfold visB at h
  split at h
  · rename_i e; exact .inl e
  · rename_i e; exact .inr (.inl e)
  · rename_i e; exact .inr (.inr e)
  · cases h
theorem okN_of {x : Str} (h : okN x = true) : (x == ("__debug__" : Str)) = false ∧ (x == ("__classdict__" : Str)) = false ∧ x ≠ "__name__" := by
  simp only [okN, Bool.and_eq_true, Bool.not_eq_true', decide_eq_true_eq] at h
  exact ⟨h.1.1, h.1.2, h.2⟩
theorem gl_of (g : GdE X W C fs k) {x : Str} (h : glB C.sc x = true) : Gl X x ∧ (x == ("__debug__" : Str)) = false ∧ x ≠ "__name__" := by
  simp only [glB, Bool.and_eq_true, decide_eq_true_eq] at h
  obtain ⟨h1, h2⟩ := h
  obtain ⟨a, _, c⟩ := okN_of h2
  refine ⟨?_, a, c⟩
  show X.env.scope.names.lookup x = _
  rw [g.sc]; exact h1
theorem GdE.blk (g : GdE X W C fs k) {scope : Scope} {own : List (Str × Nat)} (s : Shared) (H : Hp) (A : Addr) (cl : List (Str × Addr)) (fp : List Addr) :
    GdE (X.blk s H scope (compEnvC scope cl A X.env) fp) W0 { C with sc := relS scope C.sc, raw := some scope } fs k where
  N := g.N
  sc := by show relS scope X.env.scope = _; rw [g.sc]
  fn := fun x h => by
    show (scope.names.lookup x == some .cell) = true
    simp only at h
    rw [h]; rfl
  nd := g.nd
  calm := g.calm
  room := g.room
  gd := g.gd
  tk := takes0
  fl := g.fl
  fok := g.fok
  mok := g.mok
  tb := g.tb
  bs := g.bs
  nob := g.nob
theorem units_of (g : GdE X W C fs k) : X.A.units + 130 < cLine := by have := g.room.un; omega
theorem blt_call (g : GdE X W C fs k) (b : BF) : CallD X (bfV b) (bfD b) := by
  cases b
  · exact cd_abs
  · exact cd_max g.calm
  · exact cd_min g.calm
  · exact cd_sum g.calm
  · exact cd_int
  · exact cd_str
  · exact cd_len
  · exact cd_all g.calm
  · exact cd_any g.calm
  · exact cd_tuple
  · exact cd_list
  · exact cd_listM
  · exact cd_repr g.gd (units_of g) g.bs
theorem bfD_noex {b : BF} {ds : List D} {m : M} {c : Exc} {m' : M} : bfD b ds m ≠ .ex c m' := by
  intro h
  cases b <;> simp only [bfD, absD, maxD, minD, sumD, intD, strD, lenD, allD, anyD, tupleD, listD, listMD, reprD] at h <;> (repeat' split at h) <;> cases h
theorem boot_bf (b : BF) : bootBuiltins (bfX b) = some (bfV b) := by
  cases b <;> decide +kernel
theorem mem_bf (b : BF) : bfX b ∈ bltAll := by
  cases b <;> decide +kernel
/-- f(e, ..), f a built-in -/
theorem pe_blt (g : GdE X W C fs k) {b : BF} {e : Expr} {es : List Expr} {p pos : Pos} {sa : SA} (hg : glB C.sc (bfX b) = true) (hp : (e :: es).all plainB = true) (ha : PA X (e :: es) (tA X W sa)) :
    PE X (.Call (.Name (bfX b) p) (e :: es) [] pos) (tE X W fun env m => (sa env m).bind fun ds m => bfD b ds m) := by
  obtain ⟨hgl, hd, hn⟩ := gl_of g hg
  simp only [List.all_cons, Bool.and_eq_true] at hp
  have key : ∀ σ H Q, tE X W (fun env m => (sa env m).bind fun ds m => bfD b ds m) σ H Q → tCB (fun xs H Q => ∃ rho F m ds, Abs X.K X.mg rho F H m ∧ RpL X.K X.mg rho F xs ds ∧ RdO X.K X.mg rho F H Q (bfD b ds m)) (tA X W sa) σ H Q := by
    rintro σ H Q ⟨rho, F, env, m, A, En, h⟩
    refine ⟨rho, F, env, m, A, En, RdE.bind h fun ds m1 vs r1 F1 H1 s1 A1 q1 h1 => ?_⟩
    exact ⟨r1, F1, m1, ds, A1, q1, h1.of0 fun c m' => bfD_noex⟩
  have cd := blt_call g b
  have hm := g.nob _ (mem_bf b)
  have bt := boot_bf b
  cases hv : bfV b with
  | builtin id =>
    rw [hv] at cd bt
    exact PE.imp (pe_callB cd hgl hm bt ha hn hd (star_cons hp.1) (star_any hp.2)) key
  | type T =>
    rw [hv] at cd bt
    exact PE.imp (pe_callTy cd hgl hm bt ha hn hd (star_cons hp.1) (star_any hp.2)) key
  | _ => cases b <;> simp [bfV] at hv
/-- isinstance(x, T) -/
theorem cls_boot {c : String} (h : c ∈ clsNames) : bootBuiltins (Str.ofString c) = some (.type c) ∧ Str.ofString c ∈ bltAll := by
  simp only [clsNames, List.mem_cons, List.not_mem_nil, or_false] at h
  rcases h with rfl | rfl | rfl | rfl | rfl | rfl <;> exact ⟨by decide +kernel, by decide +kernel⟩
theorem isi_noex {d : D} {c : String} {m : M} {e : Exc} {m' : M} : isiD d c m ≠ .ex e m' := by
  intro h
  unfold isiD at h
  (repeat' split at h) <;> cases h
theorem pe_isi (g : GdE X W C fs k) {a : Expr} {c : String} {p p2 pos : Pos} {sa : SE} (hg : glB C.sc "isinstance" = true) (hg2 : glB C.sc (Str.ofString c) = true) (hc : c ∈ clsNames) (hp : plainB a = true) (ha : PE X a (tE X W sa)) :
    PE X (.Call (.Name "isinstance" p) [a, .Name (Str.ofString c) p2] [] pos) (tE X W fun env m => (sa env m).bind fun d m => isiD d c m) := by
  obtain ⟨hgl, hd, hn⟩ := gl_of g hg
  obtain ⟨hgl2, hd2, hn2⟩ := gl_of g hg2
  obtain ⟨bt, mb⟩ := cls_boot hc
  refine PE.imp (pe_callB (x := "isinstance") (id := "isinstance") call_isi hgl (g.nob _ (by decide +kernel)) (by decide +kernel)
    (pa_cons ha (pa_cons (pe_bltn (v := .ty c) hgl2 (g.nob _ mb) bt rfl hn2 hd2) pa_nil) (star_cons hp)) hn hd (star_cons hp) rfl) ?_
  rintro σ H Q ⟨rho, F, env, m, A, En, h⟩
  refine ⟨rho, F, env, m, A, En, RdE.bind h fun d m1 v r1 F1 H1 s1 A1 q1 h1 => ?_⟩
  have h2 := h1.of0 fun c m' => isi_noex
  unfold isiD at h2
  split at h2
  · rename_i t ht
    split at h2
    · rename_i b hb
      exact ⟨v, .ty c, .type t, .type c, b, rfl, .ty c, ty_of A1 q1 ht, kit_ty hb, h2.here A1 .bl⟩
    · exact h2.elim
  · exact h2.elim
theorem base_plain {o : Expr} {name : Str} {env : PySem.Env} {whole : PySem.Sem Value} (h : noCall0 o = true) : attributeBase o name env whole = whole := by
  unfold attributeBase
  split
  · simp [noCall0] at h
  · rfl
theorem join_noex {d e : D} {m : M} {c : Exc} {m' : M} : joinD d e m ≠ .ex c m' := by
  intro h
  unfold joinD at h
  (repeat' split at h) <;> cases h
theorem popAt_noex {d e : D} {m : M} {c : Exc} {m' : M} : popAtD d e m ≠ .ex c m' := by
  intro h
  unfold popAtD at h
  (repeat' split at h) <;> cases h
theorem pe_joinD {a b : Expr} {ap pos : Pos} {sa sb : SE} (h0 : noCall0 a = true) (hp : plainB b = true) (hl : (ap.endLine == pos.line) = true) (ha : PE X a (tE X W sa)) (hb : PE X b (tE X W sb)) :
    PE X (.Call (.Attribute a "join" ap) [b] [] pos) (tE X W fun env m => (sa env m).bind fun d m => match d with
      | .str x => (sb env m).bind fun e m => joinD (.str x) e m
      | _ => .no) := by
  refine PE.imp (pe_join ha hb (star_cons hp) (base_plain h0) hl) ?_
  rintro σ H Q ⟨rho, F, env, m, A, En, h⟩
  refine ⟨rho, F, env, m, A, En, RdE.bind h fun d m1 v r1 F1 H1 s1 A1 q1 h1 => ?_⟩
  split at h1
  · cases q1
    refine ⟨⟨_, rfl⟩, r1, F1, env, m1, A1, En.mono s1.onto, RdE.bind h1 fun e m2 u r2 F2 H2 s2 A2 q2 h2 => ?_⟩
    have h3 := h2.of0 fun c m' => join_noex
    unfold joinD at h3
    simp only at h3
    split at h3
    · rename_i ys hy
      split at h3
      · rename_i hc
        cases hv : viewQ e m2 with
        | none => rw [hv] at hy; cases hy
        | some ds =>
          rw [hv] at hy
          have e1 := asStrs_eq (show asStrs ds = some ys from hy)
          subst e1
          obtain ⟨p, vs, rfl, hp, q3⟩ := q2.viewQ A2 hv
          have e2 := q3.strs
          subst e2
          exact ⟨_, p, ys, rfl, rfl, hp, hc, h3.here A2 .str⟩
      · exact h3.elim
    · exact h3.elim
  · exact h1.elim
theorem pe_popD {a b : Expr} {ap pos : Pos} {sa sb : SE} (h0 : noCall0 a = true) (hp : plainB b = true) (hl : (ap.endLine == pos.line) = true) (ha : PE X a (tE X W sa)) (hb : PE X b (tE X W sb)) :
    PE X (.Call (.Attribute a "pop" ap) [b] [] pos) (tE X W fun env m => (sa env m).bind fun d m => match d with
      | .ref k => match m[k]? with
        | some (.lst _) => (sb env m).bind fun e m => popAtD (.ref k) e m
        | _ => .no
      | _ => .no) := by
  refine PE.imp (pe_bm PySem.F.plainAttrs_list PySem.F.slot_list_pop PySem.F.type_list_pop mt_popAt ha (pa_cons hb pa_nil (star_cons hp)) (base_plain h0) (by rw [star_cons hp]; rfl) hl (star_cons hp) rfl) ?_
  rintro σ H Q ⟨rho, F, env, m, A, En, h⟩
  refine ⟨rho, F, env, m, A, En, RdE.bind h fun d m1 v r1 F1 H1 s1 A1 q1 h1 => ?_⟩
  split at h1
  · split at h1
    · rename_i kk ds hm
      cases q1 with
      | ref hi =>
        rename_i p
        obtain ⟨_, vs0, h00, _⟩ := A1.own _ _ _ hi hm
        refine ⟨.inl ⟨rfl, _, SqL.of h00⟩, r1, F1, env, m1, A1, En.mono s1.onto, RdE.bind h1 fun e m2 u r2 F2 H2 s2 A2 q2 h2 => ?_⟩
        have h3 := h2.of0 fun c m' => popAt_noex
        unfold popAtD at h3
        split at h3
        · rename_i k2 i e1 
          cases e1
          split at h3
          · rename_i ds2 hm2
            split at h3
            · rename_i hb63
              split at h3
              · rename_i j hj
                split at h3
                · rename_i y hy
                  cases q2
                  have hi2 := s2.ix hi
                  obtain ⟨nF, vs, h0, r⟩ := A2.own _ _ _ hi2 hm2
                  obtain ⟨yv, hyv, ry⟩ := r.get hy
                  obtain ⟨st, A3⟩ := A2.write (o := .lst (vs.eraseIdx j)) (y := .lst (ds2.eraseIdx j)) hi2 hm2 nF ⟨_, h0⟩ ⟨nF, _, upd_same, r.eraseIdx j⟩
                  exact ⟨_, vs, i, j, yv, rfl, rfl, h0, hb63.1, hb63.2, by rw [r.length]; exact hj, hyv, h3 _ _ _ _ st A3 ry⟩
                · exact h3.elim
              · exact h3.elim
            · exact h3.elim
          · exact h3.elim
        · exact h3.elim
    · exact h1.elim
  · exact h1.elim
end
end HB
namespace HB
open PySem L2
section
variable {fs : List Sem}
theorem some_sem {X : Cx} {W : WX} {C : Ck} {k : Nat} (g : GdE X W C fs k) {j : Nat} {x : Str} {n : Nat} (hj : C.fns[j]? = some (x, n)) : ∃ sem, fs[j]? = some sem := by
  have h1 := (List.getElem?_eq_some_iff.mp hj).1
  have h2 := g.fl
  exact ⟨fs[j], by simp [Nat.lt_of_lt_of_le h1 h2]⟩
theorem snd_call0 {X : Cx} {W : WX} {C : Ck} {k : Nat} (g : GdE X W C fs k) {j : Nat} {x : Str} {p pos : Pos} (hj : C.fns[j]? = some (x, 0)) (hg : glB C.sc x = true) :
    PE X (.Call (.Name x p) [] [] pos) (tE X W fun env m => (R.ok [] m : R (List D)).bind fun ds m => match fs[j]? with
      | some sem => callD sem ds m
      | none => .no) := by
  obtain ⟨sem, hf⟩ := some_sem g hj
  obtain ⟨hgl, hd, hn⟩ := gl_of g hg
  obtain ⟨f, fd, qs, hm, hk, hb, hl, G⟩ := g.fok j x 0 sem hj hf
  refine PE.imp (peG0 (dvs := []) (ds := []) G g.room g.gd hgl hm hk hb .nil g.tk hd) fun σ H Q q => ?_
  obtain ⟨rho, F, env, m, A, En, h⟩ := q
  simp only [R.bind, hf] at h
  exact ⟨by rw [hl]; rfl, call_data A .nil rfl h⟩
theorem snd_call {X : Cx} {W : WX} {C : Ck} {k : Nat} (g : GdE X W C fs k) {j : Nat} {x : Str} {e : Expr} {es : List Expr} {p pos : Pos} {sa : SA} (hj : C.fns[j]? = some (x, (e :: es).length)) (hg : glB C.sc x = true) (hpl : (e :: es).all plainB = true) (ha : PA X (e :: es) (tA X W sa)) (hlen : ∀ env m ds m1, sa env m = .ok ds m1 → ds.length = (e :: es).length) :
    PE X (.Call (.Name x p) (e :: es) [] pos) (tE X W fun env m => (sa env m).bind fun ds m => match fs[j]? with
      | some sem => callD sem ds m
      | none => .no) := by
  obtain ⟨sem, hf⟩ := some_sem g hj
  obtain ⟨hgl, hd, hn⟩ := gl_of g hg
  obtain ⟨f, fd, qs, hm, hk, hb, hl, G⟩ := g.fok j x (e :: es).length sem hj hf
  have key : ∀ σ H Q, tE X W (fun env m => (sa env m).bind fun ds m => match fs[j]? with
      | some sem => callD sem ds m
      | none => .no) σ H Q → tA X W sa σ H (fun vs H1 => (vs ++ ([] : List V)).length = qs.length ∧ spD X.K X.mg (e :: es).length sem (vs ++ ([] : List V)) H1 Q (fun cls d H' => W cls d σ H')) := by
    rintro σ H Q ⟨rho, F, env, m, A, En, h⟩
    refine ⟨rho, F, env, m, A, En, ?_⟩
    simp only [hf] at h
    cases ea : sa env m with
    | no => rw [ea] at h; exact h
    | ex c m1 => rw [ea] at h; exact h
    | ok ds m1 =>
      rw [ea] at h
      intro vs r1 F1 H1 s1 A1 q1
      have hl2 := hlen env m ds m1 ea
      rw [List.append_nil]
      exact ⟨by rw [q1.length, hl2, hl], call_data A1 q1 hl2 (RdE.step (show RdE X.K X.mg W σ (relD X.K X.mg) rho F H Q (callD sem ds m1) from h) s1)⟩
  simp only [List.all_cons, Bool.and_eq_true] at hpl
  exact PE.imp (peG (dvs := []) (ds := []) G g.room g.gd hgl hm hk hb .nil g.tk ha hd (star_cons hpl.1) (star_any hpl.2)) key
theorem evA_len {C : Ck} : ∀ {t : T} {ps : List Expr} {env : Env} {m m1 : M} {ds : List D}, chkA C t ps = true → evA fs t env m = .ok ds m1 → ds.length = ps.length
  | .nil, [], _, _, _, _, _, h => by simp only [evA] at h; cases h; rfl
  | .cons a es, p :: ps, env, m, m1, ds, hc, h => by
    simp only [chkA, Bool.and_eq_true] at hc
    simp only [evA] at h
    cases ea : evE fs a env m with
    | no => rw [ea] at h; cases h
    | ex c m2 => rw [ea] at h; cases h
    | ok d m2 =>
      rw [ea] at h
      simp only [R.bind] at h
      cases er : evA fs es env m2 with
      | no => rw [er] at h; cases h
      | ex c m3 => rw [er] at h; cases h
      | ok ds2 m3 =>
        rw [er] at h
        cases h
        simp [evA_len hc.2 er]
/-! ### the evaluator's word on expressions is sound -/
theorem noA {e : T} (h : ∀ C ps, chkA C e ps = false) {X : Cx} {W : WX} {C : Ck} : ∀ ps, chkA C e ps = true → PA X ps (tA X W (evA fs e)) := fun ps q => by rw [h] at q; cases q
theorem snd_iter {X : Cx} {W : WX} {C : Ck} {k : Nat} (g : GdE X W C fs k) {it : T} {iter tg : Expr} (P : SndP fs it) (P1 : ∀ a, it = .rng1 a → SndP fs a) (P2 : ∀ a b, it = .rng2 a b → SndP fs a ∧ SndP fs b) (h : chkI C it iter = true) : PI X tg iter (tI X W (evE fs it)) := by
  unfold chkI at h
  split at h
  · simp only [Bool.and_eq_true, decide_eq_true_eq] at h
    obtain ⟨⟨⟨hx, hg⟩, hp⟩, hc⟩ := h
    subst hx
    exact pi_rng1 (gl_of g hg).1 (g.nob _ (by decide +kernel)) hp (((P1 _ rfl) X W C k g).1 _ hc).v
  · simp only [Bool.and_eq_true, decide_eq_true_eq] at h
    obtain ⟨⟨⟨⟨⟨hx, hg⟩, hp⟩, hp2⟩, hc⟩, hc2⟩ := h
    subst hx
    exact pi_rng2 (gl_of g hg).1 (g.nob _ (by decide +kernel)) hp hp2 (((P2 _ _ rfl).1 X W C k g).1 _ hc).v (((P2 _ _ rfl).2 X W C k g).1 _ hc2).v
  · exact pi_data ((P X W C k g).1 _ h).v
theorem folded_plain {iter : Expr} {env : PySem.Env} (h : noSet iter = true) : ∀ x, foldedSetIterable iter env x = pure x := by
  intro x
  cases iter <;> first | rfl | (simp [noSet] at h)
end
end HB
namespace HB
open PySem L2
open PySem.HBX
/-! ### calls whose arguments are made ahead -/
section
variable {fs : List Sem}
def PrOk (fs : List Sem) (p : Pr) : Prop := ∀ (X : Cx) (W : WX) (C : Ck) (k : Nat), GdE X W C fs k → ∀ e ps, prC C p e = some ps → ∀ sa : SA, PA X ps (tA X W sa) →
  PE X e (tE X W fun env m => (sa env m).bind fun ds m => prD fs p ds m) ∧ (∀ whole, isTrue e X.env whole = (do let v ← whole; standAt e.pos; holding [v] (truthy v))) ∧ isBoolOp e = false
theorem pvV_of {fl : Bool} {d : D} {v : V} {K : PySem.W.Frag} {mg : Str → Option Value} {rho : List Addr} {F : Hp} (h : pvD fl d = true) (r : Rp K mg rho F v d) : pvV fl v := by
  cases fl with
  | false => trivial
  | true =>
    cases d <;> first | (simp [pvD] at h; done) | skip
    · cases r
      exact .inr ⟨_, rfl, by simpa [pvD] using h⟩
    · cases r
      exact .inl ⟨_, rfl, by simpa [pvD] using h⟩
theorem pr_xnew (n f : Str) (fl : Bool) : PrOk fs (.xnew n f fl) := by
  intro X W C k g e ps h sa ha
  unfold prC at h
  split at h
  all_goals try contradiction
  all_goals try (cases h; done)
  · rename_i heq
    cases heq
    split at h
    · rename_i x xp p pos hc
      cases h
      simp only [Bool.and_eq_true, decide_eq_true_eq, List.contains_iff_mem] at hc
      obtain ⟨⟨⟨rfl, h2⟩, h3⟩, h4⟩ := hc
      obtain ⟨gl, hd, _⟩ := gl_of g h2
      obtain ⟨vn, Cl, fI, T, hv, hdb⟩ := g.tb.xok _ _ _ h4
      refine ⟨PE.imp (pe_xnew T hv g.tb.sup g.room ha gl hd (star_cons h3) rfl) ?_, fun _ => rfl, rfl⟩
      rintro σ H Q ⟨rho, F, env, m, A, En, h⟩
      refine ⟨rho, F, env, m, A, En, RdE.bind h fun ds m1 vs r1 F1 H1 s1 A1 q1 h1 => ?_⟩
      match ds, vs, q1, h1 with
      | [d], [v], .cons qv .nil, h1 =>
        simp only [prD] at h1
        split at h1
        · rename_i hp
          refine ⟨v, rfl, pvV_of hp qv, fun dd ee nd ne hne => ?_⟩
          obtain ⟨st, A'⟩ := A1.fresh (o := .xd [(f, v)]) nd
          have ne' : upd H1 dd (.xd [(f, v)]) ee = none := by rw [upd_ne (Ne.symm hne)]; exact ne
          obtain ⟨st2, A2⟩ := A'.fresh (o := XV (.ref Cl) (some dd) ee) ne'
          refine h1 _ _ _ _ (st.trans st2) A2 (.xv upd_same T.gC ?_ (.cons ((qv.mono st.onto).mono st2.onto) .nil))
          rw [upd_ne hne, upd_same]
        · exact h1.elim
      | [], _, _, h1 => simp only [prD] at h1; exact h1.elim
      | _ :: _ :: _, _, _, h1 => simp only [prD] at h1; exact h1.elim
    · cases h
theorem pr_xnew0 (n : Str) : PrOk fs (.xnew0 n) := by
  intro X W C k g e ps h sa ha
  unfold prC at h
  split at h
  all_goals try contradiction
  all_goals try (cases h; done)
  · rename_i heq
    cases heq
    split at h
    · rename_i x xp p pos hc
      cases h
      simp only [Bool.and_eq_true, decide_eq_true_eq, List.contains_iff_mem] at hc
      obtain ⟨⟨⟨rfl, h2⟩, h3⟩, h4⟩ := hc
      obtain ⟨gl, hd, _⟩ := gl_of g h2
      obtain ⟨Cl, B, newId, initId, bmB, T, ei, gC, kC, _, _, hdb⟩ := g.tb.xo0 _ h4
      refine ⟨PE.imp (pe_xnew0 T ei gC kC gl ha hd (star_cons h3) rfl) ?_, fun _ => rfl, rfl⟩
      rintro σ H Q ⟨rho, F, env, m, A, En, h⟩
      refine ⟨rho, F, env, m, A, En, RdE.bind h fun ds m1 vs r1 F1 H1 s1 A1 q1 h1 => ?_⟩
      match ds, vs, q1, h1 with
      | [d], [v], .cons qv .nil, h1 =>
        simp only [prD] at h1
        refine ⟨v, rfl, fun ee ne => ?_⟩
        obtain ⟨st, A'⟩ := A1.fresh (o := XV (.ref Cl) none ee) ne
        exact h1 _ _ _ _ st A' (.xv0 upd_same gC)
      | [], _, _, h1 => simp only [prD] at h1; exact h1.elim
      | _ :: _ :: _, _, _, h1 => simp only [prD] at h1; exact h1.elim
    · cases h
/-- where an error's object and its dict stand -/
theorem Rp.xvAt {K : PySem.W.Frag} {mg : Str → Option Value} {rho : List Addr} {F H : Hp} {v : V} {n : Str} {gs : List (Str × D)} (e : Same F H) (r : Rp K mg rho F v (.exv n gs)) :
    ∃ a C d, v = .ref a ∧ H a = some (XV (.ref C) d a) ∧ mg n = some (.ref C) ∧ (∀ dd, d = some dd → ∃ fs, H dd = some (.xd fs) ∧ RpF K mg rho F fs gs) ∧ (d = none → gs = []) := by
  cases r with
  | xv0 h c => exact ⟨_, _, none, rfl, e _ _ h, c, (fun _ z => by cases z), fun _ => rfl⟩
  | xv h c q r => exact ⟨_, _, _, rfl, e _ _ h, c, fun dd z => by cases z; exact ⟨_, e _ _ q, r⟩, fun z => by cases z⟩
theorem lookup_in {α β : Type} [BEq α] [LawfulBEq α] {a : α} {b : β} : ∀ {l : List (α × β)}, l.lookup a = some b → (a, b) ∈ l
  | [], h => by cases h
  | (x, y) :: l, h => by
    simp only [List.lookup] at h
    split at h
    · rename_i e
      have := eq_of_beq e
      subst this; cases h
      exact List.mem_cons_self
    · exact List.mem_cons_of_mem _ (lookup_in h)
theorem pr_strx (tbl : List (Str × Nat)) : PrOk fs (.strx tbl) := by
  intro X W C k g e ps h sa ha
  unfold prC at h
  split at h
  all_goals try contradiction
  all_goals try (cases h; done)
  · rename_i heq
    cases heq
    split at h
    · rename_i x xp p pos hc
      cases h
      simp only [Bool.and_eq_true, decide_eq_true_eq, List.all_eq_true] at hc
      obtain ⟨⟨⟨rfl, h2⟩, h3⟩, h4⟩ := hc
      obtain ⟨gl, hd, hn⟩ := gl_of g h2
      refine ⟨PE.imp (pe_callTy (call_strv (X := X)) gl (g.nob _ (by decide +kernel)) (by decide +kernel) ha hn hd (star_cons h3) rfl) ?_, fun _ => rfl, rfl⟩
      rintro σ H Q ⟨rho, F, env, m, A, En, h⟩
      refine ⟨rho, F, env, m, A, En, RdE.bind h fun ds m1 vs r1 F1 H1 s1 A1 q1 h1 => ?_⟩
      match ds, vs, q1, h1 with
      | [.exv n gs], [v], .cons qv .nil, h1 =>
        simp only [prD] at h1
        split at h1
        · rename_i j hj
          split at h1
          · rename_i sem hsem
            obtain ⟨l1, l2⟩ := h4 _ (lookup_in hj)
            have hsem' : fs[C.fns.length + (j - C.fns.length)]? = some sem := by rw [Nat.add_sub_cancel' l1]; exact hsem
            obtain ⟨Cm, f, fd, ps, jj, m1', m2', m3', m4', m5', m6', m7', G⟩ := g.mok _ _ _ _ _ l2 hsem'
            obtain ⟨a, C', d, rfl, ha', hc', hd', _⟩ := qv.xvAt A1.ex
            have ec : C' = Cm := by have := Option.some.inj (hc'.symm.trans m1'); cases this; rfl
            subst ec
            refine ⟨a, C', f, d, fd, ps, _, jj, rfl, ha', fun dd z => let ⟨fs, q, _⟩ := hd' dd z; ⟨fs, q⟩, G, ?_, g.gd, m5', m6', m2', m3', ?_⟩
            · obtain ⟨rh, rd, ru⟩ := g.room
              exact ⟨rh, by show X.A.depth + 3 * jj + 5 < _; omega, by show X.A.units + 1 + 1 + 16 * jj + 200 < _; omega⟩
            · refine call_data (σ := []) (W := fun cls d σ H => False) A1 (.cons qv .nil) rfl ?_
              cases ec : callD sem [.exv n gs] m1 with
              | no => rw [ec] at h1; exact h1
              | ex c m2 => rw [ec] at h1; exact h1.elim
              | ok r m2 =>
                rw [ec] at h1
                cases r with
                | str y =>
                  simp only [strR] at h1
                  intro v2 r2 F2 H2 s2 A2 q2
                  have hq := h1 v2 r2 F2 H2 s2 A2 q2
                  cases q2
                  exact ⟨y, rfl, hq⟩
                | _ => exact h1.elim
          · exact h1.elim
        · exact h1.elim
      | [], _, _, h1 => simp only [prD] at h1; exact h1.elim
      | _ :: _ :: _, _, _, h1 => simp only [prD] at h1; exact h1.elim
      | [.non], _, _, h1 | [.bl _], _, _, h1 | [.int _], _, _, h1 | [.str _], _, _, h1 | [.tup _], _, _, h1 | [.lst _], _, _, h1 | [.dct _], _, _, h1 | [.obj _ _], _, _, h1 | [.ref _], _, _, h1 | [.scr _], _, _, h1 => simp only [prD] at h1; exact h1.elim
    · cases h
theorem prAll : ∀ p : Pr, PrOk fs p
  | .xnew n f fl => pr_xnew n f fl
  | .xnew0 n => pr_xnew0 n
  | .strx tbl => pr_strx tbl
/-! ### what is asked of a receiver -/
def MrOk (fs : List Sem) (p : Mr) : Prop := ∀ (X : Cx) (W : WX) (C : Ck) (k : Nat), GdE X W C fs k → ∀ e q ps, mrC C p e = some (q, ps) → ∀ (sa : SE) (sb : SA), PE X q (tE X W sa) → PA X ps (tA X W sb) → (∀ env m ds m1, sb env m = .ok ds m1 → ds.length = ps.length) → (ps = [] → ∀ env m, sb env m = .ok [] m) →
  PE X e (tE X W fun env m => (sa env m).bind fun d m => if mrG p d m then (sb env m).bind fun ds m => mrD fs p d ds m else .no) ∧ (∀ whole, isTrue e X.env whole = (do let v ← whole; standAt e.pos; holding [v] (truthy v))) ∧ isBoolOp e = false
theorem RpF.lookF {K : PySem.W.Frag} {mg : Str → Option Value} {rho : List Addr} {F : Hp} {f : Str} {dv : D} : ∀ {fs : List (Str × V)} {gs : List (Str × D)}, RpF K mg rho F fs gs → gs.lookup f = some dv → ∃ v, fs.lookup f = some v ∧ Rp K mg rho F v dv
  | _, _, .nil, h => by cases h
  | _, _, .cons (n := n) r rs, h => by
    simp only [List.lookup] at h ⊢
    split at h
    · cases h; rename_i e; exact ⟨_, rfl, r⟩
    · exact RpF.lookF rs h
theorem mr_fldx (f : Str) (cs : List Str) : MrOk fs (.fldx f cs) := by
  intro X W C k g e q ps h sa sb ha hb _ h0
  unfold mrC at h
  split at h
  all_goals try contradiction
  all_goals try (cases h; done)
  · rename_i heq
    cases heq
    split at h
    · rename_i p gg pos hc
      cases h
      simp only [Bool.and_eq_true, decide_eq_true_eq, List.all_eq_true, Bool.or_eq_true, List.contains_iff_mem] at hc
      obtain ⟨⟨rfl, h2⟩, h3⟩ := hc
      refine ⟨PE.imp (pe_xfv ha (base_plain h2)) ?_, fun _ => rfl, rfl⟩
      rintro σ H Q ⟨rho, F, env, m, A, En, h⟩
      refine ⟨rho, F, env, m, A, En, RdE.bind h fun d m1 v r1 F1 H1 s1 A1 q1 h1 => ?_⟩
      simp only [mrG, if_true, h0 rfl, R.bind] at h1
      cases d with
      | exv n gs =>
        simp only [mrD] at h1
        split at h1
        · rename_i hn
          split at h1
          · rename_i dv hl
            obtain ⟨a, C', d, rfl, ha', hc', hd', hz⟩ := q1.xvAt A1.ex
            obtain ⟨vn, Cl, fI, T⟩ : ∃ vn Cl fI, ∃ fl, XTxt X.prog X.w X.K X.mg n gg vn fl Cl fI := by
              rcases h3 n (by simpa using hn) with z | z
              · obtain ⟨vn, Cl, fI, T, _⟩ := g.tb.xok _ _ _ z; exact ⟨vn, Cl, fI, _, T⟩
              · obtain ⟨vn, Cl, fI, T, _⟩ := g.tb.xok _ _ _ z; exact ⟨vn, Cl, fI, _, T⟩
            obtain ⟨fl, T⟩ := T
            have ec : C' = Cl := by have := Option.some.inj (hc'.symm.trans T.gC); cases this; rfl
            subst ec
            cases d with
            | none => rw [hz rfl] at hl; cases hl
            | some dd =>
              obtain ⟨fs', hfs, rf⟩ := hd' dd rfl
              obtain ⟨v, lv, rv⟩ := rf.lookF hl
              exact ⟨a, C', dd, fs', v, rfl, ha', hfs, ⟨T.ga, T.gg, T.exC, T.hdC⟩, T.noN, lv, h1 v _ _ _ Step.refl A1 rv⟩
          · exact h1.elim
        · exact h1.elim
      | _ => simp only [mrD] at h1; exact h1.elim
    · cases h
theorem mr_isx (c : Str) (tbl : List (Str × Bool)) : MrOk fs (.isx c tbl) := by
  intro X W C k g e q ps h sa sb ha hb _ h0
  unfold mrC at h
  split at h
  all_goals try contradiction
  all_goals try (cases h; done)
  · rename_i heq
    cases heq
    split at h
    · rename_i x xp p y yp pos hc
      cases h
      simp only [Bool.and_eq_true, decide_eq_true_eq, List.all_eq_true, List.contains_iff_mem] at hc
      obtain ⟨⟨⟨⟨⟨rfl, h2⟩, h3⟩, h4⟩, rfl⟩, h6⟩ := hc
      obtain ⟨gl, hd, hn⟩ := gl_of g h2
      obtain ⟨gl2, hd2, hn2⟩ := gl_of g h4
      have fin : ∀ (cv : V) (u : Value), ClsV cv u → PE X (.Name y yp) (tC cv) → (∀ r ∈ tbl, ∃ A, X.mg r.1 = some (.ref A) ∧ XCl X.K A ∧ PySem.W.kitOne X.K (.ref A) u = some r.2) →
          PE X (.Call (.Name "isinstance" xp) [q, .Name y yp] [] pos) (tE X W fun env m => (sa env m).bind fun d m => if mrG (.isx y tbl) d m then (sb env m).bind fun ds m => mrD fs (.isx y tbl) d ds m else .no) := by
        intro cv u hcv hpe hk
        refine PE.imp (pe_callB (x := "isinstance") (id := "isinstance") call_isv gl (g.nob _ (by decide +kernel)) (by decide +kernel) (pa_cons ha (pa_cons hpe pa_nil) (star_cons h3)) hn hd (star_cons h3) rfl) ?_
        rintro σ H Q ⟨rho, F, env, m, A, En, h⟩
        refine ⟨rho, F, env, m, A, En, RdE.bind h fun d m1 v r1 F1 H1 s1 A1 q1 h1 => ?_⟩
        simp only [mrG, if_true, h0 rfl, R.bind] at h1
        cases d with
        | exv n gs =>
          simp only [mrD] at h1
          split at h1
          · rename_i b hl
            obtain ⟨A', e1, e2, e3⟩ := hk _ (lookup_in hl)
            obtain ⟨a, C', d, rfl, ha', hc', hd', _⟩ := q1.xvAt A1.ex
            have ec : C' = A' := by have := Option.some.inj (hc'.symm.trans e1); cases this; rfl
            subst ec
            exact ⟨a, C', d, cv, u, b, rfl, hcv, ha', fun dd z => let ⟨fs, q, _⟩ := hd' dd z; ⟨fs, q⟩, e2, e3, h1 _ _ _ _ Step.refl A1 .bl⟩
          · exact h1.elim
        | _ => simp only [mrD] at h1; exact h1.elim
      refine ⟨?_, fun _ => rfl, rfl⟩
      cases tbl with
      | nil =>
        refine ⟨fun pins s σ H Q I h => ?_⟩
        refine (pe_callB (x := "isinstance") (id := "isinstance") (r := fun _ _ _ => False) (fun pins s σ H xs us Q I r h => h.elim) gl (g.nob _ (by decide +kernel)) (by decide +kernel) (pa_cons ha (pa_cons (te := fun _ _ _ => False) ⟨fun _ _ _ _ _ _ z => z.elim⟩ pa_nil) (star_cons h3)) hn hd (star_cons h3) rfl).run pins s σ H Q I ?_
        obtain ⟨rho, F, env, m, A, En, h⟩ := h
        refine ⟨rho, F, env, m, A, En, RdE.bind h fun d m1 v r1 F1 H1 s1 A1 q1 h1 => ?_⟩
        simp only [mrG, if_true, h0 rfl, R.bind] at h1
        cases d <;> (simp only [mrD, List.lookup] at h1; exact h1.elim)
      | cons r0 rest =>
        have key : ∀ r ∈ r0 :: rest, _ := fun r hr => g.tb.xis _ _ _ (h6 r hr)
        cases hm : X.mg y with
        | some cv =>
          obtain ⟨A0, _, _, z0⟩ := key r0 List.mem_cons_self
          have hB : ∃ B, cv = .ref B := by
            rcases z0 with ⟨B, hB, _⟩ | ⟨z, hz, _⟩
            · rw [hm] at hB; exact ⟨B, Option.some.inj hB⟩
            · rw [hm] at hz; cases hz
          obtain ⟨B, rfl⟩ := hB
          refine fin (.ref B) (.ref B) (.own B) (pe_glob gl2 hm rfl hd2) fun r hr => ?_
          obtain ⟨A', e1, e2, e3⟩ := key r hr
          refine ⟨A', e1, e2, ?_⟩
          rcases e3 with ⟨B', hB', e⟩ | ⟨z, hz, _⟩
          · rw [hm] at hB'; cases hB'; exact e
          · rw [hm] at hz; cases hz
        | none =>
          obtain ⟨A0, _, _, z0⟩ := key r0 List.mem_cons_self
          have hB : ∃ z, bootBuiltins y = some (.type z) := by
            rcases z0 with ⟨B, hB, _⟩ | ⟨z, hz, hb, _⟩
            · rw [hm] at hB; cases hB
            · exact ⟨z, hb⟩
          obtain ⟨z, hz⟩ := hB
          refine fin (.ty z) (.type z) (.ty z) (pe_bltn (v := .ty z) gl2 hm hz rfl hn2 hd2) fun r hr => ?_
          obtain ⟨A', e1, e2, e3⟩ := key r hr
          refine ⟨A', e1, e2, ?_⟩
          rcases e3 with ⟨B', hB', e⟩ | ⟨z', _, hb', e⟩
          · rw [hm] at hB'; cases hB'
          · rw [hz] at hb'; cases hb'; exact e
    · cases h
end
end HB
namespace HB
open PySem L2
/-! ### dicts with plain keys -/
section
variable {K : PySem.W.Frag} {mg : Str → Option Value} {rho rho' : List Addr} {F F' H : Hp}
inductive KVr (K : PySem.W.Frag) (mg : Str → Option Value) (rho : List Addr) (F : Hp) : List (Key × V) → List (Key × D) → Prop
  | nil : KVr K mg rho F [] []
  | cons {k v d vs ds} : Rp K mg rho F v d → KVr K mg rho F vs ds → KVr K mg rho F ((k, v) :: vs) ((k, d) :: ds)
theorem key_keyD (k : Key) : keyOf (keyD k) = some k := by cases k <;> rfl
theorem keyOf_eq {d : D} {k : Key} (h : keyOf d = some k) : d = keyD k := by
  cases d <;> simp [keyOf] at h <;> (subst h; rfl)
theorem RpK.kvr : ∀ {kvs : List (Key × V)} {ds : List (D × D)}, RpK K mg rho F kvs ds → ∃ es, keysOf ds = some es ∧ KVr K mg rho F kvs es ∧ ds = es.map fun kv => (keyD kv.1, kv.2)
  | _, _, .nil => ⟨[], rfl, .nil, rfl⟩
  | _, _, .cons (k := k) r rs => by
    obtain ⟨es, h1, h2, h3⟩ := RpK.kvr rs
    exact ⟨(k, _) :: es, by simp [keysOf, key_keyD, h1], .cons r h2, by simp [h3]⟩
theorem KVr.rpk : ∀ {kvs : List (Key × V)} {es : List (Key × D)}, KVr K mg rho F kvs es → RpK K mg rho F kvs (es.map fun kv => (keyD kv.1, kv.2))
  | _, _, .nil => .nil
  | _, _, .cons r rs => .cons r rs.rpk
theorem KVr.mono (s : Onto rho F rho' F') : ∀ {kvs : List (Key × V)} {es : List (Key × D)}, KVr K mg rho F kvs es → KVr K mg rho' F' kvs es
  | _, _, .nil => .nil
  | _, _, .cons r rs => .cons (r.mono s) (rs.mono s)
theorem KVr.length : ∀ {kvs : List (Key × V)} {es : List (Key × D)}, KVr K mg rho F kvs es → kvs.length = es.length
  | _, _, .nil => rfl
  | _, _, .cons _ rs => by simp [rs.length]
theorem KVr.find (k : Key) : ∀ {kvs : List (Key × V)} {es : List (Key × D)}, KVr K mg rho F kvs es → (∃ v d, valV kvs k = some v ∧ findK es k = some d ∧ Rp K mg rho F v d) ∨ (valV kvs k = none ∧ findK es k = none)
  | _, _, .nil => .inr ⟨rfl, rfl⟩
  | _, _, .cons (k := j) (v := v) (d := d) r rs => by
    by_cases e : j = k
    · exact .inl ⟨v, d, by simp [valV, e], by simp [findK, e], r⟩
    · rcases KVr.find k rs with ⟨v', d', h1, h2, h3⟩ | ⟨h1, h2⟩
      · exact .inl ⟨v', d', by simpa [valV, e] using h1, by simpa [findK, e] using h2, h3⟩
      · exact .inr ⟨by simpa [valV, e] using h1, by simpa [findK, e] using h2⟩
theorem KVr.any (k : Key) : ∀ {kvs : List (Key × V)} {es : List (Key × D)}, KVr K mg rho F kvs es → (kvs.any fun kv => decide (kv.1 = k)) = es.any fun kv => decide (kv.1 = k)
  | _, _, .nil => rfl
  | _, _, .cons r rs => by simp [KVr.any k rs]
theorem KVr.repl (k : Key) {v : V} {d : D} (r : Rp K mg rho F v d) : ∀ {kvs : List (Key × V)} {es : List (Key × D)}, KVr K mg rho F kvs es → KVr K mg rho F (kvs.map fun kv => if kv.1 = k then (kv.1, v) else kv) (es.map fun kv => if kv.1 = k then (kv.1, d) else kv)
  | _, _, .nil => .nil
  | _, _, .cons (k := j) r0 rs => by
    simp only [List.map_cons]
    by_cases e : j = k
    · rw [if_pos e, if_pos e]; exact .cons r (KVr.repl k r rs)
    · rw [if_neg e, if_neg e]; exact .cons r0 (KVr.repl k r rs)
theorem KVr.snoc {k : Key} {v : V} {d : D} (r : Rp K mg rho F v d) : ∀ {kvs : List (Key × V)} {es : List (Key × D)}, KVr K mg rho F kvs es → KVr K mg rho F (kvs ++ [(k, v)]) (es ++ [(k, d)])
  | _, _, .nil => .cons r .nil
  | _, _, .cons r0 rs => .cons r0 (rs.snoc r)
theorem KVr.put (k : Key) {v : V} {d : D} (r : Rp K mg rho F v d) {kvs : List (Key × V)} {es : List (Key × D)} (h : KVr K mg rho F kvs es) : KVr K mg rho F (putK kvs k v) (putD es k d) := by
  unfold putK putD
  rw [h.any k]
  split
  · exact h.repl k r
  · exact h.snoc r
theorem KVr.merge {more : List (Key × V)} {ms : List (Key × D)} (h1 : KVr K mg rho F more ms) : ∀ {kvs : List (Key × V)} {es : List (Key × D)}, KVr K mg rho F kvs es → KVr K mg rho F (mergeK kvs more) (ms.foldl (fun acc kv => putD acc kv.1 kv.2) es) := by
  induction h1 with
  | nil => intro kvs es h; exact h
  | @cons k v d vs ds r rs ih => intro kvs es h; exact ih (h.put k r)
theorem keysT {kvs : List (List Key × V)} {ds : List (D × D)} {p : Key × D} {ps : List (Key × D)} (r : RpT K mg rho F kvs ds) (h : keysOf ds = some (p :: ps)) : False := by
  cases r with
  | nil => cases h
  | cons r rs => simp [keysOf, keyOf] at h
theorem Rp.tyDct {v : V} {kvs : List (D × D)} (e : Same F H) (r : Rp K mg rho F v (.dct kvs)) : tyV K "dict" v H := by
  cases r with
  | dK h _ => exact .inr (.inr (.inl ⟨rfl, .inl ⟨_, e _ _ h⟩⟩))
  | dT h _ => exact .inr (.inr (.inl ⟨rfl, .inr ⟨_, e _ _ h⟩⟩))
theorem Rp.keyV {v : V} {d : D} {k : Key} (h : keyOf d = some k) (r : Rp K mg rho F v d) : v = kV k := by
  rw [keyOf_eq h] at r
  cases k <;> (cases r; rfl)
end
theorem mt_get2 {X : Cx} (hu : X.A.units + 1 < cLine) : MtR X "dict.get" (fun x xs H Q => ∃ a y d o, x = .ref a ∧ xs = [y, d] ∧ DGet H a y o ∧ Q (o.getD d) H) := fun pins s σ H x xs v us Q I rx rxs h => by
  obtain ⟨a, y, d, o, rfl, rfl, g, q⟩ := h
  obtain ⟨u1, u2, rfl, r1, r2⟩ := vals2 rxs
  cases (show v = Value.ref a from rx)
  exact d_get2 hu I g r1 r2 fun w' s' I' r' => ⟨_, H, I', r', q⟩
section
variable {fs : List Sem}
theorem mr_get2 : MrOk fs .get2 := by
  intro X W C k g e q ps h sa sb ha hb hlen _
  unfold mrC at h
  split at h
  all_goals try contradiction
  all_goals try (cases h; done)
  · rename_i heq
    split at h
    · rename_i p x ap e1 e2 pos hc
      cases h
      simp only [Bool.and_eq_true, decide_eq_true_eq] at hc
      obtain ⟨⟨⟨⟨rfl, h2⟩, h3⟩, h4⟩, h5⟩ := hc
      refine ⟨PE.imp (pe_bm PySem.F.plainAttrs_dict PySem.F.slot_dict_get PySem.F.type_dict_get (mt_get2 (by have := units_of g; omega)) ha hb (base_plain h2) (by rw [star_cons h3, star_cons h4]; rfl) h5 (star_cons h3) (by rw [star_cons h4]; rfl)) ?_, fun _ => rfl, rfl⟩
      rintro σ H Q ⟨rho, F, env, m, A, En, h⟩
      refine ⟨rho, F, env, m, A, En, RdE.bind h fun d m1 v r1 F1 H1 s1 A1 q1 h1 => ?_⟩
      cases d with
      | dct kvs =>
        simp only [mrG, isDct, if_true] at h1
        refine ⟨q1.tyDct A1.ex, r1, F1, env, m1, A1, En.mono s1.onto, RdE.bind h1 fun ds m2 vs r2 F2 H2 s2 A2 q2 h2 => ?_⟩
        match ds, vs, q2, h2 with
        | [kd, vd], [kv, vv], .cons qk (.cons qv .nil), h2 =>
          simp only [mrD] at h2
          split at h2
          · rename_i k p ps hk hks
            have ek := qk.keyV hk
            subst ek
            have q3 := q1.mono s2.onto
            cases q3 with
            | dK hp hr =>
              obtain ⟨es, w1, w2, w3⟩ := hr.kvr
              rw [hks] at w1
              cases w1
              refine ⟨_, _, _, _, rfl, rfl, .inl ⟨_, k, .inl (A2.ex _ _ hp), rfl, rfl⟩, ?_⟩
              rcases w2.find k with ⟨v', d', f1, f2, f3⟩ | ⟨f1, f2⟩
              · rw [f2] at h2; rw [f1]; exact h2 _ _ _ _ Step.refl A2 f3
              · rw [f2] at h2; rw [f1]; exact h2 _ _ _ _ Step.refl A2 qv
            | dT hp hr => exact (keysT hr hks).elim
          · exact h2.elim
        | [], _, _, h2 => simp only [mrD] at h2; exact h2.elim
        | [_], _, _, h2 => simp only [mrD] at h2; exact h2.elim
        | _ :: _ :: _ :: _, _, _, h2 => simp only [mrD] at h2; exact h2.elim
      | _ => simp only [mrG, isDct, Bool.false_eq_true, if_false] at h1; exact h1.elim
    · cases h
theorem rg_D {K : PySem.W.Frag} {mg : Str → Option Value} {rho : List Addr} {F : Hp} {j : Int} : RpL K mg rho F (rgV 0 j) ((List.range j.toNat).map fun (i : Nat) => D.int (i : Int)) := by
  unfold rgV
  rw [Int.sub_zero]
  generalize List.range j.toNat = l
  induction l with
  | nil => exact .nil
  | cons a r ih =>
    simp only [List.map_cons, Int.zero_add]
    exact .cons .int (by simpa using ih)
theorem mr_lrng : MrOk fs .lrng := by
  intro X W C k g e q ps h sa sb ha hb _ h0
  unfold mrC at h
  split at h
  all_goals try contradiction
  all_goals try (cases h; done)
  · rename_i heq
    split at h
    · rename_i x xp y yp p pos2 pos hc
      cases h
      simp only [Bool.and_eq_true, decide_eq_true_eq] at hc
      obtain ⟨⟨⟨⟨rfl, h2⟩, rfl⟩, h4⟩, h5⟩ := hc
      obtain ⟨gl, hd, hn⟩ := gl_of g h2
      obtain ⟨gl2, hd2, hn2⟩ := gl_of g h4
      refine ⟨PE.imp (pe_listRg g.calm gl (g.nob _ (by decide +kernel)) (prg_1 gl2 (g.nob _ (by decide +kernel)) ha (star_cons h5)) (star_cons rfl)) ?_, fun _ => rfl, rfl⟩
      rintro σ H Q ⟨rho, F, env, m, A, En, h⟩
      refine ⟨rho, F, env, m, A, En, RdE.bind h fun d m1 v r1 F1 H1 s1 A1 q1 h1 => ?_⟩
      simp only [mrG, if_true, h0 rfl, R.bind] at h1
      cases d with
      | int j =>
        simp only [mrD] at h1
        split at h1
        · rename_i hj
          cases q1
          refine ⟨j, rfl, ⟨by decide, by decide, hj.1, by omega, by omega⟩, fun p np => ?_⟩
          obtain ⟨st, A'⟩ := A1.fresh (o := .lst (rgV 0 j)) np
          exact h1 _ _ _ _ st A' (.lst upd_same rg_D)
        · exact h1.elim
      | _ => simp only [mrD] at h1; exact h1.elim
    · cases h
theorem call_listS {X : Cx} (hc : X.calm = true) : CallR X (.type "list") (fun xs H Q => ∃ x, xs = [V.str x] ∧ x.cps.size ≤ sizeLine ∧ ∀ p, H p = none → Q (.ref p) (upd H p (.lst (x.cps.toList.map fun c => V.str ⟨#[c]⟩)))) := by
  intro pins s σ H xs us Q I r h
  obtain ⟨x, rfl, hl, q⟩ := h
  obtain ⟨u, rfl, rx⟩ := vals1 r
  obtain ⟨t, rfl⟩ := (show ∃ t, u = Value.str x t from rx)
  refine call_list_str (I.ok.hd hc) x t (fun h' tk acc c' hk hS hi => ?_) hl
  refine ⟨.ref s.heap.objs.size, upd H s.heap.objs.size (.lst (x.cps.toList.map fun c => V.str ⟨#[c]⟩)), I.laid hk (Nat.le_refl _) (show ObjOk X.prog X.w _ _ _ (.lst (x.cps.toList.map fun c => V.str ⟨#[c]⟩)) from ⟨?_, acc.toList, c', ?_, ?_⟩), rfl, q _ (I.hok.fresh (Nat.le_refl _))⟩
  · rw [List.length_map, Array.length_toList]; exact hl
  · refine vals_of_at (by rw [List.length_map, Array.length_toList, Array.length_toList, hi.1]) fun j y w h1 h2 => ?_
    have h3 := hi.2 j w (by rw [← Array.getElem?_toList]; exact h2)
    rw [List.getElem?_map, Array.getElem?_toList] at h1
    cases hz : x.cps[j]? with
    | none => rw [hz] at h1; cases h1
    | some c =>
      rw [hz] at h1
      cases h1
      obtain ⟨c2, t2, e1, rfl⟩ := h3
      rw [hz] at e1; cases e1
      exact ⟨t2, rfl⟩
  · rw [Array.toArray_toList]; exact hS
theorem chars_D {K : PySem.W.Frag} {mg : Str → Option Value} {rho : List Addr} {F : Hp} : ∀ l : List Nat, RpL K mg rho F (l.map fun c => V.str ⟨#[c]⟩) (l.map fun c => D.str ⟨#[c]⟩)
  | [] => .nil
  | _ :: l => .cons .str (chars_D l)
theorem mr_lstr : MrOk fs .lstr := by
  intro X W C k g e q ps h sa sb ha hb _ h0
  unfold mrC at h
  split at h
  all_goals try contradiction
  all_goals try (cases h; done)
  · rename_i heq
    split at h
    · rename_i x xp p pos hc
      cases h
      simp only [Bool.and_eq_true, decide_eq_true_eq] at hc
      obtain ⟨⟨rfl, h2⟩, h5⟩ := hc
      obtain ⟨gl, hd, hn⟩ := gl_of g h2
      refine ⟨PE.imp (pe_callTy (call_listS g.calm) gl (g.nob _ (by decide +kernel)) (by decide +kernel) (pa_cons ha pa_nil (star_cons h5)) hn hd (star_cons h5) rfl) ?_, fun _ => rfl, rfl⟩
      rintro σ H Q ⟨rho, F, env, m, A, En, h⟩
      refine ⟨rho, F, env, m, A, En, RdE.bind h fun d m1 v r1 F1 H1 s1 A1 q1 h1 => ?_⟩
      simp only [mrG, if_true, h0 rfl, R.bind] at h1
      cases d with
      | str x =>
        simp only [mrD] at h1
        split at h1
        · rename_i hj
          cases q1
          refine ⟨x, rfl, hj, fun p np => ?_⟩
          obtain ⟨st, A'⟩ := A1.fresh (o := .lst (x.cps.toList.map fun c => V.str ⟨#[c]⟩)) np
          exact h1 _ _ _ _ st A' (.lst upd_same (chars_D _))
        · exact h1.elim
      | _ => simp only [mrD] at h1; exact h1.elim
    · cases h
theorem mrAll : ∀ p : Mr, MrOk fs p
  | .lrng => mr_lrng
  | .lstr => mr_lstr
  | .fldx f cs => mr_fldx f cs
  | .isx c tbl => mr_isx c tbl
  | .get2 => mr_get2
/-! ### the display of a dict -/
def AllS (fs : List Sem) : T → Prop
  | .cons a es => SndP fs a ∧ AllS fs es
  | _ => True
def trsOf (X : Cx) (W : WX) (fs : List Sem) : T → List (TE × TE)
  | .cons a (.cons b r) => (tE X W (evE fs a), tE X W (evE fs b)) :: trsOf X W fs r
  | _ => []
theorem chkA_cons {C : Ck} {es : T} {p : Expr} {ps : List Expr} (h : chkA C es (p :: ps) = true) : ∃ a r, es = .cons a r ∧ plainB p = true ∧ chk C a p = true ∧ chkA C r ps = true := by
  cases es <;> first | (simp [chkA] at h; done) | skip
  simp only [chkA, Bool.and_eq_true] at h
  exact ⟨_, _, rfl, h.1.1, h.1.2, h.2⟩
theorem pps_of {X : Cx} {W : WX} {C : Ck} {k : Nat} {pos : Pos} (g : GdE X W C fs k) : ∀ {es : T} {ks : List (Option Expr)} {vs ps : List Expr}, flatPairs ks vs = some ps → chkA C es ps = true → AllS fs es → PPs X pos ks vs (trsOf X W fs es)
  | es, [], [], ps, h, hc, _ => by
    cases h
    cases es <;> first | exact pps_nil | (simp [chkA] at hc)
  | es, some kx :: ks, v :: vs, ps, h, hc, hs => by
    simp only [flatPairs, Option.map_eq_some_iff] at h
    obtain ⟨r, h1, rfl⟩ := h
    obtain ⟨a, r1, rfl, _, c1, hc⟩ := chkA_cons hc
    obtain ⟨b, r2, rfl, _, c2, c3⟩ := chkA_cons hc
    exact pps_cons ((hs.1 X W C k g).1 _ c1).v ((hs.2.1 X W C k g).1 _ c2).v (pps_of g h1 c3 hs.2.2)
  | es, none :: _, _, ps, h, _, _ => by simp [flatPairs] at h
  | es, [], _ :: _, ps, h, _, _ => by simp [flatPairs] at h
  | es, some _ :: _, [], ps, h, _, _ => by simp [flatPairs] at h
def pairV : List V → Option (List (V × V))
  | [] => some []
  | a :: b :: r => (pairV r).map fun q => (a, b) :: q
  | _ => none
def evenT : T → Bool
  | .nil => true
  | .cons _ (.cons _ r) => evenT r
  | _ => false
theorem even_of : ∀ {es : T} {ks : List (Option Expr)} {vs ps : List Expr} {C : Ck}, flatPairs ks vs = some ps → chkA C es ps = true → evenT es = true
  | es, [], [], ps, C, h, hc => by
    cases h
    cases es <;> first | rfl | (simp [chkA] at hc)
  | es, some kx :: ks, v :: vs, ps, C, h, hc => by
    simp only [flatPairs, Option.map_eq_some_iff] at h
    obtain ⟨r, h1, rfl⟩ := h
    obtain ⟨a, r1, rfl, _, c1, hc⟩ := chkA_cons hc
    obtain ⟨b, r2, rfl, _, c2, c3⟩ := chkA_cons hc
    show evenT r2 = true
    exact even_of (ks := ks) (vs := vs) h1 c3
  | es, none :: _, _, ps, C, h, _ => by simp [flatPairs] at h
  | es, [], _ :: _, ps, C, h, _ => by simp [flatPairs] at h
  | es, some _ :: _, [], ps, C, h, _ => by simp [flatPairs] at h
theorem pairs_step {X : Cx} {W : WX} {σ : L2.St} {env : Env} : ∀ {es : T} {rho : List Addr} {F H : Hp} {m : M} {R : List (V × V) → Hp → Prop}, evenT es = true → Abs X.K X.mg rho F H m → RpEnv X.K X.mg rho F σ env →
    RdE X.K X.mg W σ (relL X.K X.mg) rho F H (fun vs H' => ∃ ps, pairV vs = some ps ∧ R ps H') (evA fs es env m) → tPairs (trsOf X W fs es) σ H R
  | .nil, rho, F, H, m, R, _, A, En, h => by
    simp only [evA] at h
    obtain ⟨ps, h1, h2⟩ := h [] _ _ _ Step.refl A .nil
    cases h1
    exact h2
  | .cons a (.cons b r), rho, F, H, m, R, he, A, En, h => by
    have he' : evenT r = true := by simpa [evenT] using he
    simp only [evA] at h
    refine ⟨rho, F, env, m, A, En, RdE.bind h fun d m1 v r1 F1 H1 s1 A1 q1 h1 => ?_⟩
    have h1' := RdE.bind (rel2 := relL X.K X.mg) (Q' := fun us H' => ∃ ps, pairV (v :: us) = some ps ∧ R ps H') h1 (fun ds m2 us r2 F2 H2 s2 A2 q2 h2 => h2 (v :: us) _ _ _ Step.refl A2 (.cons (q1.mono s2.onto) q2))
    refine ⟨r1, F1, env, m1, A1, En.mono s1.onto, RdE.bind h1' fun e m2 u r2 F2 H2 s2 A2 q2 h2 => ?_⟩
    have h2' := RdE.bind (rel2 := relL X.K X.mg) (Q' := fun us H' => ∃ ps, pairV us = some ps ∧ R ((v, u) :: ps) H') h2 (fun ds m3 us r3 F3 H3 s3 A3 q3 h3 => by
      obtain ⟨ps, p1, p2⟩ := h3 (u :: us) _ _ _ Step.refl A3 (.cons (q2.mono s3.onto) q3)
      simp only [pairV, Option.map_eq_some_iff] at p1
      obtain ⟨q, p1, rfl⟩ := p1
      exact ⟨q, p1, p2⟩)
    exact pairs_step he' A2 ((En.mono s1.onto).mono s2.onto) h2'
  | .cons a .nil, _, _, _, _, _, he, _, _, _ => by simp [evenT] at he
theorem pairs_rp {K : PySem.W.Frag} {mg : Str → Option Value} {rho : List Addr} {F : Hp} : ∀ {ds : List D} {vs : List V} {es : List (Key × D)}, RpL K mg rho F vs ds → pairsD ds = some es → ∃ kvs, KVr K mg rho F kvs es ∧ pairV vs = some (kvs.map fun kv => (kV kv.1, kv.2))
  | [], _, es, r, h => by
    cases r
    simp only [pairsD] at h
    cases h
    exact ⟨[], .nil, rfl⟩
  | [_], _, es, r, h => by simp [pairsD] at h
  | k :: v :: ds, _, es, r, h => by
    simp only [pairsD] at h
    split at h
    · rename_i kk rr hk hr
      cases h
      cases r with
      | cons q1 r =>
        cases r with
        | cons q2 r =>
          obtain ⟨kvs, w1, w2⟩ := pairs_rp r hr
          have e := q1.keyV hk
          subst e
          exact ⟨(kk, _) :: kvs, .cons q2 w1, by simp [pairV, w2]⟩
    · cases h
theorem pairs_len : ∀ {ds : List D} {es : List (Key × D)}, pairsD ds = some es → 2 * es.length = ds.length
  | [], es, h => by simp only [pairsD] at h; cases h; rfl
  | [_], es, h => by simp [pairsD] at h
  | k :: v :: ds, es, h => by
    simp only [pairsD] at h
    split at h
    · rename_i kk rr hk hr
      cases h
      have := pairs_len hr
      simp only [List.length_cons]; omega
    · cases h
theorem flat_len : ∀ {ks : List (Option Expr)} {vs ps : List Expr}, flatPairs ks vs = some ps → ps.length = 2 * ks.length ∧ ks.length = vs.length ∧ ks.all (·.isSome) = true
  | [], [], ps, h => by cases h; exact ⟨rfl, rfl, rfl⟩
  | some k :: ks, v :: vs, ps, h => by
    simp only [flatPairs, Option.map_eq_some_iff] at h
    obtain ⟨r, h1, rfl⟩ := h
    obtain ⟨a, b, c⟩ := flat_len h1
    exact ⟨by simp only [List.length_cons]; omega, by simp [b], by simpa using c⟩
  | none :: _, _, ps, h => by simp [flatPairs] at h
  | [], _ :: _, ps, h => by simp [flatPairs] at h
  | some _ :: _, [], ps, h => by simp [flatPairs] at h
theorem snd_dcte {es : T} (Pe : AllS fs es) : SndP fs (.dcte es) := fun X W C k g => ⟨fun pe h => by
  cases pe with
  | Dict ks vs pos =>
    simp only [chk] at h
    split at h
    · rename_i ps hf
      simp only [Bool.and_eq_true, decide_eq_true_eq] at h
      obtain ⟨⟨h1, h2⟩, h3⟩ := h
      obtain ⟨l1, l2, l3⟩ := flat_len hf
      refine SndE.plain (PE.imp (pe_disp (pps_of g hf h3 Pe) l3 l2 h1 h2) ?_) (fun _ => rfl) rfl
      rintro σ H Q ⟨rho, F, env, m, A, En, h⟩ p np
      simp only [evE] at h
      have nr : p ∉ rho := A.notmem np
      have nF : F p = none := by
        cases e : F p with
        | none => rfl
        | some u => rw [A.ex p u e] at np; cases np
      have A' : Abs X.K X.mg rho F (upd H p (.dK [])) m := A.side nr nF
      have s0 : Step rho F H rho F (upd H p (.dK [])) := Step.side Step.refl np
      refine pairs_step (even_of hf h3) A' En ?_
      cases ev : evA fs es env m with
      | no => rw [ev] at h; exact h
      | ex c m1 =>
        rw [ev] at h
        exact fun cls dx r1 F1 H1 s1 A1 q1 => h cls dx r1 F1 H1 (s0.trans s1) A1 q1
      | ok ds m1 =>
        rw [ev] at h
        have hd : RdE X.K X.mg W σ (relD X.K X.mg) rho F H Q (dcteD ds m1) := h
        intro us r1 F1 H1 s1 A1 q1
        unfold dcteD at hd
        split at hd
        · rename_i es' he
          obtain ⟨kvs, w1, w2⟩ := pairs_rp q1 he
          obtain ⟨k1, k2⟩ := s1.old p _ upd_same nr
          have lk : kvs.length ≤ 15 := by
            have a1 := w1.length
            have a2 := pairs_len he
            have a3 := evA_len h3 ev
            omega
          refine ⟨_, w2, k1, kvs, rfl, lk, ?_⟩
          have nr1 : p ∉ r1 := fun hm => by
            obtain ⟨rr, e1, e2⟩ := s1.pre
            rw [e1] at hm
            rcases List.mem_append.mp hm with z | z
            · exact nr z
            · have := e2 p z
              rw [upd_same] at this; cases this
          have nF1 : F1 p = none := k2.trans nF
          have st : Step rho F H r1 F1 (upd H1 p (.dK (mergeK [] kvs))) := Step.side (s0.trans s1) np
          have A2 : Abs X.K X.mg r1 F1 (upd H1 p (.dK (mergeK [] kvs))) m1 := A1.side nr1 nF1
          have st2 := Step.sideFix (o := .dK (mergeK [] kvs)) st np nF1
          have A3 := A2.sideFix nr1 nF1 (upd_same : upd H1 p (.dK (mergeK [] kvs)) p = some _)
          refine hd _ _ _ _ st2 A3 (.dK upd_same ?_)
          have on : Onto r1 F1 r1 (upd F1 p (.dK (mergeK [] kvs))) := ⟨fun h => h, fun b u h => by rw [upd_ne (ne_of_none h nF1)]; exact h⟩
          exact ((w1.mono on).merge .nil).rpk
        · exact hd.elim
    · cases h
  | _ => simp [chk] at h, noA fun C ps => by cases ps <;> rfl⟩
theorem snd_prm (p : Pr) {es : T} (Pe : SndP fs es) : SndP fs (.prm p es) := fun X W C k g => ⟨fun pe h => by
  simp only [chk] at h
  split at h
  · rename_i ps hp
    obtain ⟨q1, q2, q3⟩ := prAll p X W C k g pe ps hp _ ((Pe X W C k g).2 _ h)
    have eq : evE fs (.prm p es) = fun env m => (evA fs es env m).bind fun ds m => prD fs p ds m := by funext env m; simp only [evE]
    refine SndE.plain ?_ q2 q3
    rw [eq]
    exact q1
  · exact Bool.noConfusion h, noA fun C ps => by cases ps <;> rfl⟩
theorem nil_of {es : T} {C : Ck} (h : chkA C es [] = true) : es = .nil := by
  cases es <;> first | rfl | (simp [chkA] at h)
theorem snd_mth (p : Mr) {a es : T} (Pa : SndP fs a) (Pe : SndP fs es) : SndP fs (.mth p a es) := fun X W C k g => ⟨fun pe h => by
  simp only [chk] at h
  split at h
  · rename_i q ps hp
    simp only [Bool.and_eq_true] at h
    obtain ⟨q1, q2, q3⟩ := mrAll p X W C k g pe q ps hp _ _ ((Pa X W C k g).1 _ h.1).v ((Pe X W C k g).2 _ h.2) (fun env m ds m1 e => evA_len h.2 e) (fun z env m => by subst z; rw [nil_of h.2]; simp only [evA])
    have eq : evE fs (.mth p a es) = fun env m => (evE fs a env m).bind fun d m => if mrG p d m then (evA fs es env m).bind fun ds m => mrD fs p d ds m else .no := by funext env m; simp only [evE]
    refine SndE.plain ?_ q2 q3
    rw [eq]
    exact q1
  · exact Bool.noConfusion h, noA fun C ps => by cases ps <;> rfl⟩
end
end HB
namespace HB
open PySem L2
/-- an operator by data, as it reads -/
abbrev rOf (X : Cx) (g : D → D → M → R D) : R2 := fun x y H Q => ∃ rho F m d e, Abs X.K X.mg rho F H m ∧ Rp X.K X.mg rho F x d ∧ Rp X.K X.mg rho F y e ∧ RdO X.K X.mg rho F H Q (g d e m)
section
variable {fs : List Sem}
theorem snd_var (i : Nat) : SndP fs (.var i) := fun X W C k g => ⟨fun pe h => by
  cases pe with
  | Name x pos =>
    simp only [chk, Bool.and_eq_true, decide_eq_true_eq] at h
    obtain ⟨⟨h1, h2⟩, h3⟩ := h
    obtain ⟨a, b, c⟩ := okN_of h3
    exact SndE.plain (PE.imp (pe_var (i := i) (by rw [g.N]; exact h1) (by rw [g.sc]; exact vis_of h2) a b) (step_var fun env m => by first | (rw [evE]; done) | (rw [evE]; rfl))) (fun _ => rfl) rfl
  | _ => simp [chk] at h, noA fun C ps => by cases ps <;> rfl⟩
theorem snd_const {e : T} {v : V} {d : D} {pe : Expr} {X : Cx} {W : WX} (he : ∀ env m, evE fs e env m = .ok d m) (hr : ∀ rho F, Rp X.K X.mg rho F v d) (hp : PE X pe (tC v)) (ht : ∀ whole, isTrue pe X.env whole = (do let v ← whole; standAt pe.pos; holding [v] (truthy v))) (nb : isBoolOp pe = false) : SndE X W fs e pe :=
  SndE.plain (PE.imp hp (step_c he hr)) ht nb
theorem snd_non : SndP fs .non := fun X W C k g => ⟨fun pe h => by
  cases pe with
  | Constant c j pos =>
    cases c with
    | none => exact snd_const (v := .non) (d := .non) (fun env m => by simp only [evE]) (fun _ _ => .non) pe_non (fun _ => rfl) rfl
    | _ => simp [chk] at h
  | _ => simp [chk] at h, noA fun C ps => by cases ps <;> rfl⟩
theorem snd_bl (b : Bool) : SndP fs (.bl b) := fun X W C k g => ⟨fun pe h => by
  cases pe with
  | Constant c j pos =>
    cases c with
    | bool c =>
      have e : b = c := by simpa [chk] using h
      subst e
      exact snd_const (v := .bl b) (d := .bl b) (fun env m => by simp only [evE]) (fun _ _ => .bl) pe_bl (fun _ => rfl) rfl
    | _ => simp [chk] at h
  | _ => simp [chk] at h, noA fun C ps => by cases ps <;> rfl⟩
theorem snd_int (i : Int) : SndP fs (.int i) := fun X W C k g => ⟨fun pe h => by
  cases pe with
  | Constant c j pos =>
    cases c with
    | int c =>
      have e : i = c := by simpa [chk] using h
      subst e
      exact snd_const (v := .int i) (d := .int i) (fun env m => by simp only [evE]) (fun _ _ => .int) pe_int (fun _ => rfl) rfl
    | _ => simp [chk] at h
  | _ => simp [chk] at h, noA fun C ps => by cases ps <;> rfl⟩
theorem snd_str (x : Str) : SndP fs (.str x) := fun X W C k g => ⟨fun pe h => by
  cases pe with
  | Constant c j pos =>
    cases c with
    | str c =>
      have e : x = c := by simpa [chk] using h
      subst e
      exact snd_const (v := .str x) (d := .str x) (fun env m => by simp only [evE]) (fun _ _ => .str) pe_str (fun _ => rfl) rfl
    | _ => simp [chk] at h
  | _ => simp [chk] at h, noA fun C ps => by cases ps <;> rfl⟩
theorem snd_gint (x : Str) (i : Int) : SndP fs (.gint x i) := fun X W C k g => ⟨fun pe h => by
  cases pe with
  | Name y pos =>
    simp only [chk, Bool.and_eq_true, decide_eq_true_eq] at h
    obtain ⟨⟨h1, h2⟩, h3⟩ := h
    subst h1
    obtain ⟨a, b, c⟩ := gl_of g h2
    obtain ⟨t, ht⟩ := g.tb.gi x i h3
    exact snd_const (v := .int i) (d := .int i) (fun env m => by simp only [evE]) (fun _ _ => .int) (pe_glob a ht ⟨t, rfl⟩ b) (fun _ => rfl) rfl
  | _ => simp [chk] at h, noA fun C ps => by cases ps <;> rfl⟩
theorem snd_bin (o : BOp) {a b : T} (Pa : SndP fs a) (Pb : SndP fs b) : SndP fs (.bin o a b) := fun X W C k g => ⟨fun pe h => by
  cases pe with
  | BinOp p q r pos =>
    simp only [chk, Bool.and_eq_true, decide_eq_true_eq] at h
    obtain ⟨⟨h1, h2⟩, h3⟩ := h
    subst h1
    refine SndE.plain ?_ (fun _ => rfl) rfl
    simp only [funext fun env => funext fun m => (by simp only [evE] : evE fs (.bin o a b) env m = (evE fs a env m).bind fun d m => (evE fs b env m).bind fun e m => bopD o d e m)]
    exact PE.imp (pe_op (od_bin o) (((Pa X W C k g).1 _ h2).v) (((Pb X W C k g).1 _ h3).v)) (step_op (f := binaryOp (bopO o)) rfl fun d e m c m' => bop_noex)
  | _ => simp [chk] at h, noA fun C ps => by cases ps <;> rfl⟩
theorem snd_neg {a : T} (Pa : SndP fs a) : SndP fs (.neg a) := fun X W C k g => ⟨fun pe h => by
  cases pe with
  | UnaryOp op p pos =>
    cases op with
    | USub =>
      simp only [chk] at h
      refine SndE.plain ?_ (fun _ => rfl) rfl
      refine PE.imp (pe_un un_neg (((Pa X W C k g).1 _ h).v)) ?_
      rintro σ H Q ⟨rho, F, env, m, A, En, h⟩
      simp only [evE] at h
      refine ⟨rho, F, env, m, A, En, RdE.bind h fun d m1 v r1 F1 H1 s1 A1 q1 h1 => ?_⟩
      split at h1
      · cases q1; exact ⟨_, rfl, h1 _ _ _ _ Step.refl A1 .int⟩
      · exact h1.elim
    | _ => simp [chk] at h
  | _ => simp [chk] at h, noA fun C ps => by cases ps <;> rfl⟩
theorem snd_not {a : T} (Pa : SndP fs a) : SndP fs (.not a) := fun X W C k g => ⟨fun pe h => by
  cases pe with
  | UnaryOp op p pos =>
    cases op with
    | Not =>
      simp only [chk] at h
      have S := (Pa X W C k g).1 _ h
      refine ⟨PE.imp (pe_notT S.v) fun σ H Q q => step_not σ H Q ?_, PT.imp (pt_not S.t) fun σ H Q q => step_notT σ H Q ?_, fun z => by cases z⟩
      · obtain ⟨rho, F, env, m, A, En, q⟩ := q
        exact ⟨rho, F, env, m, A, En, by simpa only [evE] using q⟩
      · obtain ⟨rho, F, env, m, A, En, q⟩ := q
        exact ⟨rho, F, env, m, A, En, by simpa only [evT, evE] using q⟩
    | _ => simp [chk] at h
  | _ => simp [chk] at h, noA fun C ps => by cases ps <;> rfl⟩
theorem snd_and {a b : T} (Pa : SndP fs a) (Pb : SndP fs b) : SndP fs (.and a b) := fun X W C k g => ⟨fun pe h => by
  cases pe with
  | BoolOp op es pos =>
    cases op with
    | And =>
      match es, h with
      | p :: q :: rest, h =>
        simp only [chk, Bool.and_eq_true] at h
        obtain ⟨h1, h2⟩ := h
        have Sa := (Pa X W C k g).1 _ h1
        have tail : PE X (.BoolOp .And (q :: rest) pos) (tE X W (evE fs b)) ∧ PW X (.BoolOp .And (q :: rest) pos) (tT X W (evT fs b)) := by
          cases rest with
          | nil =>
            simp only [List.isEmpty_nil, if_true] at h2
            have Sb := (Pb X W C k g).1 _ h2
            exact ⟨pe_one Sb.v, pw_and1 Sb.t⟩
          | cons r rest =>
            simp only [List.isEmpty_cons, Bool.false_eq_true, if_false] at h2
            have Sb := (Pb X W C k g).1 _ h2
            exact ⟨Sb.v, Sb.w rfl⟩
        have pw : PW X (.BoolOp .And (p :: q :: rest) pos) (tT X W (evT fs (.and a b))) := by
          refine ⟨fun wh pins s σ H Q I z => (pw_and Sa.t tail.2).run wh pins s σ H Q I (step_andT σ H Q ?_)⟩
          obtain ⟨rho, F, env, m, A, En, z⟩ := z
          exact ⟨rho, F, env, m, A, En, by simpa only [evT, evE] using z⟩
        refine ⟨PE.imp (pe_andT Sa.v tail.1) fun σ H Q z => step_and σ H Q ?_, pw.pt, fun _ => pw⟩
        obtain ⟨rho, F, env, m, A, En, z⟩ := z
        exact ⟨rho, F, env, m, A, En, by simpa only [evE] using z⟩
      | [], h => simp [chk] at h
      | [_], h => simp [chk] at h
    | Or => simp [chk] at h
  | _ => simp [chk] at h, noA fun C ps => by cases ps <;> rfl⟩
theorem snd_or {a b : T} (Pa : SndP fs a) (Pb : SndP fs b) : SndP fs (.or a b) := fun X W C k g => ⟨fun pe h => by
  cases pe with
  | BoolOp op es pos =>
    cases op with
    | Or =>
      match es, h with
      | p :: q :: rest, h =>
        simp only [chk, Bool.and_eq_true] at h
        obtain ⟨h1, h2⟩ := h
        have Sa := (Pa X W C k g).1 _ h1
        have tail : PE X (.BoolOp .Or (q :: rest) pos) (tE X W (evE fs b)) ∧ PW X (.BoolOp .Or (q :: rest) pos) (tT X W (evT fs b)) := by
          cases rest with
          | nil =>
            simp only [List.isEmpty_nil, if_true] at h2
            have Sb := (Pb X W C k g).1 _ h2
            exact ⟨pe_one Sb.v, pw_or1 Sb.t⟩
          | cons r rest =>
            simp only [List.isEmpty_cons, Bool.false_eq_true, if_false] at h2
            have Sb := (Pb X W C k g).1 _ h2
            exact ⟨Sb.v, Sb.w rfl⟩
        have pw : PW X (.BoolOp .Or (p :: q :: rest) pos) (tT X W (evT fs (.or a b))) := by
          refine ⟨fun wh pins s σ H Q I z => (pw_or Sa.t tail.2).run wh pins s σ H Q I (step_orT σ H Q ?_)⟩
          obtain ⟨rho, F, env, m, A, En, z⟩ := z
          exact ⟨rho, F, env, m, A, En, by simpa only [evT, evE] using z⟩
        refine ⟨PE.imp (pe_orT Sa.v tail.1) fun σ H Q z => step_or σ H Q ?_, pw.pt, fun _ => pw⟩
        obtain ⟨rho, F, env, m, A, En, z⟩ := z
        exact ⟨rho, F, env, m, A, En, by simpa only [evE] using z⟩
      | [], h => simp [chk] at h
      | [_], h => simp [chk] at h
    | And => simp [chk] at h
  | _ => simp [chk] at h, noA fun C ps => by cases ps <;> rfl⟩
theorem snd_ite {c a b : T} (Pc : SndP fs c) (Pa : SndP fs a) (Pb : SndP fs b) : SndP fs (.ite c a b) := fun X W C k g => ⟨fun pe h => by
  cases pe with
  | IfExp p q r pos =>
    simp only [chk, Bool.and_eq_true] at h
    obtain ⟨⟨h1, h2⟩, h3⟩ := h
    have Sc := (Pc X W C k g).1 _ h1
    have Sa := (Pa X W C k g).1 _ h2
    have Sb := (Pb X W C k g).1 _ h3
    refine ⟨PE.imp (pe_ifExp Sc.t Sa.v Sb.v) fun σ H Q z => step_ite σ H Q ?_, PT.imp (pt_ifExp Sc.t Sa.t Sb.t) fun σ H Q z => step_iteT σ H Q ?_, fun z => by cases z⟩
    · obtain ⟨rho, F, env, m, A, En, z⟩ := z
      exact ⟨rho, F, env, m, A, En, by simpa only [evE] using z⟩
    · obtain ⟨rho, F, env, m, A, En, z⟩ := z
      exact ⟨rho, F, env, m, A, En, by simpa only [evT, evE] using z⟩
  | _ => simp [chk] at h, noA fun C ps => by cases ps <;> rfl⟩
/-- a comparison's test -/
theorem tst_of {X : Cx} {W : WX} {se : SE} {t : TE} (hv : ∀ σ H Q, tE X W se σ H Q → t σ H Q) (hb : ∀ env m f m', se env m = .ok f m' → ∃ b, f = .bl b) : ∀ σ H Q, tT X W (fun env m => (se env m).bind truthB) σ H Q → tTest t σ H Q := by
  rintro σ H Q ⟨rho, F, env, m, A, En, h⟩
  refine hv σ H _ ⟨rho, F, env, m, A, En, ?_⟩
  dsimp only at h
  cases e : se env m with
  | no => rw [e] at h; exact h
  | ex c m1 => rw [e] at h; exact h
  | ok d m1 =>
    obtain ⟨b, rfl⟩ := hb _ _ _ _ e
    rw [e] at h
    intro v r1 F1 H1 s1 A1 q1
    cases q1
    exact ⟨b, rfl, h b _ _ _ s1 A1 rfl⟩
theorem bind_ok {α β : Type} {r : R α} {f : α → M → R β} {b : β} {m' : M} (h : r.bind f = .ok b m') : ∃ a m, r = .ok a m ∧ f a m = .ok b m' := by
  cases r with
  | ok a m => exact ⟨a, m, rfl, h⟩
  | ex c m => cases h
  | no => cases h
theorem snd_cmp (o : COp) {a b : T} (Pa : SndP fs a) (Pb : SndP fs b) : SndP fs (.cmp o a b) := fun X W C k g => ⟨fun pe h => by
  cases pe with
  | Compare p ops rs pos =>
    match ops, rs, h with
    | [q], [r], h =>
      simp only [chk, Bool.and_eq_true, decide_eq_true_eq, Bool.not_eq_true'] at h
      obtain ⟨⟨⟨h1, hm⟩, h2⟩, h3⟩ := h
      subst h1
      have hu : X.A.units + 65 < cLine := by have := units_of g; omega
      have Sa := (Pa X W C k g).1 _ h2
      have Sb := (Pb X W C k g).1 _ h3
      have eq : evE fs (.cmp o a b) = fun env m => (evE fs a env m).bind fun d m => (evE fs b env m).bind fun e m => copD o d e m := by funext env m; simp only [evE]
      have st : ∀ σ H Q, tE X W (evE fs (.cmp o a b)) σ H Q → tOp (rOf X (copD o)) (tE X W (evE fs a)) (tE X W (evE fs b)) σ H Q := by
        rw [eq]
        exact step_op (f := compareOp (copO o)) rfl fun d e m c m' => cop_noex
      refine ⟨PE.imp (pe_cmpR (od_cmp hu o) Sa.v Sb.v hm) st, PT.imp (pt_cmpR (od_cmp hu o) Sa.v Sb.v hm) ?_, fun z => by cases z⟩
      refine tst_of st fun env m f m' e => ?_
      rw [eq] at e
      obtain ⟨_, _, _, e⟩ := bind_ok e
      obtain ⟨_, _, _, e⟩ := bind_ok e
      exact cop_bl e
    | [], _, h => simp [chk] at h
    | [_], [], h => simp [chk] at h
    | [_], _ :: _ :: _, h => simp [chk] at h
    | _ :: _ :: _, _, h => simp [chk] at h
  | _ => simp [chk] at h, noA fun C ps => by cases ps <;> rfl⟩
theorem snd_chain (o o2 : COp) {a b c : T} (Pa : SndP fs a) (Pb : SndP fs b) (Pc : SndP fs c) : SndP fs (.chain o o2 a b c) := fun X W C k g => ⟨fun pe h => by
  cases pe with
  | Compare p ops rs pos =>
    match ops, rs, h with
    | [q, q2], [r, r2], h =>
      simp only [chk, Bool.and_eq_true, decide_eq_true_eq, Bool.not_eq_true'] at h
      obtain ⟨⟨⟨⟨⟨h1, h12⟩, hm⟩, h2⟩, h3⟩, h4⟩ := h
      subst h1
      subst h12
      have hu : X.A.units + 65 < cLine := by have := units_of g; omega
      have Sa := (Pa X W C k g).1 _ h2
      have Sb := (Pb X W C k g).1 _ h3
      have Sc := (Pc X W C k g).1 _ h4
      have hl : lastMarks [copO o, copO o2] [r, r2] = false := hm
      have st : ∀ σ H Q, tE X W (evE fs (.chain o o2 a b c)) σ H Q → tChain (rOf X (copD o)) (rOf X (copD o2)) (tE X W (evE fs a)) (tE X W (evE fs b)) (tE X W (evE fs c)) σ H Q := by
        rintro σ H Q ⟨rho, F, env, m, A, En, h⟩
        simp only [evE] at h
        refine ⟨rho, F, env, m, A, En, RdE.bind h fun d m1 v r1 F1 H1 s1 A1 q1 h1 => ?_⟩
        refine ⟨r1, F1, env, m1, A1, En.mono s1.onto, RdE.bind h1 fun e m2 u r2 F2 H2 s2 A2 q2 h2 => ?_⟩
        refine ⟨r2, F2, m2, d, e, A2, q1.mono s2.onto, q2, ?_⟩
        cases ec : copD o d e m2 with
        | no => rw [ec] at h2; exact h2
        | ex c m3 => exact absurd ec cop_noex
        | ok f m3 =>
          rw [ec] at h2
          obtain ⟨bb, rfl⟩ := cop_bl ec
          intro w r3 F3 H3 s3 A3 q3
          cases q3
          refine ⟨bb, rfl, ?_⟩
          cases bb with
          | true =>
            refine iteT ⟨r3, F3, env, m3, A3, (En.mono (s1.trans s2).onto).mono s3.onto, RdE.bind (RdE.step (show RdE X.K X.mg W σ (relD X.K X.mg) r2 F2 H2 Q ((evE fs c env m3).bind fun g m => copD o2 e g m) from h2) s3) fun f m4 x r4 F4 H4 s4 A4 q4 h4 => ?_⟩
            exact ⟨r4, F4, m4, e, f, A4, (q2.mono s3.onto).mono s4.onto, q4, h4.of0 fun c m' => cop_noex⟩
          | false => exact iteF (h2 _ _ _ _ s3 A3 .bl)
      refine ⟨PE.imp (pe_chain (od_cmp hu o) (od_cmp hu o2) Sa.v Sb.v Sc.v hl) st, PT.imp (pt_chain (od_cmp hu o) (od_cmp hu o2) Sa.v Sb.v Sc.v hl) ?_, fun z => by cases z⟩
      refine tst_of st fun env m f m' e => ?_
      simp only [evE] at e
      obtain ⟨_, _, _, e⟩ := bind_ok e
      obtain ⟨_, _, _, e⟩ := bind_ok e
      obtain ⟨_, _, _, e⟩ := bind_ok e
      split at e
      · obtain ⟨_, _, _, e⟩ := bind_ok e
        exact cop_bl e
      · cases e; exact ⟨_, rfl⟩
      · cases e
    | [], _, h => simp [chk] at h
    | [_], [], h => simp [chk] at h
    | [_], _ :: _, h => simp [chk] at h
    | [_, _], [], h => simp [chk] at h
    | [_, _], [_], h => simp [chk] at h
    | [_, _], _ :: _ :: _ :: _, h => simp [chk] at h
    | _ :: _ :: _ :: _, _, h => simp [chk] at h
  | _ => simp [chk] at h, noA fun C ps => by cases ps <;> rfl⟩
end
end HB
namespace HB
open PySem L2
section
variable {fs : List Sem}
theorem snd_tup {es : T} (Pe : SndP fs es) : SndP fs (.tup es) := fun X W C k g => ⟨fun pe h => by
  cases pe with
  | Tuple ps j pos =>
    simp only [chk] at h
    have eq : evE fs (.tup es) = fun env m => (evA fs es env m).bind fun ds m => if ds.length ≤ sizeLine then .ok (.tup ds) m else .no := by funext env m; simp only [evE]
    refine SndE.plain ?_ (fun _ => rfl) rfl
    rw [eq]
    exact PE.imp (pe_tup ((Pe X W C k g).2 _ h)) step_tup
  | _ => simp [chk] at h, noA fun C ps => by cases ps <;> rfl⟩
theorem snd_lst {es : T} (Pe : SndP fs es) : SndP fs (.lst es) := fun X W C k g => ⟨fun pe h => by
  cases pe with
  | List ps pos =>
    simp only [chk] at h
    have eq : evE fs (.lst es) = fun env m => (evA fs es env m).bind fun ds m => if ds.length ≤ sizeLine then .ok (.lst ds) m else .no := by funext env m; simp only [evE]
    refine SndE.plain ?_ (fun _ => rfl) rfl
    rw [eq]
    exact PE.imp (pe_lst ((Pe X W C k g).2 _ h)) step_lst
  | _ => simp [chk] at h, noA fun C ps => by cases ps <;> rfl⟩
theorem snd_lstM {es : T} (Pe : SndP fs es) : SndP fs (.lstM es) := fun X W C k g => ⟨fun pe h => by
  cases pe with
  | List ps pos =>
    simp only [chk] at h
    have eq : evE fs (.lstM es) = fun env m => (evA fs es env m).bind fun ds m => if ds.length ≤ sizeLine then .ok (.ref m.length) (m ++ [.lst ds]) else .no := by funext env m; simp only [evE]
    refine SndE.plain ?_ (fun _ => rfl) rfl
    rw [eq]
    exact PE.imp (pe_lst ((Pe X W C k g).2 _ h)) step_lstM
  | _ => simp [chk] at h, noA fun C ps => by cases ps <;> rfl⟩
theorem snd_nil : SndP fs .nil := fun X W C k g => ⟨fun pe h => by cases pe <;> simp [chk] at h, fun ps h => by
  cases ps with
  | nil =>
    have eq : evA fs .nil = fun env m => .ok [] m := by funext env m; simp only [evA]
    rw [eq]
    exact PA.imp pa_nil step_nil
  | cons p ps => simp [chkA] at h⟩
theorem snd_cons {a es : T} (Pa : SndP fs a) (Pe : SndP fs es) : SndP fs (.cons a es) := fun X W C k g => ⟨fun pe h => by cases pe <;> simp [chk] at h, fun ps h => by
  cases ps with
  | nil => simp [chkA] at h
  | cons p ps =>
    simp only [chkA, Bool.and_eq_true] at h
    obtain ⟨⟨h1, h2⟩, h3⟩ := h
    have eq : evA fs (.cons a es) = fun env m => (evE fs a env m).bind fun d m => (evA fs es env m).bind fun ds m => .ok (d :: ds) m := by funext env m; simp only [evA]
    rw [eq]
    exact PA.imp (pa_cons ((Pa X W C k g).1 _ h2).v ((Pe X W C k g).2 _ h3) (star_cons h1)) step_cons⟩
theorem plainIx_of {q : Expr} (h : noSliceB q = true) : PlainIx q := by
  cases q <;> first | exact fun _ _ => rfl | (simp [noSliceB] at h)
theorem snd_ix {a b : T} (Pa : SndP fs a) (Pb : SndP fs b) : SndP fs (.ix a b) := fun X W C k g => ⟨fun pe h => by
  cases pe with
  | Subscript p q pos =>
    simp only [chk, Bool.and_eq_true] at h
    obtain ⟨⟨h0, h1⟩, h2⟩ := h
    have eq : evE fs (.ix a b) = fun env m => (evE fs a env m).bind fun d m => (evE fs b env m).bind fun e m => ixD d e m := by funext env m; simp only [evE]
    refine SndE.plain ?_ (fun _ => rfl) rfl
    rw [eq]
    exact PE.imp (pe_ix ix_data ((Pa X W C k g).1 _ h1).v ((Pb X W C k g).1 _ h2).v (plainIx_of h0)) (step_op (f := binaryOp .Add) rfl fun d e m c m' => ix_noex)
  | _ => simp [chk] at h, noA fun C ps => by cases ps <;> rfl⟩
theorem snd_noP : SndP fs .noP := fun X W C k g => ⟨fun pe h => by cases pe <;> simp [chk] at h, noA fun C ps => by cases ps <;> rfl⟩
theorem snd_sl {a lo hi : T} (Pa : SndP fs a) (Pl : SndP fs lo) (Ph : SndP fs hi) : SndP fs (.sl a lo hi) := fun X W C k g => ⟨fun pe h => by
  cases pe with
  | Subscript p q pos =>
    cases q with
    | Slice l hh st sp =>
      cases st with
      | none =>
        simp only [chk, Bool.and_eq_true] at h
        obtain ⟨⟨h1, h2⟩, h3⟩ := h
        have part : ∀ (t : T) (P : SndP fs t) (o : Option Expr), (match o with
            | none => isNoP t
            | some q => !isNoP t && chk C t q) = true → PO X o (tP X W (isNoP t) (evE fs t)) := by
          intro t P o ho
          cases o with
          | none => simp only at ho; rw [ho]; exact po_data0
          | some q =>
            simp only [Bool.and_eq_true, Bool.not_eq_true'] at ho
            rw [ho.1]
            exact po_data ((P X W C k g).1 _ ho.2).v
        refine SndE.plain ?_ (fun _ => rfl) rfl
        refine PE.imp (pe_slice sl_data ((Pa X W C k g).1 _ h1).v (part lo Pl l h2) (part hi Ph hh h3)) ?_
        rintro σ H Q ⟨rho, F, env, m, A, En, h⟩
        simp only [evE] at h
        refine ⟨rho, F, env, m, A, En, RdE.bind h fun d m1 v r1 F1 H1 s1 A1 q1 h1 => ?_⟩
        refine ⟨r1, F1, env, m1, A1, En.mono s1.onto, RdE.bind h1 fun l m2 u r2 F2 H2 s2 A2 q2 h2 => ?_⟩
        refine ⟨r2, F2, env, m2, A2, (En.mono s1.onto).mono s2.onto, RdE.bind h2 fun hv m3 w r3 F3 H3 s3 A3 q3 h3 => ?_⟩
        cases q2
        cases q3
        exact ⟨r3, F3, m3, d, A3, (q1.mono s2.onto).mono s3.onto, h3.of0 fun c m' => sl_noex⟩
      | some _ => simp [chk] at h
    | _ => simp [chk] at h
  | _ => simp [chk] at h, noA fun C ps => by cases ps <;> rfl⟩
theorem snd_callT (j : Nat) {es : T} (Pe : SndP fs es) : SndP fs (.call j es) := fun X W C k g => ⟨fun pe h => by
  cases pe with
  | Call f ps ks pos =>
    cases f with
    | Name x p =>
      cases ks with
      | nil =>
        simp only [chk, Bool.and_eq_true, decide_eq_true_eq] at h
        obtain ⟨⟨h1, h2⟩, h3⟩ := h
        have eq : evE fs (.call j es) = fun env m => (evA fs es env m).bind fun ds m => match fs[j]? with
            | some sem => callD sem ds m
            | none => .no := by funext env m; first | (rw [evE]; done) | (rw [evE]; rfl)
        refine SndE.plain ?_ (fun _ => rfl) rfl
        rw [eq]
        cases ps with
        | nil =>
          cases es with
          | nil =>
            have e0 : evA fs .nil = fun env m => .ok [] m := by funext env m; simp only [evA]
            rw [e0]
            exact snd_call0 g h1 h2
          | _ => simp [chkA] at h3
        | cons q qs => exact snd_call g h1 h2 (chkA_plain h3) ((Pe X W C k g).2 _ h3) fun env m ds m1 e => evA_len h3 e
      | cons _ _ => simp [chk] at h
    | _ => simp [chk] at h
  | _ => simp [chk] at h, noA fun C ps => by cases ps <;> rfl⟩
theorem snd_blt (b : BF) {es : T} (Pe : SndP fs es) : SndP fs (.blt b es) := fun X W C k g => ⟨fun pe h => by
  cases pe with
  | Call f ps ks pos =>
    cases f with
    | Name x p =>
      cases ks with
      | nil =>
        cases ps with
        | nil => simp [chk] at h
        | cons q qs =>
          simp only [chk, Bool.and_eq_true, decide_eq_true_eq] at h
          obtain ⟨⟨h1, h2⟩, h3⟩ := h
          subst h1
          have eq : evE fs (.blt b es) = fun env m => (evA fs es env m).bind fun ds m => bfD b ds m := by funext env m; simp only [evE]
          refine SndE.plain ?_ (fun _ => rfl) rfl
          rw [eq]
          exact pe_blt g h2 (chkA_plain h3) ((Pe X W C k g).2 _ h3)
      | cons _ _ => simp [chk] at h
    | _ => simp [chk] at h
  | _ => simp [chk] at h, noA fun C ps => by cases ps <;> rfl⟩
theorem snd_isi {a : T} (c : String) (Pa : SndP fs a) : SndP fs (.isi a c) := fun X W C k g => ⟨fun pe h => by
  cases pe with
  | Call f ps ks pos =>
    cases f with
    | Name x p =>
      cases ks with
      | nil =>
        match ps, h with
        | [q, .Name y p2], h =>
          simp only [chk, Bool.and_eq_true, decide_eq_true_eq] at h
          obtain ⟨⟨⟨⟨⟨⟨h1, h2⟩, h3⟩, h4⟩, h5⟩, h6⟩, h7⟩ := h
          subst h1
          subst h5
          have eq : evE fs (.isi a c) = fun env m => (evE fs a env m).bind fun d m => isiD d c m := by funext env m; simp only [evE]
          refine SndE.plain ?_ (fun _ => rfl) rfl
          rw [eq]
          exact pe_isi g h2 h4 h6 h3 ((Pa X W C k g).1 _ h7).v
        | [], h => simp [chk] at h
        | [_], h => simp [chk] at h
        | _ :: _ :: _ :: _, h => simp [chk] at h
        | [_, .BoolOp ..], h | [_, .NamedExpr ..], h | [_, .BinOp ..], h | [_, .UnaryOp ..], h | [_, .Lambda ..], h | [_, .IfExp ..], h | [_, .Dict ..], h | [_, .Set ..], h | [_, .ListComp ..], h | [_, .SetComp ..], h
        | [_, .DictComp ..], h | [_, .GeneratorExp ..], h | [_, .Await ..], h | [_, .Yield ..], h | [_, .YieldFrom ..], h | [_, .Compare ..], h | [_, .Call ..], h | [_, .FormattedValue ..], h | [_, .JoinedStr ..], h
        | [_, .Constant ..], h | [_, .Attribute ..], h | [_, .Subscript ..], h | [_, .Starred ..], h | [_, .List ..], h | [_, .Tuple ..], h | [_, .Slice ..], h => simp [chk] at h
      | cons _ _ => simp [chk] at h
    | _ => simp [chk] at h
  | _ => simp [chk] at h, noA fun C ps => by cases ps <;> rfl⟩
theorem snd_join {a b : T} (Pa : SndP fs a) (Pb : SndP fs b) : SndP fs (.join a b) := fun X W C k g => ⟨fun pe h => by
  cases pe with
  | Call f ps ks pos =>
    cases f with
    | Attribute p x ap =>
      cases ks with
      | nil =>
        match ps, h with
        | [q], h =>
          simp only [chk, Bool.and_eq_true, decide_eq_true_eq] at h
          obtain ⟨⟨⟨⟨⟨h1, h2⟩, h3⟩, h4⟩, h5⟩, h6⟩ := h
          subst h1
          refine SndE.plain ?_ (fun _ => rfl) rfl
          refine PE.imp (pe_joinD h2 h3 h4 ((Pa X W C k g).1 _ h5).v ((Pb X W C k g).1 _ h6).v) ?_
          rintro σ H Q ⟨rho, F, env, m, A, En, h⟩
          simp only [evE] at h
          exact ⟨rho, F, env, m, A, En, h⟩
        | [], h => simp [chk] at h
        | _ :: _ :: _, h => simp [chk] at h
      | cons _ _ => simp [chk] at h
    | _ => simp [chk] at h
  | _ => simp [chk] at h, noA fun C ps => by cases ps <;> rfl⟩
theorem snd_popAt {a b : T} (Pa : SndP fs a) (Pb : SndP fs b) : SndP fs (.popAt a b) := fun X W C k g => ⟨fun pe h => by
  cases pe with
  | Call f ps ks pos =>
    cases f with
    | Attribute p x ap =>
      cases ks with
      | nil =>
        match ps, h with
        | [q], h =>
          simp only [chk, Bool.and_eq_true, decide_eq_true_eq] at h
          obtain ⟨⟨⟨⟨⟨h1, h2⟩, h3⟩, h4⟩, h5⟩, h6⟩ := h
          subst h1
          refine SndE.plain ?_ (fun _ => rfl) rfl
          refine PE.imp (pe_popD h2 h3 h4 ((Pa X W C k g).1 _ h5).v ((Pb X W C k g).1 _ h6).v) ?_
          rintro σ H Q ⟨rho, F, env, m, A, En, h⟩
          simp only [evE] at h
          exact ⟨rho, F, env, m, A, En, h⟩
        | [], h => simp [chk] at h
        | _ :: _ :: _, h => simp [chk] at h
      | cons _ _ => simp [chk] at h
    | _ => simp [chk] at h
  | _ => simp [chk] at h, noA fun C ps => by cases ps <;> rfl⟩
theorem snd_rng1 {a : T} : SndP fs (.rng1 a) := fun X W C k g => ⟨fun pe h => by cases pe <;> simp [chk] at h, noA fun C ps => by cases ps <;> rfl⟩
theorem snd_rng2 {a b : T} : SndP fs (.rng2 a b) := fun X W C k g => ⟨fun pe h => by cases pe <;> simp [chk] at h, noA fun C ps => by cases ps <;> rfl⟩
theorem lc_eq (own : List (Str × Nat)) (g : G) (it c e : T) : evE fs (.lc own g it c e) = lcE g (own.map (·.2)) (isNoP c) (evE fs it) (evE fs c) (evE fs e) := by
  funext env m
  simp only [evE]
  unfold lcE lcStep
  rfl
theorem snd_lc (own : List (Str × Nat)) (gg : G) {it c e : T} (Pi : SndP fs it) (P1 : ∀ a, it = .rng1 a → SndP fs a) (P2 : ∀ a b, it = .rng2 a b → SndP fs a ∧ SndP fs b) (Pc : SndP fs c) (Pe : SndP fs e) : SndP fs (.lc own gg it c e) := fun X W C k g => ⟨fun pe h => by
  cases pe with
  | ListComp elt gens scope pos =>
    match gens, h with
    | [⟨tg, iter, ifs, asy⟩], h =>
      unfold chk at h
      simp only [Bool.and_eq_true, decide_eq_true_eq] at h
      obtain ⟨⟨⟨⟨⟨⟨⟨h0, h1⟩, h2⟩, h3⟩, h4⟩, h5⟩, h6⟩, h7⟩ := h
      subst h0
      have hi : chkI C it iter = true := h1
      have ok : BlkOk X.N X.env.scope scope own := by
        rw [g.N, g.sc]
        exact blkOk_by h3
      refine SndE.plain ?_ (fun _ => rfl) rfl
      rw [lc_eq]
      refine PE.imp (pe_lc (g := tG X gg) (tt := tCond X (isNoP c) (evE fs c)) (te := tE X W0 (evE fs e)) g.calm g.nd (snd_iter g Pi P1 P2 hi) ok (fun s H A cl fp => ?_) (fun s H A cl fp => ?_) (fun s H A cl fp => ?_) (folded_plain h2)) (step_lc fun i hi => ?_)
      · exact sndG (g.blk (own := own) s H A cl fp).t gg h4
      · match ifs, h6 with
        | [], h6 =>
          simp only at h6
          rw [h6]
          exact pts_nil
        | [q], h6 =>
          simp only [Bool.and_eq_true, Bool.not_eq_true'] at h6
          rw [h6.1]
          exact pts_one ((Pc _ _ _ k (g.blk (own := own) s H A cl fp)).1 _ h6.2).t
        | _ :: _ :: _, h6 => simp at h6
      · exact ((Pe _ _ _ k (g.blk (own := own) s H A cl fp)).1 _ h7).v
      · simp only [List.all_eq_true, List.contains_eq_mem, decide_eq_true_eq] at h5
        exact h5 i hi
    | [], h => simp [chk] at h
    | _ :: _ :: _, h => simp [chk] at h
  | _ => simp [chk] at h, noA fun C ps => by cases ps <;> rfl⟩
theorem snd_dct0 : SndP fs .dct0 := fun X W C k g => ⟨fun pe h => by
  cases pe with
  | Dict ks vs pos =>
    match ks, vs, h with
    | [], [], h =>
      refine SndE.plain (PE.imp pe_dnewK ?_) (fun _ => rfl) rfl
      rintro σ H Q ⟨rho, F, env, m, A, En, h⟩ p np
      simp only [evE] at h
      obtain ⟨st, A'⟩ := A.fresh (o := .dK []) np
      exact h _ _ _ _ st A' (.dK upd_same .nil)
    | [], _ :: _, h => simp [chk] at h
    | _ :: _, _, h => simp [chk] at h
  | _ => simp [chk] at h, noA fun C ps => by cases ps <;> rfl⟩
theorem upd_upd {H : Hp} {p : Addr} {a b : HO} : upd (upd H p a) p b = upd H p b := by
  funext x
  by_cases e : x = p
  · subst e; rw [upd_same, upd_same]
  · rw [upd_ne e, upd_ne e, upd_ne e]
theorem chk_dctI {C : Ck} {i j : Int} {pe : Expr} (h : chk C (.dctI i j) pe = true) : ∃ a b c d pos, pe = .Dict [some (.Constant (.int i) a b)] [.Constant (.int j) c d] pos := by
  unfold chk at h
  split at h
  all_goals try contradiction
  all_goals try (simp at h; done)
  rename_i h1
  cases h1
  simp only [Bool.and_eq_true, decide_eq_true_eq] at h
  obtain ⟨rfl, rfl⟩ := h
  exact ⟨_, _, _, _, _, rfl⟩
theorem snd_dctI (i j : Int) : SndP fs (.dctI i j) := fun X W C k g => ⟨fun pe h => by
  obtain ⟨_, _, _, _, _, rfl⟩ := chk_dctI h
  refine SndE.plain (PE.imp (pe_disp (pps_cons pe_int pe_int pps_nil) rfl rfl (by simp) (by simp)) ?_) (fun _ => rfl) rfl
  rintro σ H Q ⟨rho, F, env, m, A, En, h⟩ p np
  simp only [evE] at h
  obtain ⟨st, A'⟩ := A.fresh (o := .dK [(.inl i, .int j)]) np
  refine ⟨upd_same, [(.inl i, .int j)], rfl, by simp, ?_⟩
  rw [upd_upd]
  exact h _ _ _ _ st A' (.dK upd_same (.cons .int .nil)), noA fun C ps => by cases ps <;> rfl⟩
theorem sndAll : ∀ e : T, SndP fs e := by
  intro e
  have both : SndP fs e ∧ (∀ a, e = .rng1 a → SndP fs a) ∧ (∀ a b, e = .rng2 a b → SndP fs a ∧ SndP fs b) ∧ AllS fs e := by
    induction e with
    | var i => exact ⟨snd_var i, nofun, nofun, trivial⟩
    | non => exact ⟨snd_non, nofun, nofun, trivial⟩
    | bl b => exact ⟨snd_bl b, nofun, nofun, trivial⟩
    | int i => exact ⟨snd_int i, nofun, nofun, trivial⟩
    | str x => exact ⟨snd_str x, nofun, nofun, trivial⟩
    | gint x i => exact ⟨snd_gint x i, nofun, nofun, trivial⟩
    | bin o a b ia ib => exact ⟨snd_bin o ia.1 ib.1, nofun, nofun, trivial⟩
    | neg a ia => exact ⟨snd_neg ia.1, nofun, nofun, trivial⟩
    | cmp o a b ia ib => exact ⟨snd_cmp o ia.1 ib.1, nofun, nofun, trivial⟩
    | chain o p a b c ia ib ic => exact ⟨snd_chain o p ia.1 ib.1 ic.1, nofun, nofun, trivial⟩
    | and a b ia ib => exact ⟨snd_and ia.1 ib.1, nofun, nofun, trivial⟩
    | or a b ia ib => exact ⟨snd_or ia.1 ib.1, nofun, nofun, trivial⟩
    | not a ia => exact ⟨snd_not ia.1, nofun, nofun, trivial⟩
    | ite c a b ic ia ib => exact ⟨snd_ite ic.1 ia.1 ib.1, nofun, nofun, trivial⟩
    | tup es ie => exact ⟨snd_tup ie.1, nofun, nofun, trivial⟩
    | lst es ie => exact ⟨snd_lst ie.1, nofun, nofun, trivial⟩
    | lstM es ie => exact ⟨snd_lstM ie.1, nofun, nofun, trivial⟩
    | nil => exact ⟨snd_nil, nofun, nofun, trivial⟩
    | cons a es ia ie => exact ⟨snd_cons ia.1 ie.1, nofun, nofun, ia.1, ie.2.2.2⟩
    | prm p es ie => exact ⟨snd_prm p ie.1, nofun, nofun, trivial⟩
    | mth p a es ia ie => exact ⟨snd_mth p ia.1 ie.1, nofun, nofun, trivial⟩
    | dcte es ie => exact ⟨snd_dcte ie.2.2.2, nofun, nofun, trivial⟩
    | ix a b ia ib => exact ⟨snd_ix ia.1 ib.1, nofun, nofun, trivial⟩
    | sl a lo hi ia il ih => exact ⟨snd_sl ia.1 il.1 ih.1, nofun, nofun, trivial⟩
    | noP => exact ⟨snd_noP, nofun, nofun, trivial⟩
    | call j es ie => exact ⟨snd_callT j ie.1, nofun, nofun, trivial⟩
    | blt b es ie => exact ⟨snd_blt b ie.1, nofun, nofun, trivial⟩
    | isi a c ia => exact ⟨snd_isi c ia.1, nofun, nofun, trivial⟩
    | join a b ia ib => exact ⟨snd_join ia.1 ib.1, nofun, nofun, trivial⟩
    | popAt a b ia ib => exact ⟨snd_popAt ia.1 ib.1, nofun, nofun, trivial⟩
    | dct0 => exact ⟨snd_dct0, nofun, nofun, trivial⟩
    | dctI i j => exact ⟨snd_dctI i j, nofun, nofun, trivial⟩
    | rng1 a ia => exact ⟨snd_rng1, fun x e => by cases e; exact ia.1, nofun, trivial⟩
    | rng2 a b ia ib => exact ⟨snd_rng2, nofun, fun x y e => by cases e; exact ⟨ia.1, ib.1⟩, trivial⟩
    | lc own g it c e ii ic ie => exact ⟨snd_lc own g ii.1 ii.2.1 ii.2.2.1 ic.1 ie.1, nofun, nofun, trivial⟩
  exact both.1
end
end HB
namespace HB
open PySem L2 PyProof.Rows
open PySem.HBX
/-! ### the expressions of an except suite -/
inductive XT where
  | fld (ns : List Str) (f : Str) | non | bl (b : Bool) | int (i : Int) | str (x : Str) | tup (es : XT) | lst (es : XT) | nil | cons (a es : XT) | add (a b : XT)
mutual
def evX (c : Exc) : XT → M → R D
  | .fld ns f, m => if ns.contains c.name then match c.fs.lookup f with
      | some d => .ok d m
      | none => .no
    else .no
  | .non, m => .ok .non m
  | .bl b, m => .ok (.bl b) m
  | .int i, m => .ok (.int i) m
  | .str x, m => .ok (.str x) m
  | .tup es, m => (evXA c es m).bind fun ds m => if ds.length ≤ sizeLine then .ok (.tup ds) m else .no
  | .lst es, m => (evXA c es m).bind fun ds m => if ds.length ≤ sizeLine then .ok (.lst ds) m else .no
  | .add a b, m => (evX c a m).bind fun d m => (evX c b m).bind fun e m => addD d e m
  | _, _ => .no
def evXA (c : Exc) : XT → M → R (List D)
  | .nil, m => .ok [] m
  | .cons a es, m => (evX c a m).bind fun d m => (evXA c es m).bind fun ds m => .ok (d :: ds) m
  | _, _ => .no
end
mutual
/-- n: the name of the exception; xcs: the classes with their fields -/
def chkX (n : Str) (xcs : List (Str × Str × Bool)) : XT → Expr → Bool
  | .fld ns f, .Attribute (.Name y _) g _ => decide (y = n) && decide (g = f) && ns.all fun c => xcs.contains (c, f, false) || xcs.contains (c, f, true)
  | .non, .Constant .none _ _ => true
  | .bl b, .Constant (.bool c) _ _ => b == c
  | .int i, .Constant (.int j) _ _ => decide (i = j)
  | .str x, .Constant (.str y) _ _ => decide (x = y)
  | .tup es, .Tuple ps _ _ => chkXA n xcs es ps
  | .lst es, .List ps _ => chkXA n xcs es ps
  | .add a b, .BinOp p .Add q _ => chkX n xcs a p && chkX n xcs b q
  | _, _ => false
def chkXA (n : Str) (xcs : List (Str × Str × Bool)) : XT → List Expr → Bool
  | .nil, [] => true
  | .cons a es, p :: ps => plainB p && chkX n xcs a p && chkXA n xcs es ps
  | _, _ => false
end
abbrev W0X : WX := fun _ _ _ _ => False
section
variable {X : Cx} {i : Nat} {a : Addr} {cls : Value} {d : Option Addr}
def tX (X : Cx) (i : Nat) (a : Addr) (cls : Value) (d : Option Addr) (se : Exc → M → R D) : TE := fun σ H Q => ∃ rho F c m, Abs X.K X.mg rho F H m ∧ RpX X.K X.mg rho F c cls d ∧ σ[i]? = some (some (.ref a)) ∧ RdE X.K X.mg W0X σ (relD X.K X.mg) rho F H Q (se c m)
def tXA (X : Cx) (i : Nat) (a : Addr) (cls : Value) (d : Option Addr) (se : Exc → M → R (List D)) : TA := fun σ H Q => ∃ rho F c m, Abs X.K X.mg rho F H m ∧ RpX X.K X.mg rho F c cls d ∧ σ[i]? = some (some (.ref a)) ∧ RdE X.K X.mg W0X σ (relL X.K X.mg) rho F H Q (se c m)
theorem RpX.mono {K : PySem.W.Frag} {mg : Str → Option Value} {rho rho' : List Addr} {F F' : Hp} {c : Exc} (s : Onto rho F rho' F') (h : RpX K mg rho F c cls d) : RpX K mg rho' F' c cls d := by
  cases h with
  | bare h => exact .bare h
  | own h1 h2 h3 => exact .own h1 (s.ex _ _ h2) (h3.mono s)
theorem RpF.look {K : PySem.W.Frag} {mg : Str → Option Value} {rho : List Addr} {F : Hp} {f : Str} {dv : D} : ∀ {fs : List (Str × V)} {gs : List (Str × D)}, RpF K mg rho F fs gs → gs.lookup f = some dv → ∃ v, fs.lookup f = some v ∧ Rp K mg rho F v dv
  | _, _, .nil, h => by cases h
  | _, _, .cons (n := n) r rs, h => by
    simp only [List.lookup] at h ⊢
    split at h
    · cases h; rename_i e; exact ⟨_, rfl, r⟩
    · exact RpF.look rs h
theorem stepX_c {v : V} {dd : D} {se : Exc → M → R D} (hse : ∀ c m, se c m = .ok dd m) (hr : ∀ rho F, Rp X.K X.mg rho F v dd) : ∀ σ H Q, tX X i a cls d se σ H Q → tC v σ H Q := by
  rintro σ H Q ⟨rho, F, c, m, A, x, s, h⟩
  rw [hse] at h
  exact h v _ _ _ Step.refl A (hr rho F)
theorem stepX_cons {sa : Exc → M → R D} {sr : Exc → M → R (List D)} : ∀ σ H Q, tXA X i a cls d (fun c m => (sa c m).bind fun d m => (sr c m).bind fun ds m => .ok (d :: ds) m) σ H Q → tCons (tX X i a cls d sa) (tXA X i a cls d sr) σ H Q := by
  rintro σ H Q ⟨rho, F, c, m, A, x, s, h⟩
  refine ⟨rho, F, c, m, A, x, s, RdE.bind h fun d m1 v r1 F1 H1 s1 A1 q1 h1 => ?_⟩
  refine ⟨r1, F1, c, m1, A1, x.mono s1.onto, s, RdE.bind h1 fun e m2 u r2 F2 H2 s2 A2 q2 h2 => ?_⟩
  exact h2 _ _ _ _ Step.refl A2 (.cons (q1.mono s2.onto) q2)
theorem stepX_nil : ∀ σ H Q, tXA X i a cls d (fun c m => .ok [] m) σ H Q → tNil σ H Q := by
  rintro σ H Q ⟨rho, F, c, m, A, x, s, h⟩
  exact h _ _ _ _ Step.refl A .nil
theorem stepX_tup {sr : Exc → M → R (List D)} : ∀ σ H Q, tX X i a cls d (fun c m => (sr c m).bind fun ds m => if ds.length ≤ sizeLine then .ok (.tup ds) m else .no) σ H Q → tTup (tXA X i a cls d sr) σ H Q := by
  rintro σ H Q ⟨rho, F, c, m, A, x, s, h⟩
  refine ⟨rho, F, c, m, A, x, s, RdE.bind h fun ds m1 vs r1 F1 H1 s1 A1 q1 h1 => ?_⟩
  split at h1
  · rename_i hl
    exact ⟨by rw [q1.length]; exact hl, fun p np => RdO.newT (RdE.of0 h1 (fun _ _ z => nomatch z)) A1 q1 np⟩
  · exact h1.elim
theorem stepX_lst {sr : Exc → M → R (List D)} : ∀ σ H Q, tX X i a cls d (fun c m => (sr c m).bind fun ds m => if ds.length ≤ sizeLine then .ok (.lst ds) m else .no) σ H Q → tLst (tXA X i a cls d sr) σ H Q := by
  rintro σ H Q ⟨rho, F, c, m, A, x, s, h⟩
  refine ⟨rho, F, c, m, A, x, s, RdE.bind h fun ds m1 vs r1 F1 H1 s1 A1 q1 h1 => ?_⟩
  split at h1
  · rename_i hl
    exact ⟨by rw [q1.length]; exact hl, fun p np => RdO.newL (RdE.of0 h1 (fun _ _ z => nomatch z)) A1 q1 np⟩
  · exact h1.elim
theorem stepX_op {g : D → D → M → R D} {sa sb : Exc → M → R D} {r : R2} (hr : r = fun x y H Q => ∃ rho F m d e, Abs X.K X.mg rho F H m ∧ Rp X.K X.mg rho F x d ∧ Rp X.K X.mg rho F y e ∧ RdO X.K X.mg rho F H Q (g d e m))
    (nx : ∀ d e m c m', g d e m ≠ .ex c m') :
    ∀ σ H Q, tX X i a cls d (fun c m => (sa c m).bind fun d m => (sb c m).bind fun e m => g d e m) σ H Q → tOp r (tX X i a cls d sa) (tX X i a cls d sb) σ H Q := by
  rintro σ H Q ⟨rho, F, c, m, A, x, s, h⟩
  refine ⟨rho, F, c, m, A, x, s, RdE.bind h fun d m1 v r1 F1 H1 s1 A1 q1 h1 => ?_⟩
  refine ⟨r1, F1, c, m1, A1, x.mono s1.onto, s, RdE.bind h1 fun e m2 u r2 F2 H2 s2 A2 q2 h2 => ?_⟩
  rw [hr]
  exact ⟨r2, F2, m2, d, e, A2, q1.mono s2.onto, q2, h2.of0 fun c m' => nx d e m2 c m'⟩
end
section
variable {X : Cx} {i : Nat} {n : Str} {xcs : List (Str × Str × Bool)} {a : Addr} {oe : Obj} {cls : Value} {d : Option Addr} {pn : List (Addr × Obj)}
/-- what is read of an own error -/
theorem snd_fld {ns : List Str} {f : Str} {p1 p2 : Pos} (hi : X.N[i]? = some n) (hv : Vis X.env.scope n) (hdb : (n == ("__debug__" : Str)) = false) (hcd : (n == ("__classdict__" : Str)) = false) (hx : ∀ x f fl, (x, f, fl) ∈ xcs → XOk X.prog X.w X.K X.mg x f fl) (hc : ∀ c ∈ ns, ∃ fl, (c, f, fl) ∈ xcs) (hz : Zc cls d oe) (hf : ∃ vs, oe.data = .fields vs) :
    PE (X.suite a ((a, oe) :: pn)) (.Attribute (.Name n p1) f p2) (tX X i a cls d fun c m => evX c (.fld ns f) m) := by
  refine ⟨fun pins s σ H Q I h => ?_⟩
  obtain ⟨rho, F, c, m, A, x, hs, h⟩ := h
  simp only [evX] at h
  split at h
  · rename_i hn
    split at h
    · rename_i dv hl
      obtain ⟨fl, hcc⟩ := hc c.name (by simpa using hn)
      obtain ⟨vn, C, fI, T, _, _⟩ := hx _ _ _ hcc
      cases x with
      | bare h1 => cases hl
      | own h1 h2 h3 =>
        rename_i C' dd fs gs nm
        have e : Value.ref C' = Value.ref C := Option.some.inj (h1.symm.trans T.gC)
        cases e
        obtain ⟨v, lv, rv⟩ := h3.look hl
        refine (pe_xf (X := X) (te := tVar i) ⟨T.ga, T.gg, T.exC, T.hdC⟩ T.noN hz hf (pe_var (X := X.suite a ((a, oe) :: pn)) (i := i) hi hv hdb hcd)).run pins s σ H Q I ?_
        exact ⟨.ref a, hs, rfl, rfl, dd, fs, v, rfl, A.ex _ _ h2, lv, h v _ _ _ Step.refl A rv⟩
    · exact h.elim
  · exact h.elim
theorem sndX (hi : X.N[i]? = some n) (hv : Vis X.env.scope n) (hdb : (n == ("__debug__" : Str)) = false) (hcd : (n == ("__classdict__" : Str)) = false) (hx : ∀ x f fl, (x, f, fl) ∈ xcs → XOk X.prog X.w X.K X.mg x f fl) (hz : Zc cls d oe) (hf : ∃ vs, oe.data = .fields vs) : ∀ (t : XT),
    (∀ e, chkX n xcs t e = true → PE (X.suite a ((a, oe) :: pn)) e (tX X i a cls d fun c m => evX c t m)) ∧ (∀ es, chkXA n xcs t es = true → PA (X.suite a ((a, oe) :: pn)) es (tXA X i a cls d fun c m => evXA c t m)) := by
  intro t
  induction t with
  | fld ns f =>
    refine ⟨fun e h => ?_, fun es h => by cases es <;> simp [chkXA] at h⟩
    cases e with
    | Attribute o g p =>
      cases o with
      | Name y q =>
        simp only [chkX, Bool.and_eq_true, decide_eq_true_eq, List.all_eq_true] at h
        obtain ⟨⟨rfl, rfl⟩, h3⟩ := h
        exact snd_fld hi hv hdb hcd hx (fun c hc => by
          have z := h3 c hc
          simp only [Bool.or_eq_true, List.contains_iff_mem] at z
          rcases z with z | z
          · exact ⟨_, z⟩
          · exact ⟨_, z⟩) hz hf
      | _ => simp [chkX] at h
    | _ => simp [chkX] at h
  | non =>
    refine ⟨fun e h => ?_, fun es h => by cases es <;> simp [chkXA] at h⟩
    cases e with
    | Constant k j p =>
      cases k with
      | none => exact PE.imp pe_non (stepX_c (dd := .non) (fun c m => by simp only [evX]) fun _ _ => .non)
      | _ => simp [chkX] at h
    | _ => simp [chkX] at h
  | bl b =>
    refine ⟨fun e h => ?_, fun es h => by cases es <;> simp [chkXA] at h⟩
    cases e with
    | Constant k j p =>
      cases k with
      | bool b' =>
        simp only [chkX, beq_iff_eq] at h
        subst h
        exact PE.imp pe_bl (stepX_c (dd := .bl b) (fun c m => by simp only [evX]) fun _ _ => .bl)
      | _ => simp [chkX] at h
    | _ => simp [chkX] at h
  | int z =>
    refine ⟨fun e h => ?_, fun es h => by cases es <;> simp [chkXA] at h⟩
    cases e with
    | Constant k j p =>
      cases k with
      | int b' =>
        simp only [chkX, decide_eq_true_eq] at h
        subst h
        exact PE.imp pe_int (stepX_c (dd := .int z) (fun c m => by simp only [evX]) fun _ _ => .int)
      | _ => simp [chkX] at h
    | _ => simp [chkX] at h
  | str z =>
    refine ⟨fun e h => ?_, fun es h => by cases es <;> simp [chkXA] at h⟩
    cases e with
    | Constant k j p =>
      cases k with
      | str b' =>
        simp only [chkX, decide_eq_true_eq] at h
        subst h
        exact PE.imp pe_str (stepX_c (dd := .str z) (fun c m => by simp only [evX]) fun _ _ => .str)
      | _ => simp [chkX] at h
    | _ => simp [chkX] at h
  | tup es ih =>
    refine ⟨fun e h => ?_, fun es h => by cases es <;> simp [chkXA] at h⟩
    cases e with
    | Tuple ps j pos =>
      simp only [chkX] at h
      simp only [evX]
      exact PE.imp (pe_tup (ih.2 _ h)) stepX_tup
    | _ => simp [chkX] at h
  | lst es ih =>
    refine ⟨fun e h => ?_, fun es h => by cases es <;> simp [chkXA] at h⟩
    cases e with
    | List ps pos =>
      simp only [chkX] at h
      simp only [evX]
      exact PE.imp (pe_lst (ih.2 _ h)) stepX_lst
    | _ => simp [chkX] at h
  | nil =>
    refine ⟨fun e h => by cases e <;> simp [chkX] at h, fun es h => ?_⟩
    cases es with
    | nil =>
      simp only [evXA]
      exact PA.imp pa_nil stepX_nil
    | cons p ps => simp [chkXA] at h
  | cons x es i1 i2 =>
    refine ⟨fun e h => by cases e <;> simp [chkX] at h, fun es h => ?_⟩
    cases es with
    | nil => simp [chkXA] at h
    | cons p ps =>
      simp only [chkXA, Bool.and_eq_true] at h
      obtain ⟨⟨h1, h2⟩, h3⟩ := h
      simp only [evXA]
      exact PA.imp (pa_cons (i1.1 _ h2) (i2.2 _ h3) (star_cons h1)) stepX_cons
  | add x y i1 i2 =>
    refine ⟨fun e h => ?_, fun es h => by cases es <;> simp [chkXA] at h⟩
    cases e with
    | BinOp p q r pos =>
      cases q with
      | Add =>
        simp only [chkX, Bool.and_eq_true] at h
        simp only [evX]
        exact PE.imp (pe_op (od_bin .add) (i1.1 _ h.1) (i2.1 _ h.2)) (stepX_op rfl fun d e m c m' => bop_noex (o := .add))
      | _ => simp [chkX] at h
    | _ => simp [chkX] at h
end
end HB
namespace HB
open PySem L2
/-! ### statements -/
inductive S where
  | nil | cons (s r : S)
  | asg (g : G) (e : T) | par (i j : Nat) (a b : T) | par3 (i j l : Nat) (a b c : T) | setix (o i e : T) | app (o e : T) | exp (e : T)
  | ret (e : T) | retN | ife (c : T) (a b : S) | fr (g : G) (it : T) (b : S) | wh (n : Nat) (c : T) (b : S)
  | pass | brk | cont | frz (i : Nat)
  | rai (n f : Str) (fl : Bool) (e : T) | rai0 (n : Str) | tryM (b : S) (hs : List (Str × List (Str × Bool) × D)) | try1 (b : S) (x : Str) (tbl : List (Str × Bool)) (i : Nat) (e : XT)
inductive RS where
  | nx (env : Env) (m : M) | rt (d : D) (m : M) | bk (env : Env) (m : M) | ct (env : Env) (m : M) | ex (c : Exc) (env : Env) (m : M) | no
def R.st {α : Type} (r : R α) (env : Env) (k : α → M → RS) : RS := match r with
  | .ok a m => k a m
  | .ex c m => .ex c env m
  | .no => .no
def setixD (d k v : D) (m : M) : Option M := match d, k with
  | .ref j, .int i => match m[j]? with
    | some (.lst ds) => match ixN ds.length i with
      | some n => some (m.set j (.lst (ds.set n v)))
      | none => none
    | _ => none
  | _, _ => none
def appD (j : Nat) (v : D) (m : M) : Option M := match m[j]? with
  | some (.lst ds) => if ds.length < sizeLine then some (m.set j (.lst (ds ++ [v]))) else none
  | _ => none
def isLst (j : Nat) (m : M) : Bool := match m[j]? with
  | some (.lst _) => true
  | _ => false
def frzD (i : Nat) (env : Env) (m : M) : Option (Env × M) := match env[i]? with
  | some (some (.ref k)) => match m[k]? with
    | some (.lst ds) => some (env.set i (some (.lst ds)), m.set k .gone)
    | some (.dct ds) => some (env.set i (some (.dct ds)), m.set k .gone)
    | _ => none
  | _ => none
def forGo (step : D → Env → M → RS) : List D → Env → M → RS
  | [], env, m => .nx env m
  | x :: xs, env, m => match step x env m with
    | .nx e m => forGo step xs e m
    | .ct e m => forGo step xs e m
    | .bk e m => .nx e m
    | r => r
def whGo (c : SB) (b : Env → M → RS) : Nat → Env → M → RS
  | 0, _, _ => .no
  | n + 1, env, m => (c env m).st env fun t m => if t then
      match b env m with
      | .nx e m => whGo c b n e m
      | .ct e m => whGo c b n e m
      | .bk e m => .nx e m
      | r => r
    else .nx env m
/-- the clauses of a try, one after the other -/
def hsGo (c : Exc) (env : Env) (m : M) : List (Str × List (Str × Bool) × D) → RS
  | [] => .ex c env m
  | (_, tbl, d) :: r => match tbl.lookup c.name with
    | some true => .rt d m
    | some false => hsGo c env m r
    | none => .no
def evS (fs : List Sem) : S → Env → M → RS
  | .nil, env, m => .nx env m
  | .cons s r, env, m => match evS fs s env m with
    | .nx e m => evS fs r e m
    | x => x
  | .asg g e, env, m => (evE fs e env m).st env fun d m => match asgG g d env with
    | some env2 => .nx env2 m
    | none => .no
  | .par i j a b, env, m => (evE fs a env m).st env fun d m => (evE fs b env m).st env fun e m => .nx ((env.set i (some d)).set j (some e)) m
  | .par3 i j l a b c, env, m => (evE fs a env m).st env fun d m => (evE fs b env m).st env fun e m => (evE fs c env m).st env fun f m => .nx (((env.set i (some d)).set j (some e)).set l (some f)) m
  | .setix o i e, env, m => (evE fs e env m).st env fun v m => (evE fs o env m).st env fun d m => (evE fs i env m).st env fun k m => match setixD d k v m with
    | some m => .nx env m
    | none => .no
  | .app o e, env, m => (evE fs o env m).st env fun d m => match d with
    | .ref j => if isLst j m then (evE fs e env m).st env fun v m => match appD j v m with
        | some m => .nx env m
        | none => .no
      else .no
    | _ => .no
  | .exp e, env, m => (evE fs e env m).st env fun _ m => .nx env m
  | .ret e, env, m => (evE fs e env m).st env fun d m => .rt d m
  | .retN, _, m => .rt .non m
  | .ife c a b, env, m => (evT fs c env m).st env fun t m => if t then evS fs a env m else evS fs b env m
  | .fr g it b, env, m => (evE fs it env m).st env fun d m => match viewI d m with
    | some xs => forGo (fun x env m => match asgG g x env with
        | some env2 => evS fs b env2 m
        | none => .no) xs env m
    | none => .no
  | .wh n c b, env, m => whGo (evT fs c) (evS fs b) n env m
  | .pass, env, m => .nx env m
  | .brk, env, m => .bk env m
  | .cont, env, m => .ct env m
  | .frz i, env, m => match frzD i env m with
    | some (e, m) => .nx e m
    | none => .no
  | .rai n f fl e, env, m => (evE fs e env m).st env fun d m => if pvD fl d then .ex ⟨n, [(f, d)]⟩ env m else .no
  | .rai0 n, env, m => .ex ⟨n, []⟩ env m
  | .tryM b hs, env, m => match evS fs b env m with
    | .ex c env m => hsGo c env m hs
    | r => r
  | .try1 b _ tbl i e, env, m => match evS fs b env m with
    | .ex c env m => match tbl.lookup c.name with
      | some true => if i < env.length then match evX c e m with
          | .ok d m => .rt d m
          | _ => .no
        else .no
      | some false => .ex c env m
      | none => .no
    | r => r
/-! ### does it stand there -/
def noComp : Expr → Bool
  | .ListComp .. => false
  | .SetComp .. => false
  | .DictComp .. => false
  | _ => true
def noTup : Expr → Bool
  | .Tuple .. => false
  | .List .. => false
  | _ => true
def noFold (vs : List Expr) : Bool := !(vs.all (foldedForSure 8)) && !(vs.all (constantsAlone 8))
/-- a plain assignment -/
def asgOk (C : Ck) (tg v : Expr) : Bool := (noTup tg || noTup v) && match v with
  | .ListComp _ _ scope vp => match tg with
    | .Name y py => match C.sc.names.lookup y with
      | some .local => (py.line == vp.line) && !(scope.names.any fun (n, k) => n == y && (k == .local || k == .cell))
      | some .cell => true
      | _ => false
    | _ => true
  | v => noComp v
def chkD : D → Expr → Bool
  | .non, .Constant .none _ _ => true
  | .bl b, .Constant (.bool c) _ _ => b == c
  | .int i, .Constant (.int j) _ _ => decide (i = j)
  | .str x, .Constant (.str y) _ _ => decide (x = y)
  | _, _ => false
def chkHs (C : Ck) : List (Str × List (Str × Bool) × D) → List ExceptHandler → Bool
  | [], [] => true
  | (x, tbl, d) :: hs, .ExceptHandler (some (.Name y _)) none [.Return (some p) _] _ :: hds => decide (y = x) && glB C.sc x && !tbl.isEmpty && tbl.all (fun r => C.tb.xsub.contains (r.1, x, r.2)) && chkD d p && chkHs C hs hds
  | _, _ => false
mutual
def chk1 (C : Ck) : S → Stmt → Bool
  | .asg g e, .Assign [tg] v _ => chkG C g tg && chk C e v && asgOk C tg v && plainB tg
  | .par i j a b, .Assign [.Tuple [.Name x px, .Name y py] _ _] (.Tuple [p, q] _ _) _ => decide (C.N[i]? = some x) && decide (C.N[j]? = some y) && decide (i ≠ j) && decide (C.sc.names.lookup x = some .local) && decide (C.sc.names.lookup y = some .local) &&
      decide (x ≠ y) && (px.line == py.line) && plainB p && plainB q && noFold [p, q] && chk C a p && chk C b q
  | .par3 i j l a b c, .Assign [.Tuple [.Name x px, .Name y py, .Name z pz] _ _] (.Tuple [p, q, r] _ _) _ => decide (C.N[i]? = some x) && decide (C.N[j]? = some y) && decide (C.N[l]? = some z) && decide (i ≠ j) && decide (i ≠ l) && decide (j ≠ l) &&
      decide (C.sc.names.lookup x = some .local) && decide (C.sc.names.lookup y = some .local) && decide (C.sc.names.lookup z = some .local) && decide (x ≠ y) && decide (x ≠ z) && decide (y ≠ z) && (px.line == py.line) && (px.line == pz.line) &&
      plainB p && plainB q && plainB r && noFold [p, q, r] && chk C a p && chk C b q && chk C c r
  | .setix o i e, .Assign [.Subscript p q _] v _ => noSliceB q && noComp v && chk C e v && chk C o p && chk C i q
  | .app o e, .Expr (.Call (.Attribute p x ap) [q] [] pos) _ => decide (x = "append") && noCall0 p && plainB q && (ap.endLine == pos.line) && chk C o p && chk C e q
  | .exp e, .Expr p _ => noComp p && chk C e p
  | .ret e, .Return (some p) _ => chk C e p
  | .retN, .Return none _ => true
  | .ife c a b, .If p x y _ => chk C c p && chkB C a x && chkB C b y
  | .fr g it b, .For tg iter body [] _ => chkG C g tg && chkI C it iter && noSet iter && chkB C b body
  | .wh _ c b, .While p body [] _ => chk C c p && chkB C b body
  | .rai n f fl e, .Raise (some (.Call (.Name x _) [p] [] _)) none _ => decide (x = n) && glB C.sc x && plainB p && chk C e p && C.tb.xcs.contains (n, f, fl)
  | .rai0 n, .Raise (some (.Call (.Name x _) [.Constant (.str _) _ _] [] _)) none _ => decide (x = n) && glB C.sc x && C.tb.xc0.contains n
  | .tryM b hs, .Try body hds [] [] _ => chkHs C hs hds && !hs.isEmpty && chkB C b body
  | .try1 b x tbl i e, .Try body [.ExceptHandler (some (.Name y _)) (some nm) [.Return (some p) _] _] [] [] _ => decide (y = x) && glB C.sc x && decide (C.N[i]? = some nm) && decide (C.sc.names.lookup nm = some .local) && okN nm &&
      !tbl.isEmpty && tbl.all (fun r => C.tb.xsub.contains (r.1, x, r.2)) && chkX nm C.tb.xcs e p && chkB C b body
  | .pass, .Pass _ => true
  | .brk, .Break _ => true
  | .cont, .Continue _ => true
  | _, _ => false
def chkB (C : Ck) : S → List Stmt → Bool
  | .nil, [] => true
  | .cons (.frz _) r, sts => chkB C r sts
  | .cons s r, st :: sts => chk1 C s st && chkB C r sts
  | _, _ => false
end
end HB
namespace HB
open PySem L2
section
variable (K : PySem.W.Frag) (mg : Str → Option Value) (W : WX)
def RdS (rho : List Addr) (F H : Hp) (D : Ends) : RS → Prop
  | .nx env m => ∀ σ rho' F' H', Step rho F H rho' F' H' → Abs K mg rho' F' H' m → RpEnv K mg rho' F' σ env → D.nx σ H'
  | .bk env m => ∀ σ rho' F' H', Step rho F H rho' F' H' → Abs K mg rho' F' H' m → RpEnv K mg rho' F' σ env → D.bk σ H'
  | .ct env m => ∀ σ rho' F' H', Step rho F H rho' F' H' → Abs K mg rho' F' H' m → RpEnv K mg rho' F' σ env → D.ct σ H'
  | .rt d m => ∀ v rho' F' H', Step rho F H rho' F' H' → Abs K mg rho' F' H' m → Rp K mg rho' F' v d → D.rt v H'
  | .ex c env m => ∀ cls dx σ rho' F' H', Step rho F H rho' F' H' → Abs K mg rho' F' H' m → RpEnv K mg rho' F' σ env → RpX K mg rho' F' c cls dx → W cls dx σ H'
  | .no => False
end
section
variable {K : PySem.W.Frag} {mg : Str → Option Value} {W : WX} {rho rho' : List Addr} {F F' H H' : Hp} {D : Ends}
theorem RdS.step {r : RS} (h : RdS K mg W rho F H D r) (s : Step rho F H rho' F' H') : RdS K mg W rho' F' H' D r := by
  cases r with
  | nx env m => exact fun σ r2 F2 H2 s2 => h σ r2 F2 H2 (s.trans s2)
  | bk env m => exact fun σ r2 F2 H2 s2 => h σ r2 F2 H2 (s.trans s2)
  | ct env m => exact fun σ r2 F2 H2 s2 => h σ r2 F2 H2 (s.trans s2)
  | rt d m => exact fun σ r2 F2 H2 s2 => h σ r2 F2 H2 (s.trans s2)
  | ex c env m => exact fun cls dx σ r2 F2 H2 s2 => h cls dx σ r2 F2 H2 (s.trans s2)
  | no => exact h
/-- an expression ahead of the rest -/
theorem RdS.ahead {α β : Type} {rel : List Addr → Hp → β → α → Prop} {r : R α} {env : Env} {k : α → M → RS} {σ : L2.St} {Q : β → Hp → Prop} (En : RpEnv K mg rho F σ env) (h : RdS K mg W rho F H D (r.st env k))
    (f : ∀ d m v rho' F' H', Step rho F H rho' F' H' → Abs K mg rho' F' H' m → rel rho' F' v d → RdS K mg W rho' F' H' D (k d m) → Q v H') : RdE K mg W σ rel rho F H Q r := by
  cases r with
  | ok d m => exact fun v r2 F2 H2 s A q => f d m v r2 F2 H2 s A q (RdS.step (show RdS K mg W rho F H D (k d m) from h) s)
  | ex c m => exact fun cls dx r2 F2 H2 s A q => h cls dx σ r2 F2 H2 s A (En.mono s.onto) q
  | no => exact h
end
def tSt (X : Cx) (W : WX) (ss : Env → M → RS) : TS := fun D σ H => ∃ rho F env m, Abs X.K X.mg rho F H m ∧ RpEnv X.K X.mg rho F σ env ∧ RdS X.K X.mg W rho F H D (ss env m)
structure GdS (X : Cx) (W : WX) (C : Ck) (fs : List Sem) (k : Nat) : Prop extends GdE X W C fs k where
  own : PassesOwn (model X.prog X.w) X.A X.env X.xe
  stk : X.stack = X.env :: X.outer
  frm : X.env.frame = some X.env.locals
  kind : X.env.scope.kind = .function
  rw0 : C.raw = none
theorem PS.imp {X : Cx} {st : Stmt} {t t' : TS} (h : PS X st t) (f : ∀ D σ H, t' D σ H → t D σ H) : PS X st t' := ⟨fun pins s σ H D I q => h.run pins s σ H D I (f D σ H q)⟩
theorem PSs.imp {X : Cx} {st : List Stmt} {t t' : TS} (h : PSs X st t) (f : ∀ D σ H, t' D σ H → t D σ H) : PSs X st t' := ⟨fun pins s σ H D I q => h.run pins s σ H D I (f D σ H q)⟩
section
variable {X : Cx} {W : WX} {C : Ck} {fs : List Sem} {k : Nat}
theorem sw_plain {v : Expr} {t : Option Expr} {l : Nat} {env : PySem.Env} (h : noComp v = true) : swapsWith v t l env = pure false := by
  cases v <;> first | rfl | (simp [noComp] at h)
theorem swS_plain {v tg : Expr} {l : Nat} {env : PySem.Env} (h : noComp v = true) : swapsWithSole [tg] v l env = pure false := sw_plain h
theorem block_fn {env : PySem.Env} (h : env.scope.kind = .function) : env.blockKind = .function := by
  unfold Env.blockKind
  rw [h]; rfl
theorem st_none {tg v : Expr} {env : PySem.Env} (h : (noTup tg || noTup v) = true) : swappedStores [tg] v env = pure none := by
  unfold swappedStores
  simp only [Bool.or_eq_true] at h
  rcases h with h | h
  · cases tg <;> first | (simp [noTup] at h; done) | rfl
  · cases v <;> first | (simp [noTup] at h; done) | (cases tg <;> rfl)
theorem asg1 {tg : Expr} {env : PySem.Env} (h : plainB tg = true) : (assignEach [tg] env).map (·.2) = [assign tg env] := by
  rw [asgEach_cons h]; rfl
/-- the parts of a comprehension that stands there -/
theorem lc_parts (g : GdE X W C fs k) {own : List (Str × Nat)} {gg : G} {it c e : T} {elt : Expr} {gens : List Comprehension} {scope : Scope} {pos : Pos} (h : chk C (.lc own gg it c e) (.ListComp elt gens scope pos) = true) :
    ∃ tg iter ifs, gens = [⟨tg, iter, ifs, 0⟩] ∧ PI X tg iter (tI X W (evE fs it)) ∧ BlkOk X.N X.env.scope scope own ∧
      (∀ (s : Shared) (H : Hp) (A : Addr) (cl : List (Str × Addr)) (fp : List Addr), PG (X.blk s H scope (compEnvC scope cl A X.env) fp) tg (tG X gg)) ∧
      (∀ (s : Shared) (H : Hp) (A : Addr) (cl : List (Str × Addr)) (fp : List Addr), PTs (X.blk s H scope (compEnvC scope cl A X.env) fp) ifs (tCond X (isNoP c) (evE fs c))) ∧
      (∀ (s : Shared) (H : Hp) (A : Addr) (cl : List (Str × Addr)) (fp : List Addr), PE (X.blk s H scope (compEnvC scope cl A X.env) fp) elt (tE X W0 (evE fs e))) ∧
      (∀ x, foldedSetIterable iter X.env x = pure x) ∧ ∀ i ∈ gSlots gg, i ∈ own.map (·.2) := by
  match gens, h with
  | [⟨tg, iter, ifs, asy⟩], h =>
    unfold chk at h
    simp only [Bool.and_eq_true, decide_eq_true_eq] at h
    obtain ⟨⟨⟨⟨⟨⟨⟨h0, h1⟩, h2⟩, h3⟩, h4⟩, h5⟩, h6⟩, h7⟩ := h
    subst h0
    have hi : chkI C it iter = true := h1
    refine ⟨tg, iter, ifs, rfl, snd_iter g (sndAll it) (fun a _ => sndAll a) (fun a b _ => ⟨sndAll a, sndAll b⟩) hi, by rw [g.N, g.sc]; exact blkOk_by h3, fun s H A cl fp => sndG (g.blk (own := own) s H A cl fp).t gg h4, fun s H A cl fp => ?_,
      fun s H A cl fp => ((sndAll e _ _ _ k (g.blk (own := own) s H A cl fp)).1 _ h7).v, folded_plain h2, fun i hi => ?_⟩
    · match ifs, h6 with
      | [], h6 =>
        simp only at h6
        rw [h6]
        exact pts_nil
      | [q], h6 =>
        simp only [Bool.and_eq_true, Bool.not_eq_true'] at h6
        rw [h6.1]
        exact pts_one ((sndAll c _ _ _ k (g.blk (own := own) s H A cl fp)).1 _ h6.2).t
      | _ :: _ :: _, h6 => simp at h6
    · simp only [List.all_eq_true, List.contains_eq_mem, decide_eq_true_eq] at h5
      exact h5 i hi
  | [], h => simp [chk] at h
  | _ :: _ :: _, h => simp [chk] at h
/-- target = value -/
theorem snd_asg (g : GdS X W C fs k) {gg : G} {e : T} {tg v : Expr} {pos : Pos} (hg : chkG C gg tg = true) (he : chk C e v = true) (hok : asgOk C tg v = true) (hp : plainB tg = true) : PS X (.Assign [tg] v pos) (tSt X W (evS fs (.asg gg e))) := by
  have PEv := ((sndAll e) X W C k g.toGdE).1 _ he
  have PGt := sndG g.toGdE.t gg hg
  have key : ∀ D σ H, tSt X W (evS fs (.asg gg e)) D σ H → tAsg (tE X W (evE fs e)) (tG X gg) D σ H := by
    rintro D σ H ⟨rho, F, env, m, A, En, h⟩
    simp only [evS] at h
    refine ⟨rho, F, env, m, A, En, RdS.ahead En h fun d m1 v r1 F1 H1 s1 A1 q1 h1 => ?_⟩
    refine ⟨r1, F1, env, m1, d, A1, En.mono s1.onto, q1, ?_⟩
    cases ea : asgG gg d env with
    | none => rw [ea] at h1; exact h1
    | some env2 =>
      rw [ea] at h1
      exact fun σ2 En2 _ => h1 σ2 _ _ _ Step.refl A1 En2
  unfold asgOk at hok
  simp only [Bool.and_eq_true] at hok
  obtain ⟨hT, hok⟩ := hok
  have plain : swapsWithSole [tg] v pos.line X.env = pure false → PS X (.Assign [tg] v pos) (tSt X W (evS fs (.asg gg e))) := fun hn => PS.imp (ps_asg PEv.v PGt hn (st_none hT) (asg1 hp)) key
  cases v with
  | ListComp elt gens scope vp =>
    cases tg with
    | Name y py =>
      simp only at hok
      split at hok
      · rename_i hl
        simp only [Bool.and_eq_true, Bool.not_eq_true'] at hok
        cases e with
        | lc own g2 it c e =>
          obtain ⟨tg2, iter, ifs, rfl, pi, ok, pg, pt, pe, fol, hgs⟩ := lc_parts (W := W) g.toGdE he
          cases gg with
          | name i =>
            simp only [chkG, Bool.and_eq_true, decide_eq_true_eq] at hg
            refine PS.imp (ps_setLc (i := i) g.calm g.nd (by rw [g.N]; exact hg.1) (by rw [g.sc]; exact hl) (sw_true g.kind (by rw [g.sc]; exact hl) hok.1 hok.2) pi ok pg pt pe fol) ?_
            rintro D σ H ⟨rho, F, env, m, A, En, h⟩
            simp only [evS, lc_eq] at h
            refine step_lc (W := W) hgs σ H _ ⟨rho, F, env, m, A, En, RdS.ahead En h fun d m1 v r1 F1 H1 s1 A1 q1 h1 => ?_⟩
            simp only [asgG] at h1
            exact h1 _ _ _ _ Step.refl A1 ((En.mono s1.onto).set q1 i)
          | _ => simp [chkG] at hg
        | prm p es => simp only [chk] at he; cases p <;> simp [prC] at he
        | mth p a es => simp only [chk] at he; cases p <;> simp [mrC] at he
        | _ => simp [chk] at he
      · rename_i hl
        refine plain ?_
        have sole : swapsWithSole [.Name y py] (.ListComp elt gens scope vp) pos.line X.env = swapsWith (.ListComp elt gens scope vp) (some (.Name y py)) pos.line X.env := rfl
        rw [sole]
        unfold swapsWith
        have : X.env.kindOf y = some .cell := by show X.env.scope.names.lookup y = _; rw [g.sc]; exact hl
        simp only [this]
        have e1 : (some NameKind.cell == some NameKind.local) = false := by decide
        simp only [e1, Bool.and_false, Bool.false_and]
      · cases hok
    | _ => exact plain (by rfl)
  | _ => exact plain (swS_plain hok)
theorem swap2 {x y : Str} {px py pt : Pos} {p q : Expr} {kt k2 : Nat} {pt2 : Pos} {env : PySem.Env} (hk : env.scope.kind = .function) (hx : env.kindOf x = some .local) (hy : env.kindOf y = some .local) (hxy : x ≠ y) (hl : (px.line == py.line) = true) (hp : plainB p = true) (hq : plainB q = true) (hf : noFold [p, q] = true) :
    swappedStores [.Tuple [.Name x px, .Name y py] kt pt] (.Tuple [p, q] k2 pt2) env = pure (some [x, y]) := by
  have hb := block_fn hk
  have hl' : (py.line == px.line) = true := by rw [beq_iff_eq] at hl ⊢; exact hl.symm
  simp only [noFold, Bool.and_eq_true, Bool.not_eq_true'] at hf
  have yx : (y == x) = false := beq_eq_false_iff_ne.mpr (Ne.symm hxy)
  have e1 : [x, y].eraseDups = [x, y] := by simp [List.eraseDups, List.eraseDupsBy, List.eraseDupsBy.loop, yx]
  unfold swappedStores
  simp only [Expr.pos, List.head?, Option.map, Option.getD, List.filterMap, hx, hy, hl', hb, hf.1, hf.2]
  simp [e1]
  intro h
  exfalso
  rcases h with h | h
  · cases p <;> first | (simp [plainB] at hp; done) | cases h
  · cases q <;> first | (simp [plainB] at hq; done) | cases h
theorem swap3 {x y z : Str} {px py pz pt : Pos} {p q r : Expr} {kt k2 : Nat} {pt2 : Pos} {env : PySem.Env} (hk : env.scope.kind = .function) (hx : env.kindOf x = some .local) (hy : env.kindOf y = some .local) (hz : env.kindOf z = some .local) (hxy : x ≠ y) (hxz : x ≠ z) (hyz : y ≠ z) (hl : (px.line == py.line) = true) (hl2 : (px.line == pz.line) = true) (hp : plainB p = true) (hq : plainB q = true) (hr : plainB r = true) (hf : noFold [p, q, r] = true) :
    swappedStores [.Tuple [.Name x px, .Name y py, .Name z pz] kt pt] (.Tuple [p, q, r] k2 pt2) env = pure (some [x, y, z]) := by
  have hb := block_fn hk
  have hl' : (py.line == px.line) = true := by rw [beq_iff_eq] at hl ⊢; exact hl.symm
  have hl3 : (pz.line == px.line) = true := by rw [beq_iff_eq] at hl2 ⊢; exact hl2.symm
  simp only [noFold, Bool.and_eq_true, Bool.not_eq_true'] at hf
  have yx : (y == x) = false := beq_eq_false_iff_ne.mpr (Ne.symm hxy)
  have zx : (z == x) = false := beq_eq_false_iff_ne.mpr (Ne.symm hxz)
  have zy : (z == y) = false := beq_eq_false_iff_ne.mpr (Ne.symm hyz)
  have e1 : [x, y, z].eraseDups = [x, y, z] := by simp [List.eraseDups, List.eraseDupsBy, List.eraseDupsBy.loop, yx, zx, zy]
  unfold swappedStores
  simp only [Expr.pos, List.head?, Option.map, Option.getD, List.filterMap, hx, hy, hz, hl', hl3, hb, hf.1, hf.2]
  simp [e1]
  intro h
  exfalso
  rcases h with h | h | h
  · cases p <;> first | (simp [plainB] at hp; done) | cases h
  · cases q <;> first | (simp [plainB] at hq; done) | cases h
  · cases r <;> first | (simp [plainB] at hr; done) | cases h
end
end HB
namespace HB
open PySem L2
section
variable {X : Cx} {W : WX} {C : Ck} {fs : List Sem} {k : Nat}
theorem snd_par (g : GdS X W C fs k) {i j : Nat} {a b : T} {x y : Str} {px py pt pt2 pos : Pos} {p q : Expr} {kt k2 : Nat} (h : chk1 C (.par i j a b) (.Assign [.Tuple [.Name x px, .Name y py] kt pt] (.Tuple [p, q] k2 pt2) pos) = true) :
    PS X (.Assign [.Tuple [.Name x px, .Name y py] kt pt] (.Tuple [p, q] k2 pt2) pos) (tSt X W (evS fs (.par i j a b))) := by
  simp only [chk1, Bool.and_eq_true, decide_eq_true_eq] at h
  obtain ⟨⟨⟨⟨⟨⟨⟨⟨⟨⟨⟨h1, h2⟩, h3⟩, h4⟩, h5⟩, h6⟩, h7⟩, h8⟩, h9⟩, h10⟩, h11⟩, h12⟩ := h
  have lx : X.env.scope.names.lookup x = some .local := by rw [g.sc]; exact h4
  have ly : X.env.scope.names.lookup y = some .local := by rw [g.sc]; exact h5
  refine PS.imp (ps_par (i := i) (j := j) g.calm g.nd (by rw [g.N]; exact h1) (by rw [g.N]; exact h2) h3 lx ly (pa_cons ((sndAll a X W C k g.toGdE).1 _ h11).v (pa_cons ((sndAll b X W C k g.toGdE).1 _ h12).v pa_nil (star_cons h9)) (star_cons h8)) (swap2 g.kind lx ly h6 h7 h8 h9 h10)) ?_
  rintro D σ H ⟨rho, F, env, m, A, En, h⟩
  simp only [evS] at h
  refine ⟨rho, F, env, m, A, En, RdS.ahead En h fun d m1 v r1 F1 H1 s1 A1 q1 h1 => ?_⟩
  refine ⟨r1, F1, env, m1, A1, En.mono s1.onto, RdS.ahead (En.mono s1.onto) h1 fun e m2 u r2 F2 H2 s2 A2 q2 h2 => ?_⟩
  exact ⟨v, u, rfl, h2 _ _ _ _ Step.refl A2 ((((En.mono s1.onto).mono s2.onto).set (q1.mono s2.onto) i).set q2 j)⟩
theorem snd_par3 (g : GdS X W C fs k) {i j l : Nat} {a b c : T} {x y z : Str} {px py pz pt pt2 pos : Pos} {p q r : Expr} {kt k2 : Nat} (h : chk1 C (.par3 i j l a b c) (.Assign [.Tuple [.Name x px, .Name y py, .Name z pz] kt pt] (.Tuple [p, q, r] k2 pt2) pos) = true) :
    PS X (.Assign [.Tuple [.Name x px, .Name y py, .Name z pz] kt pt] (.Tuple [p, q, r] k2 pt2) pos) (tSt X W (evS fs (.par3 i j l a b c))) := by
  simp only [chk1, Bool.and_eq_true, decide_eq_true_eq] at h
  obtain ⟨⟨⟨⟨⟨⟨⟨⟨⟨⟨⟨⟨⟨⟨⟨⟨⟨⟨⟨⟨h1, h2⟩, h3⟩, h4⟩, h5⟩, h6⟩, h7⟩, h8⟩, h9⟩, h10⟩, h11⟩, h12⟩, h13⟩, h14⟩, h15⟩, h16⟩, h17⟩, h18⟩, h19⟩, h20⟩, h21⟩ := h
  have lx : X.env.scope.names.lookup x = some .local := by rw [g.sc]; exact h7
  have ly : X.env.scope.names.lookup y = some .local := by rw [g.sc]; exact h8
  have lz : X.env.scope.names.lookup z = some .local := by rw [g.sc]; exact h9
  refine PS.imp (ps_par3 (i := i) (j := j) (l := l) g.calm g.nd (by rw [g.N]; exact h1) (by rw [g.N]; exact h2) (by rw [g.N]; exact h3) h4 h5 h6 lx ly lz
    (pa_cons ((sndAll a X W C k g.toGdE).1 _ h19).v (pa_cons ((sndAll b X W C k g.toGdE).1 _ h20).v (pa_cons ((sndAll c X W C k g.toGdE).1 _ h21).v pa_nil (star_cons h17)) (star_cons h16)) (star_cons h15)) (swap3 g.kind lx ly lz h10 h11 h12 h13 h14 h15 h16 h17 h18)) ?_
  rintro D σ H ⟨rho, F, env, m, A, En, h⟩
  simp only [evS] at h
  refine ⟨rho, F, env, m, A, En, RdS.ahead En h fun d m1 v r1 F1 H1 s1 A1 q1 h1 => ?_⟩
  refine ⟨r1, F1, env, m1, A1, En.mono s1.onto, RdS.ahead (En.mono s1.onto) h1 fun e m2 u r2 F2 H2 s2 A2 q2 h2 => ?_⟩
  refine ⟨r2, F2, env, m2, A2, (En.mono s1.onto).mono s2.onto, RdS.ahead ((En.mono s1.onto).mono s2.onto) h2 fun f m3 w r3 F3 H3 s3 A3 q3 h3 => ?_⟩
  exact ⟨v, u, w, rfl, h3 _ _ _ _ Step.refl A3 ((((((En.mono s1.onto).mono s2.onto).mono s3.onto).set ((q1.mono s2.onto).mono s3.onto) i).set (q2.mono s3.onto) j).set q3 l)⟩
theorem snd_setix (g : GdS X W C fs k) {o i e : T} {p q v : Expr} {pp pos : Pos} (h : chk1 C (.setix o i e) (.Assign [.Subscript p q pp] v pos) = true) : PS X (.Assign [.Subscript p q pp] v pos) (tSt X W (evS fs (.setix o i e))) := by
  simp only [chk1, Bool.and_eq_true] at h
  obtain ⟨⟨⟨⟨h1, h2⟩, h3⟩, h4⟩, h5⟩ := h
  have hasg : ∀ u, assign (.Subscript p q pp) X.env u = (do
      let ov ← holding [u] (eval p X.env)
      let iv ← holding [u, ov] (eval q X.env)
      standAt pp
      holding [u, ov, iv] (setItem ov iv u)
      release [u, ov, iv] []) := by
    intro u
    cases q <;> first | (simp [noSliceB] at h1; done) | rfl
  refine PS.imp (ps_asg ((sndAll e X W C k g.toGdE).1 _ h3).v (pg_sub ((sndAll o X W C k g.toGdE).1 _ h4).v ((sndAll i X W C k g.toGdE).1 _ h5).v set_list hasg) (swS_plain h2) (st_none rfl) rfl) ?_
  rintro D σ H ⟨rho, F, env, m, A, En, h⟩
  simp only [evS] at h
  refine ⟨rho, F, env, m, A, En, RdS.ahead En h fun d m1 v r1 F1 H1 s1 A1 q1 h1 => ?_⟩
  refine ⟨r1, F1, env, m1, A1, En.mono s1.onto, RdS.ahead (En.mono s1.onto) h1 fun e m2 u r2 F2 H2 s2 A2 q2 h2 => ?_⟩
  refine ⟨r2, F2, env, m2, A2, (En.mono s1.onto).mono s2.onto, RdS.ahead ((En.mono s1.onto).mono s2.onto) h2 fun f m3 w r3 F3 H3 s3 A3 q3 h3 => ?_⟩
  split at h3
  · rename_i m4 hs
    unfold setixD at hs
    split at hs
    · split at hs
      · split at hs
        · rename_i jj ii _ ds hm _ n hn
          cases hs
          cases q3
          cases q2 with
          | ref hi =>
            have hi3 := s3.ix hi
            obtain ⟨nF, vs, h0, r⟩ := A3.own _ _ _ hi3 hm
            have rv := (q1.mono s2.onto).mono s3.onto
            obtain ⟨st, A4⟩ := A3.write (o := .lst (vs.set n v)) (y := .lst (ds.set n d)) hi3 hm nF ⟨_, h0⟩ ⟨nF, _, upd_same, r.set rv n⟩
            exact ⟨_, vs, ii, n, rfl, rfl, h0, by rw [r.length]; exact hn, h3 σ _ _ _ st A4 ((((En.mono s1.onto).mono s2.onto).mono s3.onto).mono st.onto)⟩
        · cases hs
      · cases hs
    · cases hs
  · exact h3.elim
theorem snd_app (g : GdS X W C fs k) {o e : T} {p q : Expr} {x : Str} {ap pos pos2 : Pos} (h : chk1 C (.app o e) (.Expr (.Call (.Attribute p x ap) [q] [] pos) pos2) = true) : PS X (.Expr (.Call (.Attribute p x ap) [q] [] pos) pos2) (tSt X W (evS fs (.app o e))) := by
  simp only [chk1, Bool.and_eq_true, decide_eq_true_eq] at h
  obtain ⟨⟨⟨⟨⟨h1, h2⟩, h3⟩, h4⟩, h5⟩, h6⟩ := h
  subst h1
  refine PS.imp (ps_expr (pe_bm PySem.F.plainAttrs_list PySem.F.slot_list_append PySem.F.type_list_append mt_append ((sndAll o X W C k g.toGdE).1 _ h5).v (pa_cons ((sndAll e X W C k g.toGdE).1 _ h6).v pa_nil (star_cons h3)) (base_plain h2) (by rw [star_cons h3]; rfl) h4 (star_cons h3) rfl) rfl) ?_
  rintro D σ H ⟨rho, F, env, m, A, En, h⟩
  simp only [evS] at h
  refine ⟨rho, F, env, m, A, En, RdS.ahead En h fun d m1 v r1 F1 H1 s1 A1 q1 h1 => ?_⟩
  split at h1
  · rename_i j
    split at h1
    · rename_i hl
      unfold isLst at hl
      split at hl
      · rename_i ds hm
        cases q1 with
        | ref hi =>
          obtain ⟨_, vs0, h00, _⟩ := A1.own _ _ _ hi hm
          refine ⟨.inl ⟨rfl, _, SqL.of h00⟩, r1, F1, env, m1, A1, En.mono s1.onto, RdS.ahead (En.mono s1.onto) h1 fun f m2 u r2 F2 H2 s2 A2 q2 h2 => ?_⟩
          split at h2
          · rename_i m4 ha
            unfold appD at ha
            split at ha
            · split at ha
              · rename_i ds2 hm2 hlen
                cases ha
                have hi2 := s2.ix hi
                obtain ⟨nF, vs, h0, r⟩ := A2.own _ _ _ hi2 hm2
                obtain ⟨st, A4⟩ := A2.write (o := .lst (vs ++ [u])) (y := .lst (ds2 ++ [f])) hi2 hm2 nF ⟨_, h0⟩ ⟨nF, _, upd_same, r.append (.cons q2 .nil)⟩
                exact ⟨_, vs, u, rfl, rfl, h0, by rw [r.length]; exact hlen, h2 σ _ _ _ st A4 (((En.mono s1.onto).mono s2.onto).mono st.onto)⟩
              · cases ha
            · cases ha
          · exact h2.elim
      · cases hl
    · exact h1.elim
  · exact h1.elim
/-- a block: the induction's word -/
structure SndB (X : Cx) (W : WX) (C : Ck) (fs : List Sem) (s : S) : Prop where
  one : ∀ st, chk1 C s st = true → PS X st (tSt X W (evS fs s))
  blk : ∀ sts, chkB C s sts = true → PSs X sts (tSt X W (evS fs s))
theorem RdS.cons {K : PySem.W.Frag} {mg : Str → Option Value} {rho : List Addr} {F H : Hp} {D : Ends} {r : RS} {nx2 : L2.St → Hp → Prop} {q : RS} {f : Env → M → RS} (hq : q = match r with
    | .nx e m => f e m
    | x => x) (h : RdS K mg W rho F H D q) (hn : ∀ env m, r = .nx env m → ∀ σ rho' F' H', Step rho F H rho' F' H' → Abs K mg rho' F' H' m → RpEnv K mg rho' F' σ env → RdS K mg W rho' F' H' D (f env m) → nx2 σ H') : RdS K mg W rho F H { D with nx := nx2 } r := by
  subst hq
  cases r with
  | nx env m => exact fun σ r2 F2 H2 s A En => hn env m rfl σ r2 F2 H2 s A En (RdS.step (show RdS K mg W rho F H D (f env m) from h) s)
  | bk env m => exact h
  | ct env m => exact h
  | rt d m => exact h
  | ex c env m => exact h
  | no => exact h
theorem snd_for (g : GdS X W C fs k) {gg : G} {it : T} {b : S} {tg iter : Expr} {body : List Stmt} {pos : Pos} (hg : chkG C gg tg = true) (hi : chkI C it iter = true) (hs : noSet iter = true) (hb : PSs X body (tSt X W (evS fs b))) : PS X (.For tg iter body [] pos) (tSt X W (evS fs (.fr gg it b))) := by
  refine PS.imp (ps_for g.own g.calm (snd_iter g.toGdE (sndAll it) (fun a _ => sndAll a) (fun a b _ => ⟨sndAll a, sndAll b⟩) hi) (sndG g.toGdE.t gg hg) hb (folded_plain hs)) ?_
  rintro D σ H ⟨rho, F, env, m, A, En, h⟩
  simp only [evS] at h
  refine ⟨rho, F, env, m, A, En, ?_⟩
  cases ei : evE fs it env m with
  | no => rw [ei] at h; exact h
  | ex c m1 => rw [ei] at h; exact fun cls dx r1 F1 H1 s1 A1 q => h cls dx σ r1 F1 H1 s1 A1 (En.mono s1.onto) q
  | ok d m1 =>
    rw [ei] at h
    simp only [R.st] at h ⊢
    cases ev : viewI d m1 with
    | none => rw [ev] at h; exact h
    | some xs =>
      rw [ev] at h
      simp only at h ⊢
      intro J r1 F1 H1 s1 A1 wk
      generalize hstep : (fun x env m => match asgG gg x env with
        | some env2 => evS fs b env2 m
        | none => RS.no) = step at h
      refine ⟨fun i n σ' Hi => n = xs.length - i ∧ i ≤ xs.length ∧ ∃ ri Fi envi mi, Step r1 F1 H1 ri Fi Hi ∧ Abs X.K X.mg ri Fi Hi mi ∧ RpEnv X.K X.mg ri Fi σ' envi ∧ RdS X.K X.mg W r1 F1 H1 D (forGo step (xs.drop i) envi mi), ?_, ?_⟩
      · exact ⟨xs.length, by simp, Nat.zero_le _, r1, F1, env, m1, Step.refl, A1, En.mono s1.onto, RdS.step (by simpa using h) s1⟩
      · rintro i n σ' Hi ⟨rfl, hle, ri, Fi, envi, mi, st, Ai, Eni, hq⟩
        by_cases hlt : i < xs.length
        · right
          have ex : xs[i]? = some xs[i] := by simp [hlt]
          obtain ⟨hgo, hy⟩ := wk.go i xs[i] ri Fi Hi mi ex st.onto Ai
          refine ⟨hgo, fun σ2 H2 => i + 1 ≤ xs.length ∧ ∃ ri Fi envi mi, Step r1 F1 H1 ri Fi H2 ∧ Abs X.K X.mg ri Fi H2 mi ∧ RpEnv X.K X.mg ri Fi σ2 envi ∧ RdS X.K X.mg W r1 F1 H1 D (forGo step (xs.drop (i + 1)) envi mi), ?_, ?_⟩
          · rintro σ2 H2 ⟨a, b⟩
            exact ⟨xs.length - (i + 1), by omega, rfl, a, b⟩
          · intro v H2 hyl
            obtain ⟨F3, st3, A3, rv⟩ := hy v H2 hyl
            have dr : xs.drop i = xs[i] :: xs.drop (i + 1) := List.drop_eq_getElem_cons hlt
            rw [dr] at hq
            simp only [forGo] at hq
            refine ⟨ri, F3, envi, mi, xs[i], A3, Eni.mono st3.onto, rv, ?_⟩
            have e0 : step xs[i] envi mi = match asgG gg xs[i] envi with
              | some env2 => evS fs b env2 mi
              | none => RS.no := by rw [← hstep]
            cases ea : asgG gg xs[i] envi with
            | none =>
              rw [ea] at e0
              rw [e0] at hq
              exact hq
            | some env2 =>
              rw [ea] at e0
              simp only at e0
              rw [e0] at hq
              intro σ2 En2 _
              refine ⟨ri, F3, env2, mi, A3, En2, ?_⟩
              cases eb : evS fs b env2 mi with
              | no => rw [eb] at hq; exact hq
              | nx e2 m2 => rw [eb] at hq; exact fun σ3 r4 F4 H4 s4 A4 En4 => ⟨hlt, r4, F4, e2, m2, (st.trans st3).trans s4, A4, En4, hq⟩
              | ct e2 m2 => rw [eb] at hq; exact fun σ3 r4 F4 H4 s4 A4 En4 => ⟨hlt, r4, F4, e2, m2, (st.trans st3).trans s4, A4, En4, hq⟩
              | bk e2 m2 => rw [eb] at hq; exact fun σ3 r4 F4 H4 s4 A4 En4 => hq σ3 r4 F4 H4 ((st.trans st3).trans s4) A4 En4
              | rt d2 m2 => rw [eb] at hq; exact fun u r4 F4 H4 s4 A4 q4 => hq u r4 F4 H4 ((st.trans st3).trans s4) A4 q4
              | ex c e2 m2 => rw [eb] at hq; exact fun cls dx σ3 r4 F4 H4 s4 A4 En4 q4 => hq cls dx σ3 r4 F4 H4 ((st.trans st3).trans s4) A4 En4 q4
        · left
          have e : i = xs.length := by omega
          subst e
          refine ⟨wk.stop ri Fi Hi mi st.onto Ai, ?_⟩
          simp only [List.drop_length, forGo] at hq
          exact hq σ' ri Fi Hi st Ai Eni
theorem snd_while (g : GdS X W C fs k) {n : Nat} {c : T} {b : S} {p : Expr} {body : List Stmt} {pos : Pos} (hc : chk C c p = true) (hb : PSs X body (tSt X W (evS fs b))) : PS X (.While p body [] pos) (tSt X W (evS fs (.wh n c b))) := by
  refine PS.imp (ps_while g.own ((sndAll c X W C k g.toGdE).1 _ hc).t hb) ?_
  rintro D σ H ⟨rho, F, env, m, A, En, h⟩
  simp only [evS] at h
  refine ⟨fun n σ' Hi => ∃ ri Fi envi mi, Step rho F H ri Fi Hi ∧ Abs X.K X.mg ri Fi Hi mi ∧ RpEnv X.K X.mg ri Fi σ' envi ∧ RdS X.K X.mg W rho F H D (whGo (evT fs c) (evS fs b) n envi mi), ⟨n, rho, F, env, m, Step.refl, A, En, h⟩, ?_⟩
  rintro j σ' Hi ⟨ri, Fi, envi, mi, st, Ai, Eni, hq⟩
  refine ⟨ri, Fi, envi, mi, Ai, Eni, ?_⟩
  cases j with
  | zero => exact False.elim hq
  | succ j =>
    simp only [whGo] at hq
    cases ec : evT fs c envi mi with
    | no => rw [ec] at hq; exact hq
    | ex x m1 => rw [ec] at hq; exact fun cls dx r1 F1 H1 s1 A1 q => hq cls dx σ' r1 F1 H1 (st.trans s1) A1 (Eni.mono s1.onto) q
    | ok t m1 =>
      rw [ec] at hq
      simp only [R.st] at hq
      intro tv r1 F1 H1 s1 A1 et
      subst et
      cases tv with
      | false => exact iteF (hq σ' r1 F1 H1 (st.trans s1) A1 (Eni.mono s1.onto))
      | true =>
        refine iteT ⟨fun σ2 H2 => ∃ ri Fi envi mi, Step rho F H ri Fi H2 ∧ Abs X.K X.mg ri Fi H2 mi ∧ RpEnv X.K X.mg ri Fi σ2 envi ∧ RdS X.K X.mg W rho F H D (whGo (evT fs c) (evS fs b) j envi mi), fun σ2 H2 q => ⟨j, Nat.lt_succ_self j, q⟩, ?_⟩
        refine ⟨r1, F1, envi, m1, A1, Eni.mono s1.onto, ?_⟩
        simp only [if_true] at hq
        cases eb : evS fs b envi m1 with
        | no => rw [eb] at hq; exact hq
        | nx e2 m2 => rw [eb] at hq; exact fun σ3 r4 F4 H4 s4 A4 En4 => ⟨r4, F4, e2, m2, (st.trans s1).trans s4, A4, En4, hq⟩
        | ct e2 m2 => rw [eb] at hq; exact fun σ3 r4 F4 H4 s4 A4 En4 => ⟨r4, F4, e2, m2, (st.trans s1).trans s4, A4, En4, hq⟩
        | bk e2 m2 => rw [eb] at hq; exact fun σ3 r4 F4 H4 s4 A4 En4 => hq σ3 r4 F4 H4 ((st.trans s1).trans s4) A4 En4
        | rt d2 m2 => rw [eb] at hq; exact fun u r4 F4 H4 s4 A4 q4 => hq u r4 F4 H4 ((st.trans s1).trans s4) A4 q4
        | ex x e2 m2 => rw [eb] at hq; exact fun cls dx σ3 r4 F4 H4 s4 A4 En4 q4 => hq cls dx σ3 r4 F4 H4 ((st.trans s1).trans s4) A4 En4 q4
theorem set_same {α : Type} : ∀ {l : List α} {i : Nat} {x : α}, l[i]? = some x → l.set i x = l
  | [], _, _, h => by simp at h
  | a :: l, 0, x, h => by simp at h; subst h; rfl
  | a :: l, i + 1, x, h => by
    simp only [List.set_cons_succ]
    rw [set_same (by simpa using h)]
/-- an object of ours stands still from here on -/
theorem snd_frz {i : Nat} {r : S} {sts : List Stmt} (hr : PSs X sts (tSt X W (evS fs r))) : PSs X sts (tSt X W (evS fs (.cons (.frz i) r))) := by
  refine PSs.imp hr ?_
  rintro D σ H ⟨rho, F, env, m, A, En, h⟩
  simp only [evS] at h
  cases ef : frzD i env m with
  | none => rw [ef] at h; exact h.elim
  | some em =>
    obtain ⟨env2, m2⟩ := em
    rw [ef] at h
    simp only at h
    unfold frzD at ef
    split at ef
    · rename_i kk he
      obtain ⟨v, hv, rv⟩ := En.2 i _ he
      cases rv with
      | ref hi =>
        have hil : i < env.length := (List.getElem?_eq_some_iff.mp he).1
        split at ef
        · rename_i ds hm
          cases ef
          obtain ⟨nF, vs, h0, rr⟩ := A.own _ _ _ hi hm
          obtain ⟨st, A2⟩ := A.freeze hi hm nF h0
          refine ⟨rho, _, _, _, A2, ?_, RdS.step h st⟩
          have := (En.mono st.onto).set (v := V.ref _) (d := .lst ds) (.lst upd_same (rr.mono st.onto)) i
          rwa [set_same hv] at this
        · rename_i ds hm
          cases ef
          obtain ⟨nF, q⟩ := A.own _ _ _ hi hm
          rcases q with ⟨vs, h0, rr⟩ | ⟨vs, h0, rr⟩
          · obtain ⟨st, A2⟩ := A.freeze hi hm nF h0
            refine ⟨rho, _, _, _, A2, ?_, RdS.step h st⟩
            have := (En.mono st.onto).set (v := V.ref _) (d := .dct ds) (.dK upd_same (rr.mono st.onto)) i
            rwa [set_same hv] at this
          · obtain ⟨st, A2⟩ := A.freeze hi hm nF h0
            refine ⟨rho, _, _, _, A2, ?_, RdS.step h st⟩
            have := (En.mono st.onto).set (v := V.ref _) (d := .dct ds) (.dT upd_same (rr.mono st.onto)) i
            rwa [set_same hv] at this
        · cases ef
    · cases ef
end
end HB
namespace HB
open PySem L2
section
variable {fs : List Sem}
theorem chk_rai {C : Ck} {n f : Str} {fl : Bool} {e : T} {st : Stmt} (h : chk1 C (.rai n f fl e) st = true) : ∃ p q pos pos2, st = .Raise (some (.Call (.Name n p) [q] [] pos)) none pos2 ∧ glB C.sc n = true ∧ plainB q = true ∧ chk C e q = true ∧ (n, f, fl) ∈ C.tb.xcs := by
  unfold chk1 at h
  split at h
  all_goals try contradiction
  all_goals try (simp at h; done)
  rename_i h1
  cases h1
  simp only [Bool.and_eq_true, decide_eq_true_eq, List.contains_iff_mem] at h
  obtain ⟨⟨⟨⟨rfl, h2⟩, h3⟩, h4⟩, h5⟩ := h
  exact ⟨_, _, _, _, rfl, h2, h3, h4, h5⟩
theorem chk_try1 {C : Ck} {b : S} {x : Str} {tbl : List (Str × Bool)} {i : Nat} {e : XT} {st : Stmt} (h : chk1 C (.try1 b x tbl i e) st = true) : ∃ body np nm p rp hp pos, st = .Try body [.ExceptHandler (some (.Name x np)) (some nm) [.Return (some p) rp] hp] [] [] pos ∧
    glB C.sc x = true ∧ C.N[i]? = some nm ∧ C.sc.names.lookup nm = some .local ∧ okN nm = true ∧ tbl ≠ [] ∧ (∀ r ∈ tbl, (r.1, x, r.2) ∈ C.tb.xsub) ∧ chkX nm C.tb.xcs e p = true ∧ chkB C b body = true := by
  unfold chk1 at h
  split at h
  all_goals try contradiction
  all_goals try (simp at h; done)
  rename_i h1
  cases h1
  simp only [Bool.and_eq_true, decide_eq_true_eq, List.all_eq_true, List.contains_iff_mem, Bool.not_eq_true', List.isEmpty_eq_false_iff] at h
  obtain ⟨⟨⟨⟨⟨⟨⟨⟨rfl, h2⟩, h3⟩, h4⟩, h5⟩, h9⟩, h6⟩, h7⟩, h8⟩ := h
  exact ⟨_, _, _, _, _, _, _, rfl, h2, h3, h4, h5, h9, h6, h7, h8⟩
theorem snd_rai {n f : Str} {fl : Bool} {e : T} {X : Cx} {W : WX} {C : Ck} {k : Nat} (g : GdS X W C fs k) {st : Stmt} (h : chk1 C (.rai n f fl e) st = true) : PS X st (tSt X W (evS fs (.rai n f fl e))) := by
  obtain ⟨p, q, pos, pos2, rfl, h1, h2, h3, h4⟩ := chk_rai h
  obtain ⟨vn, Cl, fI, T, hv, hd⟩ := g.tb.xok _ _ _ h4
  obtain ⟨gl, _, _⟩ := gl_of g.toGdE h1
  refine PS.imp (ps_raise g.calm g.tk (pmk_x T hv g.tb.sup g.room (pa_cons ((sndAll e X W C k g.toGdE).1 _ h3).v pa_nil (star_cons h2)) gl hd (star_cons h2) rfl)) ?_
  rintro D σ H ⟨rho, F, env, m, A, En, h⟩
  simp only [evS] at h
  refine ⟨rho, F, env, m, A, En, RdS.ahead En h fun d m1 v r1 F1 H1 s1 A1 q1 h1 => ?_⟩
  split at h1
  · rename_i hp
    refine ⟨v, rfl, pvV_of hp q1, fun dx nd => ?_⟩
    obtain ⟨st, A'⟩ := A1.fresh (o := .xd [(f, v)]) nd
    exact h1 _ _ σ _ _ _ st A' ((En.mono s1.onto).mono st.onto) (.own T.gC upd_same (.cons (q1.mono st.onto) .nil))
  · exact h1.elim
theorem chk_rai0 {C : Ck} {n : Str} {st : Stmt} (h : chk1 C (.rai0 n) st = true) : ∃ p t k q pos pos2, st = .Raise (some (.Call (.Name n p) [.Constant (.str t) k q] [] pos)) none pos2 ∧ glB C.sc n = true ∧ n ∈ C.tb.xc0 := by
  unfold chk1 at h
  split at h
  all_goals try contradiction
  all_goals try (simp at h; done)
  rename_i h1
  cases h1
  simp only [Bool.and_eq_true, decide_eq_true_eq, List.contains_iff_mem] at h
  obtain ⟨⟨rfl, h2⟩, h3⟩ := h
  exact ⟨_, _, _, _, _, _, rfl, h2, h3⟩
theorem snd_rai0 {n : Str} {X : Cx} {W : WX} {C : Ck} {k : Nat} (g : GdS X W C fs k) {st : Stmt} (h : chk1 C (.rai0 n) st = true) : PS X st (tSt X W (evS fs (.rai0 n))) := by
  obtain ⟨p, t, kk, q, pos, pos2, rfl, h1, h4⟩ := chk_rai0 h
  obtain ⟨Cl, B, newId, initId, bmB, T, ei, gC, kC, exC, tyC, hdb⟩ := g.tb.xo0 _ h4
  obtain ⟨gl, _, _⟩ := gl_of g.toGdE h1
  refine PS.imp (ps_raise g.calm g.tk (pmk_own T ei gC kC (raises_own exC tyC) gl hdb)) ?_
  rintro D σ H ⟨rho, F, env, m, A, En, h⟩
  simp only [evS] at h
  exact h _ _ σ _ _ _ Step.refl A En (.bare gC)
/-! ### several clauses -/
def vOf : D → V
  | .bl b => .bl b
  | .int i => .int i
  | .str x => .str x
  | _ => .non
theorem chkD_pe {X : Cx} {d : D} {e : Expr} (h : chkD d e = true) : PE X e (tC (vOf d)) := by
  unfold chkD at h
  split at h
  · exact pe_non
  · rename_i b c _ _
    have e := eq_of_beq h
    subst e; exact pe_bl
  · simp only [decide_eq_true_eq] at h
    subst h; exact pe_int
  · simp only [decide_eq_true_eq] at h
    subst h; exact pe_str
  · cases h
theorem chkD_rp {K : PySem.W.Frag} {mg : Str → Option Value} {rho : List Addr} {F : Hp} {d : D} {e : Expr} (h : chkD d e = true) : Rp K mg rho F (vOf d) d := by
  unfold chkD at h
  split at h
  · exact .non
  · exact .bl
  · exact .int
  · exact .str
  · cases h
theorem hs_ok {X : Cx} {W : WX} {C : Ck} {k : Nat} (g : GdS X W C fs k) : ∀ {hs : List (Str × List (Str × Bool) × D)} {hds : List ExceptHandler}, chkHs C hs hds = true →
    ∃ l, HdsOk X hds l ∧ ∀ (W' : WX) (D : Ends) (rho : List Addr) (F H : Hp) (m : M) (σ : L2.St) (env : Env) (c : Exc) (cls : Value) (dx : Option Addr), Abs X.K X.mg rho F H m → RpEnv X.K X.mg rho F σ env → RpX X.K X.mg rho F c cls dx →
      RdS X.K X.mg W' rho F H D (hsGo c env m hs) → wMany X.K W' D l cls dx σ H
  | [], [], _ => ⟨[], .nil, fun W' D rho F H m σ env c cls dx A En rx h => h cls dx σ _ _ _ Step.refl A En rx⟩
  | (x, tbl, d) :: hs, [], h => by simp [chkHs] at h
  | [], _ :: _, h => by simp [chkHs] at h
  | (x, tbl, d) :: hs, hd :: hds, h => by
    obtain ⟨np, p, rp, hp, rfl, h1, h2, h3, h4, h5⟩ : ∃ np p rp hp, hd = .ExceptHandler (some (.Name x np)) none [.Return (some p) rp] hp ∧ glB C.sc x = true ∧ tbl ≠ [] ∧ (∀ r ∈ tbl, (r.1, x, r.2) ∈ C.tb.xsub) ∧ chkD d p = true ∧ chkHs C hs hds = true := by
      unfold chkHs at h
      split at h
      all_goals try contradiction
      rename_i e1 e2
      cases e1
      cases e2
      simp only [Bool.and_eq_true, decide_eq_true_eq, List.all_eq_true, List.contains_iff_mem, Bool.not_eq_true', List.isEmpty_eq_false_iff] at h
      obtain ⟨⟨⟨⟨⟨rfl, h2⟩, h3⟩, h4⟩, h5⟩, h6⟩ := h
      exact ⟨_, _, _, _, rfl, h2, h3, h4, h5, h6⟩
    obtain ⟨l, l1, l2⟩ := hs_ok g h5
    obtain ⟨gl, gd, _⟩ := gl_of g.toGdE h1
    obtain ⟨r0, hr0⟩ : ∃ r0, r0 ∈ tbl := List.exists_mem_of_ne_nil _ h2
    obtain ⟨_, B, _, hx, _⟩ := g.tb.xsb _ _ _ (h3 _ hr0)
    refine ⟨(.ref B, fun a cls d' => fun D σ H => D.rt (vOf d) H) :: l, .cons ⟨gl, gd, .inl hx⟩ (fun a oe cls d' pn hz hf => pss_one (ps_ret (chkD_pe h4))) l1, ?_⟩
    intro W' D rho F H m σ env c cls dx A En rx h
    simp only [hsGo] at h
    cases lk : tbl.lookup c.name with
    | none => rw [lk] at h; exact h.elim
    | some yes =>
      rw [lk] at h
      obtain ⟨Ac, Bc, m1, m2', ex⟩ := g.tb.xsb _ _ _ (h3 _ (lookup_in lk))
      have eB : Bc = B := by
        have := Option.some.inj (m2'.symm.trans hx)
        cases this; rfl
      have eA : cls = .ref Ac := by
        cases rx with
        | bare q => exact Option.some.inj (q.symm.trans m1)
        | own q _ _ => exact Option.some.inj (q.symm.trans m1)
      subst eB eA
      refine ⟨yes, ex, fun hy a na => ?_, fun hy => ?_⟩
      · subst hy
        exact h _ _ _ _ Step.refl A (chkD_rp h4)
      · subst hy
        exact l2 W' D rho F H m σ env c _ dx A En rx h
theorem chk_tryM {C : Ck} {b : S} {hs : List (Str × List (Str × Bool) × D)} {st : Stmt} (h : chk1 C (.tryM b hs) st = true) : ∃ body hds pos, st = .Try body hds [] [] pos ∧ chkHs C hs hds = true ∧ hs ≠ [] ∧ chkB C b body = true := by
  unfold chk1 at h
  split at h
  all_goals try contradiction
  all_goals try (simp at h; done)
  rename_i h1
  cases h1
  simp only [Bool.and_eq_true, Bool.not_eq_true', List.isEmpty_eq_false_iff] at h
  exact ⟨_, _, _, rfl, h.1.1, h.1.2, h.2⟩
theorem snd_tryM {b : S} {hs : List (Str × List (Str × Bool) × D)} {X : Cx} {W : WX} {C : Ck} {k : Nat} (ib : ∀ {X : Cx} {W : WX} {C : Ck} {k : Nat}, GdS X W C fs k → SndB X W C fs b) (g : GdS X W C fs k) {st : Stmt} (h : chk1 C (.tryM b hs) st = true) : PS X st (tSt X W (evS fs (.tryM b hs))) := by
  obtain ⟨body, hds, pos, rfl, h1, h2, h3⟩ := chk_tryM h
  obtain ⟨l, l1, l2⟩ := hs_ok g h1
  cases hds with
  | nil =>
    cases hs with
    | nil => exact absurd rfl h2
    | cons a r => obtain ⟨x, tbl, d⟩ := a; simp [chkHs] at h1
  | cons h0 hds =>
    refine PS.imp (ps_try_many (tb := fun W => tSt X W (evS fs b)) (Wout := W) g.stk g.frm g.tk ?_ l1) ?_
    · intro W' pn xe tk own
      have g' : GdS (X.tr pn xe) W' C fs k := { g with tk := tk, own := own }
      exact (ib g').blk _ h3
    · rintro D σ H ⟨rho, F, env, m, A, En, h⟩
      refine ⟨rho, F, env, m, A, En, ?_⟩
      simp only [evS] at h
      cases ev : evS fs b env m with
      | nx e2 m2 => rw [ev] at h; exact h
      | rt d2 m2 => rw [ev] at h; exact h
      | bk e2 m2 => rw [ev] at h; exact h
      | ct e2 m2 => rw [ev] at h; exact h
      | no => rw [ev] at h; exact h
      | ex c e2 m2 =>
        rw [ev] at h
        simp only at h
        intro cls dx σ2 r2 F2 H2 s2 A2 En2 rx
        exact l2 _ D r2 F2 H2 m2 σ2 e2 c cls dx A2 En2 rx (RdS.step h s2)
theorem lookup_mem {α β : Type} [BEq α] [LawfulBEq α] {a : α} {b : β} : ∀ {l : List (α × β)}, l.lookup a = some b → (a, b) ∈ l
  | [], h => by cases h
  | (x, y) :: l, h => by
    simp only [List.lookup] at h
    split at h
    · rename_i e
      have := eq_of_beq e
      subst this; cases h
      exact List.mem_cons_self
    · exact List.mem_cons_of_mem _ (lookup_mem h)
theorem evX_noex : ∀ (e : XT) (c : Exc), (∀ m c' m', evX c e m ≠ .ex c' m') ∧ (∀ m c' m', evXA c e m ≠ .ex c' m') := by
  have bnd : ∀ {α β : Type} {r : R α} {k : α → M → R β} {c' : Exc} {m' : M}, (∀ c m, r ≠ .ex c m) → (∀ a m c m', k a m ≠ .ex c m') → r.bind k ≠ .ex c' m' := by
    intro α β r k c' m' h1 h2
    cases r with
    | ok a m => exact h2 a m c' m'
    | ex c m => exact absurd rfl (h1 c m)
    | no => exact nofun
  intro e c
  induction e with
  | fld ns f =>
    refine ⟨fun m c' m' => ?_, fun m c' m' => by simp [evXA]⟩
    simp only [evX]
    split
    · split <;> exact nofun
    · exact nofun
  | non => exact ⟨fun m c' m' => by simp [evX], fun m c' m' => by simp [evXA]⟩
  | bl b => exact ⟨fun m c' m' => by simp [evX], fun m c' m' => by simp [evXA]⟩
  | int b => exact ⟨fun m c' m' => by simp [evX], fun m c' m' => by simp [evXA]⟩
  | str b => exact ⟨fun m c' m' => by simp [evX], fun m c' m' => by simp [evXA]⟩
  | tup es ih =>
    refine ⟨fun m c' m' => ?_, fun m c' m' => by simp [evXA]⟩
    simp only [evX]
    exact bnd (ih.2 m) fun a m c m' => by split <;> exact nofun
  | lst es ih =>
    refine ⟨fun m c' m' => ?_, fun m c' m' => by simp [evXA]⟩
    simp only [evX]
    exact bnd (ih.2 m) fun a m c m' => by split <;> exact nofun
  | nil => exact ⟨fun m c' m' => by simp [evX], fun m c' m' => by simp [evXA]⟩
  | cons x es i1 i2 =>
    refine ⟨fun m c' m' => by simp [evX], fun m c' m' => ?_⟩
    simp only [evXA]
    exact bnd (i1.1 m) fun a m c m' => bnd (i2.2 m) fun a m c m' => nofun
  | add x y i1 i2 =>
    refine ⟨fun m c' m' => ?_, fun m c' m' => by simp [evXA]⟩
    simp only [evX]
    exact bnd (i1.1 m) fun a m c m' => bnd (i2.1 m) fun b m c m' => bop_noex (o := .add)
theorem snd_try1 {b : S} {x : Str} {tbl : List (Str × Bool)} {i : Nat} {e : XT} {X : Cx} {W : WX} {C : Ck} {k : Nat} (ib : ∀ {X : Cx} {W : WX} {C : Ck} {k : Nat}, GdS X W C fs k → SndB X W C fs b) (g : GdS X W C fs k) {st : Stmt} (h : chk1 C (.try1 b x tbl i e) st = true) : PS X st (tSt X W (evS fs (.try1 b x tbl i e))) := by
  obtain ⟨body, np, nm, p, rp, hp, pos, rfl, h1, h2, h3, h4, ht, h5, h6, h7⟩ := chk_try1 h
  obtain ⟨gl, gd, _⟩ := gl_of g.toGdE h1
  obtain ⟨o1, o2, o3⟩ := okN_of h4
  have hl : X.env.kindOf nm = some .local := by
    show X.env.scope.names.lookup nm = _
    rw [g.sc]; exact h3
  obtain ⟨r0, hr0⟩ : ∃ r0, r0 ∈ tbl := List.exists_mem_of_ne_nil _ ht
  obtain ⟨_, Cx', _, hx, _⟩ := g.tb.xsb _ _ _ (h5 _ hr0)
  refine PS.imp (ps_try_as (i := i) (c := .ref Cx') (tb := fun W => tSt X W (evS fs b)) (ts := fun a cls d => fun D σ H => tX X i a cls d (fun c m => evX c e m) σ H D.rt) (Wout := W) g.stk g.frm g.nd (by rw [g.N]; exact h2) hl ⟨gl, gd, .inl hx⟩ g.tk ?_ ?_) ?_
  · intro W' pn xe tk own
    have g' : GdS (X.tr pn xe) W' C fs k := { g with tk := tk, own := own }
    exact (ib g').blk _ h7
  · intro a oe cls d pn hz hf
    exact pss_one (ps_ret ((sndX (X := X) (i := i) (n := nm) (xcs := C.tb.xcs) (a := a) (oe := oe) (cls := cls) (d := d) (pn := pn) (by rw [g.N]; exact h2) (.inl hl) o1 o2 g.tb.xok hz hf e).1 _ h6))
  · rintro D σ H ⟨rho, F, env, m, A, En, h⟩
    refine ⟨rho, F, env, m, A, En, ?_⟩
    simp only [evS] at h
    cases ev : evS fs b env m with
    | nx e2 m2 => rw [ev] at h; exact h
    | rt d2 m2 => rw [ev] at h; exact h
    | bk e2 m2 => rw [ev] at h; exact h
    | ct e2 m2 => rw [ev] at h; exact h
    | no => rw [ev] at h; exact h
    | ex c e2 m2 =>
      rw [ev] at h
      simp only at h
      intro cls dx σ2 r2 F2 H2 s2 A2 En2 rx
      cases lk : tbl.lookup c.name with
      | none => rw [lk] at h; exact h.elim
      | some yes =>
        rw [lk] at h
        obtain ⟨Ac, Bc, m1, m2', ex⟩ := g.tb.xsb _ _ _ (h5 _ (lookup_mem lk))
        have eB : Bc = Cx' := by
          have := Option.some.inj (m2'.symm.trans hx)
          cases this; rfl
        have eA : cls = .ref Ac := by
          cases rx with
          | bare q => exact Option.some.inj (q.symm.trans m1)
          | own q _ _ => exact Option.some.inj (q.symm.trans m1)
        subst eB eA
        refine ⟨yes, ex, fun hy a na => ?_, fun hy => ?_⟩
        · subst hy
          simp only at h
          split at h
          · rename_i il
            have rd := h
            refine ⟨r2, F2, c, m2, A2, rx, ?_, ?_⟩
            · rw [List.getElem?_set_self (by rw [En2.1]; exact il)]
            · cases ee : evX c e m2 with
              | ok d3 m3 =>
                rw [ee] at h
                show RdE _ _ _ _ _ _ _ _ _ (evX c e m2)
                rw [ee]
                exact fun v r3 F3 H3 s3 A3 q3 => h v _ _ _ (s2.trans s3) A3 q3
              | ex c3 m3 => exact absurd ee ((evX_noex e c).1 _ _ _)
              | no => rw [ee] at h; exact h.elim
          · exact h.elim
        · subst hy
          exact h _ _ _ _ _ _ s2 A2 En2 rx
theorem sndS : ∀ (s : S) {X : Cx} {W : WX} {C : Ck} {k : Nat}, GdS X W C fs k → SndB X W C fs s := by
  intro s
  induction s with
  | nil =>
    intro X W C k g
    refine ⟨fun st h => by cases st <;> simp [chk1] at h, fun sts h => ?_⟩
    cases sts with
    | nil =>
      refine PSs.imp pss_nil ?_
      rintro D σ H ⟨rho, F, env, m, A, En, h⟩
      simp only [evS] at h
      exact h σ _ _ _ Step.refl A En
    | cons st sts => simp [chkB] at h
  | cons s r is ir =>
    intro X W C k g
    refine ⟨fun st h => by cases st <;> simp [chk1] at h, fun sts h => ?_⟩
    by_cases hz : ∃ i, s = .frz i
    · obtain ⟨i, rfl⟩ := hz
      simp only [chkB] at h
      exact snd_frz ((ir g).blk _ h)
    · cases sts with
      | nil => cases s <;> first | (simp [chkB] at h; done) | exact absurd ⟨_, rfl⟩ hz
      | cons st sts =>
        have h2 : chk1 C s st = true ∧ chkB C r sts = true := by
          cases s <;> first | exact absurd ⟨_, rfl⟩ hz | simpa only [chkB, Bool.and_eq_true] using h
        refine PSs.imp (pss_cons ((is g).one st h2.1) ((ir g).blk sts h2.2)) ?_
        rintro D σ H ⟨rho, F, env, m, A, En, h⟩
        simp only [evS] at h
        refine ⟨rho, F, env, m, A, En, RdS.cons (f := evS fs r) rfl h fun e2 m2 _ σ2 r2 F2 H2 s2 A2 En2 h2 => ⟨r2, F2, e2, m2, A2, En2, h2⟩⟩
  | asg gg e =>
    intro X W C k g
    refine ⟨fun st h => ?_, fun sts h => by cases sts <;> simp [chkB] at h⟩
    cases st with
    | Assign ts v pos =>
      match ts, h with
      | [tg], h =>
        simp only [chk1, Bool.and_eq_true] at h
        obtain ⟨⟨⟨h1, h2⟩, h3⟩, h4⟩ := h
        exact snd_asg g h1 h2 h3 h4
      | [], h => simp [chk1] at h
      | _ :: _ :: _, h => simp [chk1] at h
    | _ => simp [chk1] at h
  | par i j a b =>
    intro X W C k g
    refine ⟨fun st h => ?_, fun sts h => by cases sts <;> simp [chkB] at h⟩
    have h0 := h
    unfold chk1 at h
    split at h
    all_goals first
      | (rename_i heq; cases heq; done)
      | (rename_i heq; cases heq; exact snd_par g h0; done)
      | (cases h; done)
  | par3 i j l a b c =>
    intro X W C k g
    refine ⟨fun st h => ?_, fun sts h => by cases sts <;> simp [chkB] at h⟩
    have h0 := h
    unfold chk1 at h
    split at h
    all_goals first
      | (rename_i heq; cases heq; done)
      | (rename_i heq; cases heq; exact snd_par3 g h0; done)
      | (cases h; done)
  | setix o i e =>
    intro X W C k g
    refine ⟨fun st h => ?_, fun sts h => by cases sts <;> simp [chkB] at h⟩
    have h0 := h
    unfold chk1 at h
    split at h
    all_goals first
      | (rename_i heq; cases heq; done)
      | (rename_i heq; cases heq; exact snd_setix g h0; done)
      | (cases h; done)
  | app o e =>
    intro X W C k g
    refine ⟨fun st h => ?_, fun sts h => by cases sts <;> simp [chkB] at h⟩
    have h0 := h
    unfold chk1 at h
    split at h
    all_goals first
      | (rename_i heq; cases heq; done)
      | (rename_i heq; cases heq; exact snd_app g h0; done)
      | (cases h; done)
  | exp e =>
    intro X W C k g
    refine ⟨fun st h => ?_, fun sts h => by cases sts <;> simp [chkB] at h⟩
    have h0 := h
    unfold chk1 at h
    split at h
    all_goals first
      | (rename_i heq; cases heq; done)
      | (rename_i heq; cases heq; (simp only [Bool.and_eq_true] at h; refine PS.imp (ps_expr ((sndAll e X W C k g.toGdE).1 _ h.2).v (sw_plain h.1)) ?_; rintro D σ H ⟨rho, F, env, m, A, En, h⟩; simp only [evS] at h; exact ⟨rho, F, env, m, A, En, RdS.ahead En h fun d m1 v r1 F1 H1 s1 A1 q1 h1 => h1 σ _ _ _ Step.refl A1 (En.mono s1.onto)⟩); done)
      | (cases h; done)
  | ret e =>
    intro X W C k g
    refine ⟨fun st h => ?_, fun sts h => by cases sts <;> simp [chkB] at h⟩
    have h0 := h
    unfold chk1 at h
    split at h
    all_goals first
      | (rename_i heq; cases heq; done)
      | (rename_i heq; cases heq; (refine PS.imp (ps_ret ((sndAll e X W C k g.toGdE).1 _ h).v) ?_; rintro D σ H ⟨rho, F, env, m, A, En, h⟩; simp only [evS] at h; exact ⟨rho, F, env, m, A, En, RdS.ahead En h fun d m1 v r1 F1 H1 s1 A1 q1 h1 => h1 v _ _ _ Step.refl A1 q1⟩); done)
      | (cases h; done)
  | retN =>
    intro X W C k g
    refine ⟨fun st h => ?_, fun sts h => by cases sts <;> simp [chkB] at h⟩
    have h0 := h
    unfold chk1 at h
    split at h
    all_goals first
      | (rename_i heq; cases heq; done)
      | (rename_i heq; cases heq; (refine PS.imp ps_retN ?_; rintro D σ H ⟨rho, F, env, m, A, En, h⟩; simp only [evS] at h; exact h _ _ _ _ Step.refl A .non); done)
      | (cases h; done)
  | ife c a b ia ib =>
    intro X W C k g
    refine ⟨fun st h => ?_, fun sts h => by cases sts <;> simp [chkB] at h⟩
    have h0 := h
    unfold chk1 at h
    split at h
    all_goals first
      | (rename_i heq; cases heq; done)
      | (rename_i heq; cases heq; (simp only [Bool.and_eq_true] at h; refine PS.imp (ps_if ((sndAll c X W C k g.toGdE).1 _ h.1.1).t ((ia g).blk _ h.1.2) ((ib g).blk _ h.2)) ?_; rintro D σ H ⟨rho, F, env, m, A, En, h⟩; simp only [evS] at h; exact ⟨rho, F, env, m, A, En, RdS.ahead En h fun t m1 v r1 F1 H1 s1 A1 q1 h1 => by (subst q1; cases v <;> exact ⟨r1, F1, env, m1, A1, En.mono s1.onto, by simpa using h1⟩)⟩); done)
      | (cases h; done)
  | fr gg it b ib =>
    intro X W C k g
    refine ⟨fun st h => ?_, fun sts h => by cases sts <;> simp [chkB] at h⟩
    have h0 := h
    unfold chk1 at h
    split at h
    all_goals first
      | (rename_i heq; cases heq; done)
      | (rename_i heq; cases heq; (simp only [Bool.and_eq_true] at h; exact snd_for g h.1.1.1 h.1.1.2 h.1.2 ((ib g).blk _ h.2)); done)
      | (cases h; done)
  | wh n c b ib =>
    intro X W C k g
    refine ⟨fun st h => ?_, fun sts h => by cases sts <;> simp [chkB] at h⟩
    have h0 := h
    unfold chk1 at h
    split at h
    all_goals first
      | (rename_i heq; cases heq; done)
      | (rename_i heq; cases heq; (simp only [Bool.and_eq_true] at h; exact snd_while g h.1 ((ib g).blk _ h.2)); done)
      | (cases h; done)
  | pass =>
    intro X W C k g
    refine ⟨fun st h => ?_, fun sts h => by cases sts <;> simp [chkB] at h⟩
    have h0 := h
    unfold chk1 at h
    split at h
    all_goals first
      | (rename_i heq; cases heq; done)
      | (rename_i heq; cases heq; (refine PS.imp ps_pass ?_; rintro D σ H ⟨rho, F, env, m, A, En, h⟩; simp only [evS] at h; exact h σ _ _ _ Step.refl A En); done)
      | (cases h; done)
  | brk =>
    intro X W C k g
    refine ⟨fun st h => ?_, fun sts h => by cases sts <;> simp [chkB] at h⟩
    have h0 := h
    unfold chk1 at h
    split at h
    all_goals first
      | (rename_i heq; cases heq; done)
      | (rename_i heq; cases heq; (refine PS.imp ps_break ?_; rintro D σ H ⟨rho, F, env, m, A, En, h⟩; simp only [evS] at h; exact h σ _ _ _ Step.refl A En); done)
      | (cases h; done)
  | cont =>
    intro X W C k g
    refine ⟨fun st h => ?_, fun sts h => by cases sts <;> simp [chkB] at h⟩
    have h0 := h
    unfold chk1 at h
    split at h
    all_goals first
      | (rename_i heq; cases heq; done)
      | (rename_i heq; cases heq; (refine PS.imp ps_continue ?_; rintro D σ H ⟨rho, F, env, m, A, En, h⟩; simp only [evS] at h; exact h σ _ _ _ Step.refl A En); done)
      | (cases h; done)
  | rai0 n =>
    intro X W C k g
    exact ⟨fun st h => snd_rai0 g h, fun sts h => by cases sts <;> simp [chkB] at h⟩
  | tryM b hs ib =>
    intro X W C k g
    exact ⟨fun st h => snd_tryM ib g h, fun sts h => by cases sts <;> simp [chkB] at h⟩
  | rai n f fl e =>
    intro X W C k g
    exact ⟨fun st h => snd_rai g h, fun sts h => by cases sts <;> simp [chkB] at h⟩
  | try1 b x tbl i e ib =>
    intro X W C k g
    exact ⟨fun st h => snd_try1 ib g h, fun sts h => by cases sts <;> simp [chkB] at h⟩
  | frz i =>
    intro X W C k g
    exact ⟨fun st h => by cases st <;> simp [chk1] at h, fun sts h => by cases sts <;> simp [chkB] at h⟩
end
/-! ### a def of the text -/
/-- what a body comes to -/
def runB (fs : List Sem) (n : Nat) (b : S) : Sem := fun ds m => match evS fs b (ds.map some ++ List.replicate (n - ds.length) none) m with
  | .nx _ m => .ok .non m
  | .rt d m => .ok d m
  | .ex c _ m => .ex c m
  | _ => .no
end HB
namespace HB
open PySem L2
/-- the world of a law: what its top has left -/
structure Wld (K : PySem.W.Frag) (mg : Str → Option Value) (base : Heap) : Prop where
  bs : ∃ o, base.get? sysModules = some o
  nob : ∀ x ∈ bltAll, mg x = none
section
variable {P : Program} {w : World} {K : PySem.W.Frag} {mg : Str → Option Value} {base : Heap}
theorem rp_start {rho : List Addr} {F : Hp} {vs : List V} {ds : List D} {n : Nat} (r : RpL K mg rho F vs ds) : RpEnv K mg rho F (vs.map some ++ List.replicate (n - vs.length) none) (ds.map some ++ List.replicate (n - ds.length) none) := by
  refine ⟨by simp [r.length], fun i d h => ?_⟩
  by_cases hi : i < ds.length
  · rw [List.getElem?_append_left (by simpa using hi), List.getElem?_map] at h
    cases e : ds[i]? with
    | none => rw [e] at h; cases h
    | some d' =>
      rw [e] at h
      cases h
      obtain ⟨v, hv, rv⟩ := r.get e
      refine ⟨v, ?_, rv⟩
      rw [List.getElem?_append_left (by simpa [r.length] using hi), List.getElem?_map, hv]
      rfl
  · rw [List.getElem?_append_right (by simpa using hi), List.getElem?_replicate] at h
    split at h <;> cases h
theorem def_ok {x qual : Str} {st : Stmt} {f : Addr} {fd : FuncData} {N ps : List Str} {k : Nat} {fns : List (Str × Nat)} {mths : List (Str × Str × Nat)} {fs : List Sem} {tb : Tb} {b : S} (Wd : Wld K mg base) (Fn : Fun K x qual st f fd) (Sc : FnScope N ps (defScope st)) (hc : chkB ⟨N, defScope st, none, fns, mths, tb⟩ b (defBody st) = true)
    (hl : fns.length ≤ fs.length) (hf : ∀ (j : Nat) y n sem, fns[j]? = some (y, n) → fs[j]? = some sem → Callee P w K mg base k y n sem) (hm : ∀ (j : Nat) c y n sem, mths[j]? = some (c, y, n) → fs[fns.length + j]? = some sem → Mth P w K mg base k c y n sem) (ht : TbOk P w K mg tb) :
    FnG P w K mg base (k + 1) f fd ps (spD K mg ps.length (runB fs N.length b)) := by
  refine fnG_of Fn Sc fun cdv B fr s H vs Q E room gd hlen want => ?_
  have g : GdS (cxOf (L2.CX P w) P w K mg base N qual (defScope st) f cdv B fr s H E) (fun cls d _ H => E cls d H) ⟨N, defScope st, none, fns, mths, tb⟩ fs k :=
    { N := rfl, sc := rfl, fn := fun _ _ => rfl, nd := Sc.nd, calm := rfl, room := room, gd := gd, tk := takes_of rfl rfl rfl rfl, fl := hl, fok := hf, mok := hm, tb := ht, bs := Wd.bs, nob := Wd.nob, own := passes_of rfl, stk := rfl, frm := rfl, kind := Sc.kind, rw0 := rfl }
  refine ⟨_, (sndS b g).blk _ hc, ?_⟩
  obtain ⟨_, rho, F, ds, m, A, r, h⟩ := want
  refine ⟨rho, F, ds.map some ++ List.replicate (N.length - ds.length) none, m, A, rp_start r, ?_⟩
  unfold runB at h
  cases e : evS fs b (ds.map some ++ List.replicate (N.length - ds.length) none) m with
  | no => rw [e] at h; exact h
  | nx env m2 => rw [e] at h; exact fun σ r2 F2 H2 s2 A2 _ => h _ r2 F2 H2 s2 A2 .non
  | rt d m2 => rw [e] at h; exact h
  | bk env m2 => rw [e] at h; exact h.elim
  | ct env m2 => rw [e] at h; exact h.elim
  | ex c env m2 => rw [e] at h; exact fun cls dx σ r2 F2 H2 s2 A2 _ q => h cls dx r2 F2 H2 s2 A2 q
theorem Callee.mono {j k : Nat} {x : Str} {n : Nat} {sem : Sem} (h : Callee P w K mg base j x n sem) (hjk : j ≤ k) : Callee P w K mg base k x n sem := by
  obtain ⟨f, fd, ps, a, b, c, d, e⟩ := h
  exact ⟨f, fd, ps, a, b, c, d, e.mono hjk⟩
theorem Mth.mono {j k : Nat} {c x : Str} {n : Nat} {sem : Sem} (h : Mth P w K mg base j c x n sem) (hjk : j ≤ k) : Mth P w K mg base k c x n sem := by
  obtain ⟨C, f, fd, ps, i, a, b, c, d, e, f', g, r⟩ := h
  exact ⟨C, f, fd, ps, i, a, b, c, d, e, f', Nat.le_trans g hjk, r⟩
end
end HB
namespace HB
open PySem L2 PySem.Spec PyProof.Rows PySem.Calls
/-! ### the law's own call, by data -/
/-- the script alone -/
def scrH (a : Addr) (o : Obj) (ns : List Int) : Hp := fun b => if b = a then some (.frz o (.lst (ns.map V.int))) else none
theorem scrH_at {a : Addr} {o : Obj} {ns : List Int} : scrH a o ns a = some (.frz o (.lst (ns.map V.int))) := by unfold scrH; rw [if_pos rfl]
theorem scrH_ne {a b : Addr} {o : Obj} {ns : List Int} (h : b ≠ a) : scrH a o ns b = none := by unfold scrH; rw [if_neg h]
/-- nothing but the script may be tracked -/
structure Scr (K : PySem.W.Frag) (a : Addr) (o : Obj) (ns : List Int) (H : Hp) : Prop where
  kind : H = (fun _ => none) ∨ (H = scrH a o ns ∧ K.lookup a = none)
  seq : SqL K H a (ns.map V.int)
theorem Scr.other {K : PySem.W.Frag} {a b : Addr} {o : Obj} {ns : List Int} {H : Hp} (S : Scr K a o ns H) (h : b ≠ a) : H b = none := by
  rcases S.kind with e | ⟨e, _⟩
  · rw [e]
  · rw [e]; exact scrH_ne h
section
variable {P : Program} {w : World} {K : PySem.W.Frag} {mg mb : Str → Option Value} {k : Nat} {fa a : Addr} {fd : FuncData} {x : Str} {sem : Sem} {s₁ : Shared} {us : List Value} {ns : List Int}
theorem law_core (KX : K.In s₁.heap) (gl : s₁.heap.Ns mainGlobals mg) (bl : s₁.heap.Ns builtinsNs mb) (bb : ∀ y : Str, y ≠ "__name__" → mb y = bootBuiltins y) (nl : s₁.heap.NoLimit) (ng : s₁.gens = #[])
    (at_ : s₁.heap.get? a = some { cls := .type "list", data := .seq us.toArray }) (room : Room k callerA)
    (G : ∀ base : Heap, K.In base → base.Ns mainGlobals mg → FnG P w K mg base k fa fd [x] (spD K mg 1 sem)) (bnd : ∀ (s : Shared) (u : Value), BindsTo s fd ⟨[u], []⟩ [(x, u)])
    (val : ∃ m, sem [.scr ns] [] = .ok (.bl true) m) {H : Hp} (S : Scr K a { cls := .type "list", data := .seq us.toArray } ns H) (hok : HOk P w H s₁.heap) :
    codeAny (model P w) callerA (.call (.ref fa) ⟨[.ref a], []⟩) (fun r s' => r = .ok (.ret (.bool true)) ∧ OldK s₁.heap s'.heap ∧ s'.os = s₁.os ∧ AllBare s'.gens) s₁ := by
  have dictNo : ∀ {b : Addr} {o : Obj} {es : Array DictEntry} {ep : Nat}, s₁.heap.get? b = some o → o.data = .dict es ep → b ≠ a := by
    intro b o es ep e d z
    subst z
    rw [at_] at e
    cases e
    exact nomatch (show Data.seq us.toArray _ = Data.dict es ep from d)
  have nsB : ∀ {b : Addr} {m : Str → Option Value}, s₁.heap.Ns b m → (hidT s₁.heap H).Ns b m := by
    rintro b m ⟨o, es, ep, e, d, r⟩
    exact ⟨o, es, ep, hidT_get e (S.other (dictNo e d)), d, r⟩
  have kB : K.In (hidT s₁.heap H) := by
    intro b o e
    refine hidT_get (KX b o e) ?_
    rcases S.kind with z | ⟨z, na⟩
    · rw [z]
    · refine S.other fun y => ?_
      rw [y, na] at e
      cases e
  obtain ⟨mc, n1, n2⟩ := nl
  have md : Mod K mg (hidT s₁.heap H) := { kin := kB, glob := nsB gl, blt := ⟨mb, nsB bl, bb⟩, nolimit := ⟨mc, nsB n1, n2⟩ }
  have en : Env0 P w K mg (hidT s₁.heap H) callerA [] s₁ H :=
    { frames := rfl, mod := md, bs := fun b o e => of_hidT e, bsz := Nat.le_of_eq (hidT_size _ _), funs := trivial, frf := fun b z => (List.not_mem_nil z).elim, hok := hok, bare := .of_eq ng }
  obtain ⟨m, hv⟩ := val
  have want : spD K mg 1 sem [.ref a] H (fun v _ => v = .bl true) (fun _ _ _ => False) := by
    refine ⟨rfl, [], H, [.scr ns], [], ⟨Same.refl H, rfl, List.nodup_nil, fun i b o e => by simp at e, fun b z => (List.not_mem_nil z).elim⟩, .cons (.scr S.seq) .nil, ?_⟩
    rw [hv]
    intro v r2 F2 H2 s2 A2 q
    cases q
    rfl
  refine codeAny_mono (G _ kB (nsB gl) callerA [] s₁ H ⟨[.ref a], []⟩ [.ref a] [.ref a] _ _ room rfl en (bnd s₁ (.ref a)) (.cons rfl .nil) rfl want) ?_
  rintro (e | fl) s' h
  · have h2 : L2.CX P w [] H s₁ (fun _ _ _ => False) e s' := h
    obtain ⟨_, _, _, _, _, _, _, _, _, _, _, _, no⟩ := h2
    exact no.elim
  · cases fl with
    | ret u =>
      obtain ⟨v, H', os, bare, un, hok', r', q⟩ := h
      have q2 : v = V.bl true := q
      subst q2
      have u2 : u = Value.bool true := r'
      subst u2
      refine ⟨rfl, OldK.of_keep fun b o e => ?_, os, bare⟩
      by_cases ba : b = a
      · rcases S.kind with z | ⟨z, _⟩
        · exact un.keep b o e (by rw [z]) (fun y => (List.not_mem_nil y).elim) (by simp)
        · subst ba
          have h0 : H b = some (.frz { cls := .type "list", data := .seq us.toArray } (.lst (ns.map V.int))) := by rw [z]; exact scrH_at
          obtain ⟨k1, _⟩ := hok b _ h0
          obtain ⟨k2, _⟩ := hok' b _ (un.frzs b _ _ h0)
          rw [e] at k1
          cases k1
          exact k2
      · exact un.keep b o e (S.other ba) (fun y => (List.not_mem_nil y).elim) (by simp)
    | next => exact h.elim
    | brk => exact h.elim
    | cont => exact h.elim
theorem law_data (KX : K.In s₁.heap) (gl : s₁.heap.Ns mainGlobals mg) (bl : s₁.heap.Ns builtinsNs mb) (bb : ∀ y : Str, y ≠ "__name__" → mb y = bootBuiltins y) (nl : s₁.heap.NoLimit) (ng : s₁.gens = #[])
    (at_ : s₁.heap.get? a = some { cls := .type "list", data := .seq us.toArray }) (hin : IntsAre us ns) (len : ns.length ≤ sizeLine) (room : Room k callerA)
    (G : ∀ base : Heap, K.In base → base.Ns mainGlobals mg → FnG P w K mg base k fa fd [x] (spD K mg 1 sem)) (bnd : ∀ (s : Shared) (u : Value), BindsTo s fd ⟨[u], []⟩ [(x, u)])
    (val : ∃ m, sem [.scr ns] [] = .ok (.bl true) m) :
    codeAny (model P w) callerA (.call (.ref fa) ⟨[.ref a], []⟩) (fun r s' => r = .ok (.ret (.bool true)) ∧ OldK s₁.heap s'.heap ∧ s'.os = s₁.os ∧ AllBare s'.gens) s₁ := by
  have rv := vals_ints hin
  cases hk : K.lookup a with
  | some o =>
    have e := KX a o hk
    rw [at_] at e
    cases e
    refine law_core (H := fun _ => none) KX gl bl bb nl ng at_ room G bnd val ⟨.inl rfl, ?_⟩ fun b u z => nomatch z
    exact .inr ⟨_, us.toArray, _, hk, rfl, rfl, rfl, by rw [List.size_toArray, hin.length]; exact len, by simpa using rv⟩
  | none =>
    refine law_core (H := scrH a { cls := .type "list", data := .seq us.toArray } ns) KX gl bl bb nl ng at_ room G bnd val ⟨.inr ⟨rfl, hk⟩, .inl (.inr ⟨_, scrH_at⟩)⟩ fun b u z => ?_
    by_cases ba : b = a
    · subst ba
      rw [scrH_at] at z
      cases z
      exact ⟨at_, by rw [List.length_map]; exact len, us, _, rv, at_⟩
    · rw [scrH_ne ba] at z
      cases z
/-- the law's walk, over a head by facts -/
theorem walk_data {l : PySem.W.OpenLaw} {n k : Nat} {q : Program} {loose : List Str} {XP : (Str → Option Value) → Heap → Prop} {YP : World → Heap → Prop} {d : DefRec} {x : Str}
    (hn : l.most = some n) (hn2 : n ≤ sizeLine) (hdf : d.params.defaults = []) (room : Room k callerA)
    (F : ∀ (w : World) (mg : Str → Option Value) (fa : Addr) (h : Heap), YP w h → h.Ns mainGlobals mg → mg d.name = some (.ref fa) →
      ∃ (K : PySem.W.Frag) (fd : FuncData) (sem : Sem), K.In h ∧ (∀ (s : Shared) (u : Value), BindsTo s fd ⟨[u], []⟩ [(x, u)]) ∧
        (∀ ns : List Int, ns.length ≤ n → (∀ z ∈ ns, Builtin.Int.intBits z ≤ 1048576) → ∃ m, sem [.scr ns] [] = .ok (.bl true) m) ∧
        ∀ base : Heap, K.In base → base.Ns mainGlobals mg → FnG l.prog w K mg base k fa fd [x] (spD K mg 1 sem)) :
    PySem.W.WalkO q loose XP YP l.row.toRowW d [] (fun f vs => PySem.call f vs) := by
  refine Att.attach_callB hn hdf ?_
  intro w s0 s1 mg mb fa o pm cd doc a us ns gr yy ho hd hcd hmg hobj hin hlen hbits hgen
  obtain ⟨K, fd, sem, kx, bnd, val, G⟩ := F w mg fa _ yy gr.T.g hmg
  exact law_data kx gr.T.g gr.T.b gr.T.builtins gr.T.nolimit hgen hobj hin (Nat.le_trans hlen hn2) room G bnd (val ns hlen hbits)
end
end HB
namespace HB
open PySem L2 PySem.Spec PyProof.Rows PySem.HBX
/-! ### what a head tells: names, defs, own errors -/
structure XD where
  x : Str
  f : Str
  v : Str
  fl : Bool
  qual : Str
  params : Arguments
  body : List Stmt
  scope : Scope
  bas : String
  newId : String
  initId : String
  bm : List Value
abbrev XW : Type := Option (Str × Str × Arguments × FuncBody × Scope × Addr × List Str × Addr)
def xW (K : PySem.W.Frag) (x : Str) : XW := match K.lookup (He.ma K (He.ga K x) "__init__") with
  | some ⟨.type "function", _, .func fd, _⟩ => some (fd.name, fd.qualname, fd.params, fd.body, fd.scope, fd.globals, fd.closure.map (·.1), fd.builtins)
  | _ => none
def XD.val (d : XD) : XW := some ("__init__", d.qual, d.params, .stmts d.body, d.scope, mainGlobals, ["__class__"], builtinsNs)
def codeB (K : PySem.W.Frag) (file : Str) (v : Value) : Bool := match v with
  | .ref a => (match K.lookup a with
    | some ⟨_, _, .fields vs, _⟩ => (match (vs[2]? : Option Value) with
      | some (.str y _) => file == y
      | _ => false)
    | _ => false)
  | _ => false
def cellB (K : PySem.W.Frag) (C : Addr) (cl : List (Str × Addr)) : Bool := match cl with
  | [(_, c)] => (match K.lookup c with
    | some ⟨_, _, .cell (some (.ref C')), _⟩ => C' == C
    | _ => false)
  | _ => false
def fnB (K : PySem.W.Frag) (file qual : Str) (C fI : Addr) : Bool := match K.lookup fI with
  | some ⟨.type "function", _, .func fd, _⟩ => (match fd.defaults with
    | .none => PySem.W.codeIn K fd.code qual && codeB K file fd.code && cellB K C fd.closure
    | _ => false)
  | _ => false
def XD.ok (file : Str) (K : PySem.W.Frag) (d : XD) : Bool :=
  let C := He.ga K d.x
  let fI := He.ma K C "__init__"
  He.eqO (PySem.W.nsIn K mainGlobals d.x) (some (some (.ref C))) && (PySem.W.keepIn K (.ref C) && (decide (PySem.W.subIn K (.ref C) (.type "BaseException") = some true) && (decide (PySem.W.typeIn K (.ref C) = some (.type "type")) && (PySem.W.hasDictIn K C &&
  (He.eqO (PySem.W.findIn K (.ref C) "__init__") (some (some (.ref fI))) && (He.eqO (PySem.W.findIn K (.ref C) "__setattr__") (some (some (.builtin "object.__setattr__"))) && (He.eqO (PySem.W.findIn K (.ref C) "__getattribute__") (some (some (.builtin "BaseException.__getattribute__"))) &&
  (He.eqO (PySem.W.findIn K (.ref C) "__getattr__") (some none) && (He.eqO (PySem.W.findIn K (.ref C) d.f) (some none) && (He.eqO (PySem.W.takerIn K C d.f) (some none) && (decide (PySem.W.mroIn K C (.ref C) = some true) && (He.eqO (PySem.W.nsIn K cStatics "thirdparty.any") (some none) &&
  (He.eqO (PySem.W.nsIn K mainGlobals "super") (some none) && (PySem.W.excInitIn K C d.bm d.newId && (PySem.W.excOver K C d.bm && (decide (PySem.W.subIn K (.ref C) (.type d.bas) = some true) && (He.eqO (PySem.W.ks_superIn K C C "__init__") (some (some (.builtin d.initId))) &&
  (fnB K file d.qual C fI && (PySem.W.clsIn K C).isSome))))))))))))))))))
/-- what the text of such a class must be -/
structure XD.Txt (P : Program) (w : World) (d : XD) : Prop where
  bs : XBase d.bas d.newId d.initId d.bm
  vn : vnOk d.v = true
  dbg : (d.x == ("__debug__" : Str)) = false
  top : (P.main.scope.names.lookup ("super" : Str)).isSome = false
  txt : ∃ (q : Nat → Pos) (p1 p2 : Pos) (msg : Expr), d.params = xParams p1 p2 d.v ∧ d.body = xBody q d.f d.v msg ∧ MsgOk P w d.v d.fl msg ∧ ((q 2).endLine == (q 3).line) = true
  nms : d.scope.names = [(("self" : Str), NameKind.local), (d.v, .local), ("__class__", .free), ("super", .globalImplicit)]
  knd : d.scope.kind = .function ∧ d.scope.isCoroutine = false ∧ d.scope.isGenerator = false
  bnd : ∀ (kV doc pm ct : Value) (an : Option Addr) (cda cc : Addr) (s : Shared) (a b : Value), BindsTo s (PySem.W.ksFn "__init__" d.qual d.params d.body d.scope .none kV doc pm an (.ref cda) ct cc) ⟨[a, b], []⟩ [("self", a), (d.v, b)]
theorem xok_of {P : Program} {w : World} {K : PySem.W.Frag} {h : Heap} {mg : Str → Option Value} {d : XD} (X : K.In h) (G : h.Ns mainGlobals mg) (c : d.ok P.main.file K = true) (e : xW K d.x = d.val) (T : d.Txt P w) : XOk P w K mg d.x d.f d.fl := by
  simp only [XD.ok, Bool.and_eq_true, decide_eq_true_eq] at c
  obtain ⟨c1, c2, c3, c4, c5, c6, c7, c8, c9, c10, c11, c12, c13, c14, c15, c16, c17, c18, c19, c20⟩ := c
  refine ⟨d.v, He.ga K d.x, He.ma K (He.ga K d.x) "__init__", ?_, T.vn, T.dbg⟩
  obtain ⟨q, p1, p2, msg, t1, t2, t3, t4⟩ := T.txt
  obtain ⟨k1, k2, k3⟩ := T.knd
  refine { gC := PySem.W.mg_of X G (He.eqO_ok c1), kC := c2, exC := c3, tyC := c4, hdC := c5, iC := He.eqO_ok c6, sa := He.eqO_ok c7, ga := He.eqO_ok c8, gg := He.eqO_ok c9, noN := He.eqO_ok c10, tk := He.eqO_ok c11, sC := c12, tp := He.eqO_ok c13, sup := He.eqO_ok c14, top := T.top, bsx := ⟨d.bas, d.newId, d.initId, d.bm, T.bs, c15, c16, c17, He.eqO_ok c18⟩, fn := ?_ }
  unfold xW at e
  unfold fnB at c19
  cases lk : K.lookup (He.ma K (He.ga K d.x) "__init__") with
  | none => rw [lk] at c19; cases c19
  | some o =>
    obtain ⟨oc, od, dt, osl⟩ := o
    rw [lk] at c19 e
    split at c19
    · rename_i fd sl hh
      cases hh
      rename_i od2
      split at c19
      · rename_i hd
        simp only [Bool.and_eq_true] at c19
        obtain ⟨⟨d1, d2⟩, d3⟩ := c19
        simp only [XD.val, Option.some.injEq, Prod.mk.injEq] at e
        obtain ⟨e1, e2, e3, e4, e5, e6, e7, e8⟩ := e
        obtain ⟨n1, n2, n3, n4, n5, n6, n7, n8, n9, n10, n11, n12, n13, n14, n15⟩ := fd
        dsimp only at e1 e2 e3 e4 e5 e6 e7 e8 d1 d2 d3 hd
        subst e1 e2 e3 e4 e5 e6 e8 hd
        unfold codeB at d2
        split at d2
        · rename_i cda
          split at d2
          · rename_i ccl cdd vs ccs lc
            split at d2
            · rename_i y tf hy
              unfold cellB at d3
              split at d3
              · rename_i nm cc
                split at d3
                · rename_i cl cld C' csl lcc
                  have hC := eq_of_beq d3
                  subst hC
                  have hn : nm = "__class__" := by simpa using e7
                  subst hn
                  obtain ⟨cdD, hD⟩ := Option.isSome_iff_exists.mp c20
                  refine ⟨q, p1, p2, d.qual, d.scope, n9, n10, n11, n14, ccl, cl, od, n12, cdd, cld, cda, cc, osl, ccs, csl, vs, y, tf, msg, cdD, ?_, d1, lc, hy, d2, lcc, hD, T.nms, k1, k2, k3, t3, t4, ?_⟩
                  · rw [← t1, ← t2]
                  · intro s a b
                    rw [← t1, ← t2]
                    exact T.bnd _ _ _ _ _ _ _ s a b
                · cases d3
              · cases d3
            · cases d2
          · cases d2
        · cases d2
      · cases c19
    · cases c19
/-! ### facts of errors as values -/
inductive Fb where
  | xcl (r : Str) | isr (r c : Str) (b : Bool) | isb (r c : Str) (b : Bool)
def Fb.ok (K : PySem.W.Frag) : Fb → Bool
  | .xcl r => (PySem.W.clsIn K (He.ga K r)).isSome && (He.eqO (PySem.W.findIn K (.ref (He.ga K r)) "__getattribute__") (some (some (.builtin "BaseException.__getattribute__"))) && (He.eqO (PySem.W.findIn K (.ref (He.ga K r)) "__getattr__") (some none) &&
    (decide (PySem.W.subIn K (.ref (He.ga K r)) (.type "BaseException") = some true) && (He.eqO (PySem.W.findIn K (.ref (He.ga K r)) "__class__") (some (some (.builtin "object.__class__"))) && (He.eqO (PySem.W.specialIn K (.builtin "object.__class__") "__get__") (some (some (.builtin "getset_descriptor.__get__"))) &&
    (decide (PySem.W.takesIn K (.builtin "object.__class__") = some true) && decide (PySem.W.mroIn K (He.ga K r) (.type "object") = some true)))))))
  | .isr r c b => decide (PySem.W.kitOne K (.ref (He.ga K r)) (.ref (He.ga K c)) = some b)
  | .isb r c b => decide (PySem.W.kitOne K (.ref (He.ga K r)) (.type c.toString) = some b)
theorem xcl_ok {K : PySem.W.Frag} {r : Str} (h : (Fb.xcl r).ok K = true) : XCl K (He.ga K r) := by
  simp only [Fb.ok, Bool.and_eq_true, decide_eq_true_eq] at h
  obtain ⟨h1, h2, h3, h4, h5, h6, h7, h8⟩ := h
  exact ⟨h1, He.eqO_ok h2, He.eqO_ok h3, h4, He.eqO_ok h5, He.eqO_ok h6, h7, h8⟩
/-! ### the head of a law -/
structure Hd where
  gl : List Str
  fr : List Str
  tb : Tb
  xk : List Str
  ms : List (Str × Str)
  fn : List He.DefD
  xs : List XD
def Hd.fa (d : Hd) : List He.Fa := d.gl.map .glo ++ (d.fr.map .free ++ (d.tb.gints.map (fun p => .int p.1 p.2) ++ (d.tb.xsub.map (fun p => .exm p.1 p.2.1 p.2.2) ++ (d.tb.xc0.map .exc ++ d.ms.map fun p => .meth p.1 p.2))))
def Hd.fb (d : Hd) : List Fb := d.xk.map .xcl ++ d.tb.xis.map fun p => if d.gl.contains p.2.1 then .isr p.1 p.2.1 p.2.2 else .isb p.1 p.2.1 p.2.2
/-! ### the Hook -/
abbrev AlX : Type := Bool × List He.FnW × List XW
def obsX (file : Str) (d : Hd) (K : PySem.W.Frag) : AlX :=
  ((d.fa.all fun f => f.ok K) && (d.fn.all fun d => d.ok K) && (d.xs.all fun d => d.ok file K) && (d.fb.all fun f => f.ok K) && (K.lookup sysModules).isSome, d.fn.map fun d => He.fnW K d.at_, d.xs.map fun d => xW K d.x)
def valX (d : Hd) : AlX := (true, d.fn.map He.DefD.val, d.xs.map XD.val)
def SaysX (file : Str) (d : Hd) (K : PySem.W.Frag) : Prop := obsX file d K = valX d
def asX (g : Addr → Option Obj) (n : Nat) : List Addr := sysModules :: cStatics :: He.asD g n
def obsXG (file : Str) (n : Nat) (d : Hd) (g : Addr → Option Obj) : AlX := obsX file d (He.frG g (asX g n))
def hookX (file : Str) (n : Nat) (d : Hd) : PySem.W.Hook where
  α := AlX
  obs := fun s => obsXG file n d s.heap.get?
  val := fun _ => valX d
  says := fun _ h => ∃ K : PySem.W.Frag, K.In h ∧ SaysX file d K
  of := fun _ _ e => ⟨_, He.frG_in, e⟩
  keeps := fun _ _ _ ⟨K, hK, c⟩ k => ⟨K, PySem.W.Frag.In.keeps hK k, c⟩
theorem obsXG_eq {file : Str} {n : Nat} {d : Hd} {g : Addr → Option Obj} {s : Shared} (h : ∀ a, g a = s.heap.get? a) : obsXG file n d g = (hookX file n d).obs s := by
  have e : g = s.heap.get? := funext h
  subst e
  rfl
section
variable {file : Str} {d : Hd} {K : PySem.W.Frag}
theorem SaysX.all (c : SaysX file d K) : ((d.fa.all fun f => f.ok K) = true ∧ (d.fn.all fun d => d.ok K) = true) ∧ (d.xs.all fun d => d.ok file K) = true ∧ (d.fb.all fun f => f.ok K) = true ∧ (K.lookup sysModules).isSome = true := by
  have z : ((d.fa.all fun f => f.ok K) && (d.fn.all fun d => d.ok K) && (d.xs.all fun d => d.ok file K) && (d.fb.all fun f => f.ok K) && (K.lookup sysModules).isSome) = true := congrArg (fun z : AlX => z.1) c
  simp only [Bool.and_eq_true] at z
  exact ⟨z.1.1.1, z.1.1.2, z.1.2, z.2⟩
theorem SaysX.fact (c : SaysX file d K) {f : He.Fa} (h : f ∈ d.fa) : f.ok K = true := List.all_eq_true.mp c.all.1.1 f h
theorem SaysX.factB (c : SaysX file d K) {f : Fb} (h : f ∈ d.fb) : f.ok K = true := List.all_eq_true.mp c.all.2.2.1 f h
theorem SaysX.def_ (c : SaysX file d K) (i : Nat) {q : He.DefD} (h : d.fn[i]? = some q := by rfl) : ∃ fd, FunD K q.name q.qual q.params q.body q.scope (q.dvs K) (q.kws K) (He.fAd K q.at_) fd := by
  have e : d.fn.map (fun d => He.fnW K d.at_) = d.fn.map He.DefD.val := congrArg (fun z : AlX => z.2.1) c
  have e2 : (d.fn.map fun d => He.fnW K d.at_)[i]? = (d.fn.map He.DefD.val)[i]? := by rw [e]
  rw [List.getElem?_map, List.getElem?_map, h] at e2
  exact He.DefD.funD (Option.some.inj e2) (List.all_eq_true.mp c.all.1.2 q (List.mem_of_getElem? h))
theorem SaysX.cls {P : Program} {w : World} {h : Heap} {mg : Str → Option Value} (c : SaysX P.main.file d K) (X : K.In h) (G : h.Ns mainGlobals mg) (i : Nat) {q : XD} (hi : d.xs[i]? = some q) (T : q.Txt P w) : XOk P w K mg q.x q.f q.fl := by
  have e : d.xs.map (fun d => xW K d.x) = d.xs.map XD.val := congrArg (fun z : AlX => z.2.2) c
  have e2 : (d.xs.map fun d => xW K d.x)[i]? = (d.xs.map XD.val)[i]? := by rw [e]
  rw [List.getElem?_map, List.getElem?_map, hi] at e2
  exact xok_of X G (List.all_eq_true.mp c.all.2.1 q (List.mem_of_getElem? hi)) (Option.some.inj e2) T
end
end HB
namespace HB
open PySem L2 PySem.Spec PyProof.Rows PySem.HBX
/-! ### a law's defs, one after the other -/
/-- the tables tell of names that the head knows -/
def Hd.good (d : Hd) : Bool := bltAll.all (fun x => d.fr.contains x) && (d.tb.xsub.all (fun r => d.gl.contains r.1 && d.gl.contains r.2.1) && (d.tb.xc0.all (fun x => d.gl.contains x && !(x == ("__debug__" : Str))) && (d.ms.all (fun p => d.gl.contains p.1) &&
  d.tb.xis.all fun r => d.gl.contains r.1 && (d.xk.contains r.1 && (d.gl.contains r.2.1 || (d.fr.contains r.2.1 && decide (bootBuiltins r.2.1 = some (.type r.2.1.toString))))))))
/-- what is known behind the top -/
structure Al (P : Program) (w : World) (d : Hd) (K : PySem.W.Frag) (mg : Str → Option Value) (h base : Heap) : Prop where
  kx : K.In h
  ns : h.Ns mainGlobals mg
  says : SaysX P.main.file d K
  wld : Wld K mg base
  tb : TbOk P w K mg d.tb
  good : d.good = true
/-- what super().__init__ is told -/
def msgOf : List Stmt → Expr
  | .Expr (.Call _ [m] _ _) _ :: _ => m
  | _ => .Constant .none 0 ⟨0, 0, 0, 0⟩
def clsBody : Stmt → List Stmt
  | .ClassDef (body := b) .. => b
  | _ => []
/-- the datum of a plain def, of a method -/
def dOf (x : Str) (st : Stmt) : He.DefD := { at_ := (x, none), name := x, qual := x, params := defArgs st, body := defBody st, scope := defScope st }
def mOf (c y q : Str) (st : Stmt) : He.DefD := { at_ := (c, some y), name := y, qual := q, params := defArgs st, body := defBody st, scope := defScope st }
theorem fun_of {K : PySem.W.Frag} {x q : Str} {st : Stmt} {f : Addr} {fd : FuncData} (F : FunD K x q (defArgs st) (defBody st) (defScope st) [] [] f fd) : Fun K x q st f fd := by
  obtain ⟨oc, od, dV, kV, doc, pm, an, cdv, ct, osl, e, lk, hcd, hD, _⟩ := F.ex
  rcases hD with ⟨_, z⟩ | ⟨z, _⟩
  · subst z
    exact ⟨⟨oc, od, kV, doc, pm, an, cdv, ct, osl, e, lk, hcd⟩, F.kp⟩
  · exact absurd rfl z
abbrev Bnd (x q : Str) (st : Stmt) (ps : List Str) : Prop := ∀ (kV doc pm : Value) (an : Option Addr) (cdv ct : Value) (us : List Value), us.length = ps.length → bindArgs (PySem.W.fnOf x q (defArgs st) (defBody st) (defScope st) .none kV doc pm an cdv ct) ⟨us, []⟩ = pure (ps.zip us)
section
variable {P : Program} {w : World} {d : Hd} {K : PySem.W.Frag} {mg : Str → Option Value} {h base : Heap}
theorem al_of (kx : K.In h) (ns : h.Ns mainGlobals mg) (says : SaysX P.main.file d K) (kb : K.In base) (gd : d.good = true) (hx : ∀ x f fl, (x, f, fl) ∈ d.tb.xcs → XOk P w K mg x f fl) : Al P w d K mg h base where
  kx := kx
  ns := ns
  says := says
  good := gd
  wld := by
    simp only [Hd.good, Bool.and_eq_true, List.all_eq_true] at gd
    have free : ∀ x ∈ d.fr, mg x = none := fun x hx => He.free_ok kx ns (says.fact (f := .free x) (by simp [Hd.fa, hx]))
    refine ⟨?_, fun x hx => free x (by simpa using gd.1 x hx)⟩
    obtain ⟨o, ho⟩ := Option.isSome_iff_exists.mp says.all.2.2.2
    exact ⟨o, kb _ _ ho⟩
  tb := by
    simp only [Hd.good, Bool.and_eq_true, List.all_eq_true, Bool.or_eq_true, decide_eq_true_eq, Bool.not_eq_true', List.contains_iff_mem] at gd
    obtain ⟨g1, g2, g3, g4, g5⟩ := gd
    have free : ∀ x ∈ d.fr, mg x = none := fun x hx => He.free_ok kx ns (says.fact (f := .free x) (by simp [Hd.fa, hx]))
    have glo : ∀ x ∈ d.gl, mg x = some (.ref (He.ga K x)) := fun x hx => He.glo_ok kx ns (says.fact (f := .glo x) (by simp [Hd.fa, hx]))
    refine ⟨fun y i hm => He.int_ok kx ns (says.fact (f := .int y i) ?_), hx, fun r x b hm => ?_, fun x hm => ?_, fun r c b hm => ?_, free _ (g1 _ (by decide +kernel))⟩
    · simp only [Hd.fa, List.mem_append, List.mem_map]; exact .inr (.inr (.inl ⟨_, hm, rfl⟩))
    · have z := g2 _ hm
      refine ⟨_, _, glo _ z.1, glo _ z.2, He.exm_ok (says.fact (f := .exm r x b) ?_)⟩
      simp only [Hd.fa, List.mem_append, List.mem_map]; exact .inr (.inr (.inr (.inl ⟨_, hm, rfl⟩)))
    · have z := g3 _ hm
      obtain ⟨e1, e2, e3, e4⟩ := He.exc_ok (says.fact (f := .exc x) (by simp only [Hd.fa, List.mem_append, List.mem_map]; exact .inr (.inr (.inr (.inr (.inl ⟨_, hm, rfl⟩))))))
      exact ⟨_, _, _, _, _, PySem.F.excBase_ValueError, e1, glo _ z.1, e2, e3, e4, z.2⟩
    · obtain ⟨z1, z2, z3⟩ := g5 _ hm
      refine ⟨_, glo _ z1, xcl_ok (says.factB (f := .xcl r) (by simp only [Hd.fb, List.mem_append, List.mem_map]; exact .inl ⟨_, z2, rfl⟩)), ?_⟩
      by_cases hc : c ∈ d.gl
      · refine .inl ⟨_, glo _ hc, of_decide_eq_true (says.factB (f := .isr r c b) ?_)⟩
        simp only [Hd.fb, List.mem_append, List.mem_map]
        exact .inr ⟨_, hm, by simp [hc]⟩
      · rcases z3 with z3 | ⟨z3, z4⟩
        · exact absurd z3 hc
        · refine .inr ⟨_, free _ z3, z4, of_decide_eq_true (says.factB (f := .isb r c b) ?_)⟩
          simp only [Hd.fb, List.mem_append, List.mem_map]
          exact .inr ⟨_, hm, by simp [hc]⟩
/-- all callees of a def: defs, then methods -/
def Cals (P : Program) (w : World) (K : PySem.W.Frag) (mg : Str → Option Value) (base : Heap) (k : Nat) : List (Str × Nat) → List (Str × Str × Nat) → List Sem → Prop
  | (x, n) :: r, ms, s :: t => (∃ j, j ≤ k ∧ Callee P w K mg base j x n s) ∧ Cals P w K mg base k r ms t
  | [], (c, y, n) :: r, s :: t => (∃ j, j ≤ k ∧ Mth P w K mg base j c y n s) ∧ Cals P w K mg base k [] r t
  | [], [], [] => True
  | _, _, _ => False
theorem cals_len {k : Nat} : ∀ {fns : List (Str × Nat)} {ms : List (Str × Str × Nat)} {fs : List Sem}, Cals P w K mg base k fns ms fs → fns.length ≤ fs.length
  | [], _, _, _ => Nat.zero_le _
  | (_, _) :: r, ms, s :: t, c => Nat.succ_le_succ (cals_len (by unfold Cals at c; exact c.2))
  | (_, _) :: _, _, [], c => by unfold Cals at c; exact c.elim
theorem cals_at {k : Nat} : ∀ {fns : List (Str × Nat)} {ms : List (Str × Str × Nat)} {fs : List Sem}, Cals P w K mg base k fns ms fs → ∀ (j : Nat) y n sem, fns[j]? = some (y, n) → fs[j]? = some sem → Callee P w K mg base k y n sem
  | [], _, _, _, j, y, n, sem, e, _ => by simp at e
  | (_, _) :: _, _, [], c, _, _, _, _, _, _ => by unfold Cals at c; exact c.elim
  | (x, m) :: r, ms, s :: t, c, 0, y, n, sem, e1, e2 => by
    simp only [List.getElem?_cons_zero, Option.some.injEq, Prod.mk.injEq] at e1 e2
    obtain ⟨rfl, rfl⟩ := e1
    subst e2
    unfold Cals at c
    obtain ⟨i, hi, ci⟩ := c.1
    exact ci.mono hi
  | (x, m) :: r, ms, s :: t, c, j + 1, y, n, sem, e1, e2 => cals_at (fns := r) (ms := ms) (fs := t) (by unfold Cals at c; exact c.2) j y n sem (by simpa using e1) (by simpa using e2)
theorem cals_mt {k : Nat} : ∀ {fns : List (Str × Nat)} {ms : List (Str × Str × Nat)} {fs : List Sem}, Cals P w K mg base k fns ms fs → ∀ (j : Nat) c y n sem, ms[j]? = some (c, y, n) → fs[fns.length + j]? = some sem → Mth P w K mg base k c y n sem
  | (x, m) :: r, ms, s :: t, c, j, cc, y, n, sem, e1, e2 => cals_mt (fns := r) (ms := ms) (fs := t) (by unfold Cals at c; exact c.2) j cc y n sem e1 (by
      rw [List.length_cons, Nat.add_right_comm] at e2; simpa using e2)
  | (_, _) :: _, _, [], c, _, _, _, _, _, _, _ => by unfold Cals at c; exact c.elim
  | [], [], _, c, j, cc, y, n, sem, e1, _ => by simp at e1
  | [], (_, _, _) :: _, [], c, _, _, _, _, _, _, _ => by unfold Cals at c; exact c.elim
  | [], (c', y', n') :: r, s :: t, c, 0, cc, y, n, sem, e1, e2 => by
    simp only [List.length_nil, Nat.add_zero, List.getElem?_cons_zero, Option.some.injEq, Prod.mk.injEq] at e1 e2
    obtain ⟨rfl, rfl, rfl⟩ := e1
    subst e2
    unfold Cals at c
    obtain ⟨i, hi, ci⟩ := c.1
    exact ci.mono hi
  | [], (c', y', n') :: r, s :: t, c, j + 1, cc, y, n, sem, e1, e2 => cals_mt (fns := []) (ms := r) (fs := t) (by unfold Cals at c; exact c.2) j cc y n sem (by simpa using e1) (by
      simp only [List.length_nil, Nat.zero_add] at e2 ⊢; simpa using e2)
theorem callee_D (A : Al P w d K mg h base) (i : Nat) {x : Str} {st : Stmt} {N ps : List Str} {k : Nat} {fns : List (Str × Nat)} {ms : List (Str × Str × Nat)} {fs : List Sem} {b : S} (hd : d.fn[i]? = some (dOf x st)) (hg : x ∈ d.gl) (Sc : FnScope N ps (defScope st)) (hb : Bnd x x st ps)
    (cs : Cals P w K mg base k fns ms fs) (hc : chkB ⟨N, defScope st, none, fns, ms, d.tb⟩ b (defBody st) = true) : Callee P w K mg base (k + 1) x ps.length (runB fs N.length b) := by
  obtain ⟨fd, F⟩ := A.says.def_ i hd
  have hm := He.glo_ok A.kx A.ns (A.says.fact (f := .glo x) (by simp [Hd.fa, hg]))
  exact ⟨_, fd, ps, hm, F.kp, FunD.bindsN F hb, rfl, def_ok A.wld (fun_of F) Sc hc (cals_len cs) (cals_at cs) (cals_mt cs) A.tb⟩
theorem mth_D (A : Al P w d K mg h base) (i : Nat) {c y q : Str} {st : Stmt} {N ps : List Str} {k : Nat} {fns : List (Str × Nat)} {ms : List (Str × Str × Nat)} {fs : List Sem} {b : S} (hd : d.fn[i]? = some (mOf c y q st)) (hg : (c, y) ∈ d.ms) (Sc : FnScope N ps (defScope st)) (hb : Bnd y q st ps)
    (cs : Cals P w K mg base k fns ms fs) (hc : chkB ⟨N, defScope st, none, fns, ms, d.tb⟩ b (defBody st) = true) : Mth P w K mg base (k + 3) c y ps.length (runB fs N.length b) := by
  obtain ⟨fd, F⟩ := A.says.def_ i hd
  have gd := A.good
  simp only [Hd.good, Bool.and_eq_true, List.all_eq_true, List.contains_iff_mem] at gd
  have hgl : c ∈ d.gl := gd.2.2.2.1 _ hg
  have hm := He.glo_ok A.kx A.ns (A.says.fact (f := .glo c) (by simp [Hd.fa, hgl]))
  have mt := A.says.fact (f := .meth c y) (by simp only [Hd.fa, List.mem_append, List.mem_map]; exact .inr (.inr (.inr (.inr (.inr ⟨_, hg, rfl⟩)))))
  obtain ⟨c1, mt⟩ := He.ba mt
  obtain ⟨c2, c3⟩ := He.ba mt
  exact ⟨_, _, fd, ps, k + 1, hm, He.eqO_ok c1, c2, c3, FunD.bindsN F hb, rfl, Nat.le_refl _, def_ok A.wld (fun_of F) Sc hc (cals_len cs) (cals_at cs) (cals_mt cs) A.tb⟩
/-- the law's own def -/
theorem law_D (A : Al P w d K mg h base) {x : Str} {st : Stmt} {N ps : List Str} {k : Nat} {fns : List (Str × Nat)} {ms : List (Str × Str × Nat)} {fs : List Sem} {b : S} {fd : FuncData} (F : FunD K x x (defArgs st) (defBody st) (defScope st) [] [] (He.ga K x) fd) (Sc : FnScope N ps (defScope st))
    (cs : Cals P w K mg base k fns ms fs) (hc : chkB ⟨N, defScope st, none, fns, ms, d.tb⟩ b (defBody st) = true) : FnG P w K mg base (k + 1) (He.ga K x) fd ps (spD K mg ps.length (runB fs N.length b)) :=
  def_ok A.wld (fun_of F) Sc hc (cals_len cs) (cals_at cs) (cals_mt cs) A.tb
end
end HB
namespace HB
open PySem L2
/-! ### small data: their texts -/
def strB (x : Str) : Bool := decide (x.length ≤ 100) && x.cps.toList.all (fun c => decide (c < 0x110000))
def small : Nat → D → Bool
  | _, .non => true
  | _, .bl _ => true
  | _, .int i => decide (i.natAbs.log2 < 1920)
  | _, .str x => strB x
  | n + 1, .tup ds => decide (ds.length ≤ 4) && ds.all (small n)
  | n + 1, .lst ds => decide (ds.length ≤ 4) && ds.all (small n)
  | n + 1, .dct kvs => decide (kvs.length ≤ 4) && kvs.all fun p => small n p.1 && small n p.2
  | _, _ => false
def smB : Nat → Nat
  | 0 => 2000
  | n + 1 => 9 * smB n
theorem smB_ge : ∀ n, 2000 ≤ smB n
  | 0 => Nat.le_refl _
  | n + 1 => by have := smB_ge n; unfold smB; omega
theorem smB_mono (n : Nat) : smB n ≤ smB (n + 1) := by show smB n ≤ 9 * smB n; omega
/-- what a text costs -/
structure Shw (p : PyData) (k n : Nat) : Prop where
  s : p.showable = true
  d : p.depth ≤ k
  l : p.shown.length ≤ n
structure ShwL (ps : List PyData) (k n : Nat) : Prop where
  s : PyData.showableAll ps = true
  d : PyData.depthAll ps ≤ k
  l : piled (PyData.shownAll ps) ≤ n
theorem shwL_of {k B : Nat} : ∀ (ds : List D), (∀ d ∈ ds, ∃ p, pyR d = some p ∧ Shw p k B) → ∃ ps, pyRL ds = some ps ∧ ShwL ps k (ds.length * (B + 2))
  | [], _ => ⟨[], rfl, ⟨rfl, Nat.zero_le _, Nat.zero_le _⟩⟩
  | d :: ds, h => by
    obtain ⟨p, h1, h2⟩ := h d List.mem_cons_self
    obtain ⟨ps, h3, h4⟩ := shwL_of ds fun x hx => h x (List.mem_cons_of_mem _ hx)
    refine ⟨p :: ps, by simp [pyRL, h1, h3], ⟨by simp [PyData.showableAll, h2.s, h4.s], ?_, ?_⟩⟩
    · simp only [PyData.depthAll]; exact Nat.max_le.mpr ⟨h2.d, h4.d⟩
    · simp only [PyData.shownAll, piled_cons, List.length_cons]
      have := h2.l
      have := h4.l
      rw [Nat.succ_mul]; omega
structure ShwK (ps : List (PyData × PyData)) (k n : Nat) : Prop where
  s : PyData.showableKv ps = true
  d : PyData.depthKv ps ≤ k
  l : piled (PyData.shownKv ps) ≤ n
theorem shwK_of {k B : Nat} : ∀ (ds : List (D × D)), (∀ d ∈ ds, (∃ p, pyR d.1 = some p ∧ Shw p k B) ∧ ∃ p, pyR d.2 = some p ∧ Shw p k B) → ∃ ps, pyRK ds = some ps ∧ ShwK ps k (ds.length * (2 * B + 4))
  | [], _ => ⟨[], rfl, ⟨rfl, Nat.zero_le _, Nat.zero_le _⟩⟩
  | (a, b) :: ds, h => by
    obtain ⟨⟨p, h1, h2⟩, q, h5, h6⟩ := h (a, b) List.mem_cons_self
    obtain ⟨ps, h3, h4⟩ := shwK_of ds fun x hx => h x (List.mem_cons_of_mem _ hx)
    refine ⟨(p, q) :: ps, by simp only at h1 h5; simp [pyRK, h1, h3, h5], ⟨by simp [PyData.showableKv, h2.s, h6.s, h4.s], ?_, ?_⟩⟩
    · simp only [PyData.depthKv]; exact Nat.max_le.mpr ⟨Nat.max_le.mpr ⟨h2.d, h6.d⟩, h4.d⟩
    · simp only [PyData.shownKv, piled_cons, List.length_cons, strLen_append]
      have := h2.l
      have := h4.l
      have := h6.l
      have e : ((": " : String) : Str).length = 2 := rfl
      rw [Nat.succ_mul, e]; omega
theorem piled_sum : ∀ ts : List Str, (ts.map (·.length)).sum + 2 * ts.length = piled ts
  | [] => rfl
  | t :: ts => by
    have := piled_sum ts
    simp only [List.map_cons, List.sum_cons, List.length_cons, piled_cons]; omega
theorem listText_le (ts : List Str) : (listText ts).length ≤ piled ts + 3 := by
  have h := listText_len_le ts
  rw [← piled_sum]; exact h
theorem join_le (ts : List Str) : (Str.join ", " ts).length ≤ piled ts := by
  cases ts with
  | nil => exact Nat.zero_le _
  | cons t ts =>
    have := join_length_add (t :: ts) (by simp)
    omega
theorem tupleText_le (ts : List Str) : (tupleText ts).length ≤ piled ts + 3 := by
  unfold tupleText
  rw [strLen_append, strLen_append]
  have h := join_le ts
  have e1 : ((("(" : String) : Str)).length = 1 := rfl
  have e2 : ((if ts.length == 1 then ",)" else ")" : String) : Str).length ≤ 2 := by split <;> decide
  omega
theorem dictText_le (ts : List Str) : (dictText ts).length ≤ piled ts + 2 := by
  unfold dictText
  rw [strLen_append, strLen_append]
  have h := join_le ts
  have e1 : ((("{" : String) : Str)).length = 1 := rfl
  have e2 : ((("}" : String) : Str)).length = 1 := rfl
  omega
theorem small_shw : ∀ (n : Nat) (d : D), small n d = true → ∃ p, pyR d = some p ∧ Shw p n (smB n) := by
  have flat : ∀ n d, small n d = true → (match d with
      | .tup _ => False
      | .lst _ => False
      | .dct _ => False
      | _ => True) → ∃ p, pyR d = some p ∧ Shw p n (smB n) := by
    intro n d h hd
    have hb := smB_ge n
    cases d with
    | non => exact ⟨_, rfl, ⟨rfl, Nat.zero_le _, Nat.le_trans (by decide : 4 ≤ 2000) hb⟩⟩
    | bl b => exact ⟨_, rfl, ⟨rfl, Nat.zero_le _, Nat.le_trans (by cases b <;> decide) hb⟩⟩
    | int i =>
      have hi : i.natAbs.log2 < 1920 := by cases n <;> simpa [small] using h
      refine ⟨_, rfl, ⟨by simp [PyData.showable, hi], Nat.zero_le _, Nat.le_trans (Nat.le_trans (PyProof.Rows.int_text_len_1921 hi) (by decide)) hb⟩⟩
    | str x =>
      have hx : strB x = true := by cases n <;> simpa [small] using h
      simp only [strB, Bool.and_eq_true, decide_eq_true_eq, List.all_eq_true] at hx
      refine ⟨_, rfl, ⟨rfl, Nat.zero_le _, ?_⟩⟩
      have := StrLaws.reprText_len x (fun c hc => Nat.lt_of_lt_of_le (hx.2 c hc) (by decide))
      show (reprText x).length ≤ _
      omega
    | tup _ => exact hd.elim
    | lst _ => exact hd.elim
    | dct _ => exact hd.elim
    | obj _ _ => cases n <;> simp [small] at h
    | exv _ _ => cases n <;> simp [small] at h
    | ref _ => cases n <;> simp [small] at h
    | scr _ => cases n <;> simp [small] at h
  intro n
  induction n with
  | zero =>
    intro d h
    refine flat 0 d h ?_
    cases d <;> first | trivial | (simp [small] at h)
  | succ n ih =>
    intro d h
    cases d with
    | tup ds =>
      simp only [small, Bool.and_eq_true, decide_eq_true_eq, List.all_eq_true] at h
      obtain ⟨ps, h1, h2⟩ := shwL_of ds fun d hd => ih d (h.2 d hd)
      refine ⟨.tuple ps, by simp [pyR, h1], ⟨by simpa [PyData.showable] using h2.s, by simpa [PyData.depth] using h2.d, ?_⟩⟩
      have e := tupleText_le (PyData.shownAll ps)
      have := h2.l
      have hb := smB_ge n
      have hm : ds.length * (smB n + 2) ≤ 4 * (smB n + 2) := Nat.mul_le_mul_right _ h.1
      show (tupleText (PyData.shownAll ps)).length ≤ 9 * smB n
      omega
    | lst ds =>
      simp only [small, Bool.and_eq_true, decide_eq_true_eq, List.all_eq_true] at h
      obtain ⟨ps, h1, h2⟩ := shwL_of ds fun d hd => ih d (h.2 d hd)
      refine ⟨.list ps, by simp [pyR, h1], ⟨by simpa [PyData.showable] using h2.s, by simpa [PyData.depth] using h2.d, ?_⟩⟩
      have e := listText_le (PyData.shownAll ps)
      have := h2.l
      have hb := smB_ge n
      have hm : ds.length * (smB n + 2) ≤ 4 * (smB n + 2) := Nat.mul_le_mul_right _ h.1
      show (listText (PyData.shownAll ps)).length ≤ 9 * smB n
      omega
    | dct ds =>
      simp only [small, Bool.and_eq_true, decide_eq_true_eq, List.all_eq_true] at h
      obtain ⟨ps, h1, h2⟩ := shwK_of ds fun d hd => ⟨ih _ (h.2 d hd).1, ih _ (h.2 d hd).2⟩
      refine ⟨.dict ps, by simp [pyR, h1], ⟨by simpa [PyData.showable] using h2.s, by simpa [PyData.depth] using h2.d, ?_⟩⟩
      have e := dictText_le (PyData.shownKv ps)
      have := h2.l
      have hb := smB_ge n
      have hm : ds.length * (2 * smB n + 4) ≤ 4 * (2 * smB n + 4) := Nat.mul_le_mul_right _ h.1
      show (dictText (PyData.shownKv ps)).length ≤ 9 * smB n
      omega
    | non => exact flat _ _ h trivial
    | bl b => exact flat _ _ h trivial
    | int i => exact flat _ _ h trivial
    | str x => exact flat _ _ h trivial
    | obj _ _ => exact flat _ _ h trivial
    | exv _ _ => exact flat _ _ h trivial
    | ref _ => exact flat _ _ h trivial
    | scr _ => exact flat _ _ h trivial
theorem repr_small {n : Nat} (hn : n ≤ 4) {d : D} (h : small n d = true) (m : M) : ∃ s, reprD [d] m = .ok (.str s) m := by
  obtain ⟨p, h1, h2⟩ := small_shw n d h
  have hl : smB n ≤ sizeLine := by
    rw [sizeLine_eq]
    match n, hn with
    | 0, _ => decide
    | 1, _ => decide
    | 2, _ => decide
    | 3, _ => decide
    | 4, _ => decide
  have e : pyRT d m = some p := by
    cases d <;> first | exact h1 | (cases n <;> simp [small] at h)
  refine ⟨p.shown, ?_⟩
  simp only [reprD, e]
  rw [if_pos ⟨h2.s, Nat.le_trans h2.d (by omega), Nat.le_trans h2.l hl⟩]
theorem norefL_all : ∀ {ds : List D}, (∀ d ∈ ds, noref d = true) → norefL ds = true
  | [], _ => rfl
  | d :: ds, h => by simp [norefL, h d List.mem_cons_self, norefL_all fun x hx => h x (List.mem_cons_of_mem _ hx)]
theorem norefK_all : ∀ {ds : List (D × D)}, (∀ d ∈ ds, noref d.1 = true ∧ noref d.2 = true) → norefK ds = true
  | [], _ => rfl
  | (a, b) :: ds, h => by
    have := h (a, b) List.mem_cons_self
    simp [norefK, this.1, this.2, norefK_all fun x hx => h x (List.mem_cons_of_mem _ hx)]
theorem small_noref : ∀ (n : Nat) (d : D), small n d = true → noref d = true := by
  intro n
  induction n with
  | zero => intro d h; cases d <;> first | rfl | (simp [small] at h)
  | succ n ih =>
    intro d h
    cases d with
    | tup ds =>
      simp only [small, Bool.and_eq_true, decide_eq_true_eq, List.all_eq_true] at h
      simp only [noref]; exact norefL_all fun d hd => ih d (h.2 d hd)
    | lst ds =>
      simp only [small, Bool.and_eq_true, decide_eq_true_eq, List.all_eq_true] at h
      simp only [noref]; exact norefL_all fun d hd => ih d (h.2 d hd)
    | dct ds =>
      simp only [small, Bool.and_eq_true, decide_eq_true_eq, List.all_eq_true] at h
      simp only [noref]; exact norefK_all fun d hd => ⟨ih _ (h.2 d hd).1, ih _ (h.2 d hd).2⟩
    | non => rfl
    | bl b => rfl
    | int i => rfl
    | str x => rfl
    | obj _ _ => simp [small] at h
    | exv _ _ => simp [small] at h
    | ref _ => simp [small] at h
    | scr _ => simp [small] at h
theorem small_up : ∀ (n : Nat) (d : D), small n d = true → small (n + 1) d = true := by
  intro n
  induction n with
  | zero => intro d h; cases d <;> first | exact h | (simp [small] at h)
  | succ n ih =>
    intro d h
    cases d with
    | tup ds =>
      simp only [small, Bool.and_eq_true, decide_eq_true_eq, List.all_eq_true] at h ⊢
      exact ⟨h.1, fun d hd => ih d (h.2 d hd)⟩
    | lst ds =>
      simp only [small, Bool.and_eq_true, decide_eq_true_eq, List.all_eq_true] at h ⊢
      exact ⟨h.1, fun d hd => ih d (h.2 d hd)⟩
    | dct ds =>
      simp only [small, Bool.and_eq_true, decide_eq_true_eq, List.all_eq_true] at h ⊢
      exact ⟨h.1, fun d hd => ⟨ih _ (h.2 d hd).1, ih _ (h.2 d hd).2⟩⟩
    | non => rfl
    | bl b => rfl
    | int i => exact h
    | str x => exact h
    | obj _ _ => simp [small] at h
    | exv _ _ => simp [small] at h
    | ref _ => simp [small] at h
    | scr _ => simp [small] at h
/-! ### isinstance of plain data -/
def tyP : D → String
  | .non => "NoneType" | .bl _ => "bool" | .int _ => "int" | .str _ => "str" | .tup _ => "tuple" | .lst _ => "list" | .dct _ => "dict" | _ => ""
def plainD : D → Bool
  | .obj _ _ => false | .exv _ _ => false | .ref _ => false | .scr _ => false | _ => true
theorem small_plain {n : Nat} {d : D} (h : small n d = true) : plainD d = true := by
  cases d <;> first | rfl | (cases n <;> simp [small] at h)
theorem isi_all : (["NoneType", "bool", "int", "str", "tuple", "list", "dict"].all fun t => clsNames.all fun c => decide (kitB t c = some (isiB t c))) = true := by decide +kernel
theorem isi_plain {d : D} {c : String} {m : M} (h : plainD d = true) (hc : c ∈ clsNames) : isiD d c m = .ok (.bl (isiB (tyP d) c)) m := by
  have key : ∀ t ∈ ["NoneType", "bool", "int", "str", "tuple", "list", "dict"], kitB t c = some (isiB t c) := by
    intro t ht
    have z := isi_all
    rw [List.all_eq_true] at z
    have z2 := z t ht
    rw [List.all_eq_true] at z2
    exact of_decide_eq_true (z2 c hc)
  unfold isiD
  have e : tyD d m = some (tyP d) := by cases d <;> first | rfl | (simp [plainD] at h)
  have e2 : tyP d ∈ ["NoneType", "bool", "int", "str", "tuple", "list", "dict"] := by cases d <;> first | (simp [tyP]; done) | (simp [plainD] at h)
  rw [e]
  simp only
  rw [key _ e2]
end HB
namespace HB
open PySem L2
/-! ### steps of the evaluator -/
theorem R.bind_ok {α β : Type} {a : α} {m : M} {k : α → M → R β} : (R.ok a m).bind k = k a m := rfl
theorem R.bind_ex {α β : Type} {c : Exc} {m : M} {k : α → M → R β} : (R.ex c m : R α).bind k = .ex c m := rfl
theorem R.st_ok {α : Type} {a : α} {m : M} {env : Env} {k : α → M → RS} : (R.ok a m).st env k = k a m := rfl
theorem R.st_ex {α : Type} {c : Exc} {m : M} {env : Env} {k : α → M → RS} : (R.ex c m : R α).st env k = .ex c env m := rfl
theorem truth_bl {b : Bool} {m : M} : truthB (.bl b) m = .ok b m := rfl
theorem truth_int {i : Int} {m : M} : truthB (.int i) m = .ok (i != 0) m := rfl
section
variable {fs : List Sem} {env : Env} {m m1 m2 m3 : M}
theorem ev_var {i : Nat} {d : D} (h : env[i]? = some (some d)) : evE fs (.var i) env m = .ok d m := by simp only [evE, h]
theorem ev_int {i : Int} : evE fs (.int i) env m = .ok (.int i) m := by simp only [evE]
theorem ev_bl {i : Bool} : evE fs (.bl i) env m = .ok (.bl i) m := by simp only [evE]
theorem ev_str {i : Str} : evE fs (.str i) env m = .ok (.str i) m := by simp only [evE]
theorem ev_non : evE fs .non env m = .ok .non m := by simp only [evE]
theorem ev_gint {x : Str} {i : Int} : evE fs (.gint x i) env m = .ok (.int i) m := by simp only [evE]
theorem ev_neg {a : T} {i : Int} (ha : evE fs a env m = .ok (.int i) m1) : evE fs (.neg a) env m = .ok (.int (-i)) m1 := by simp only [evE, ha, R.bind_ok]
theorem ev_bin {o : BOp} {a b : T} {d e : D} {r : R D} (ha : evE fs a env m = .ok d m1) (hb : evE fs b env m1 = .ok e m2) (h : bopD o d e m2 = r) : evE fs (.bin o a b) env m = r := by simp only [evE, ha, hb, R.bind_ok, h]
theorem ev_cmp {o : COp} {a b : T} {d e : D} {r : R D} (ha : evE fs a env m = .ok d m1) (hb : evE fs b env m1 = .ok e m2) (h : copD o d e m2 = r) : evE fs (.cmp o a b) env m = r := by simp only [evE, ha, hb, R.bind_ok, h]
theorem ev_chain {o p : COp} {a b c : T} {d e g : D} {x y : Bool} (ha : evE fs a env m = .ok d m1) (hb : evE fs b env m1 = .ok e m2) (h : copD o d e m2 = .ok (.bl x) m2) (hc : x = true → evE fs c env m2 = .ok g m3 ∧ copD p e g m3 = .ok (.bl y) m3 ∧ m3 = m2) :
    evE fs (.chain o p a b c) env m = .ok (.bl (x && y)) m2 := by
  simp only [evE, ha, hb, R.bind_ok, h]
  cases x with
  | true =>
    obtain ⟨h1, h2, rfl⟩ := hc rfl
    simp only [h1, R.bind_ok, h2, Bool.true_and]
  | false => simp only [Bool.false_and]
theorem ev_and {a b : T} {x y : Bool} (ha : evE fs a env m = .ok (.bl x) m1) (hb : x = true → evE fs b env m1 = .ok (.bl y) m1) : evE fs (.and a b) env m = .ok (.bl (x && y)) m1 := by
  simp only [evE, ha, R.bind_ok, truth_bl]
  cases x with
  | true => simp only [if_true, hb rfl, Bool.true_and]
  | false => simp
theorem ev_or {a b : T} {x y : Bool} (ha : evE fs a env m = .ok (.bl x) m1) (hb : x = false → evE fs b env m1 = .ok (.bl y) m1) : evE fs (.or a b) env m = .ok (.bl (x || y)) m1 := by
  simp only [evE, ha, R.bind_ok, truth_bl]
  cases x with
  | true => simp
  | false => simp [hb rfl]
theorem ev_not {a : T} {x : Bool} (ha : evE fs a env m = .ok (.bl x) m1) : evE fs (.not a) env m = .ok (.bl (!x)) m1 := by simp only [evE, ha, R.bind_ok, truth_bl]
theorem ev_ite {c a b : T} {x : Bool} {r : R D} (hc : evE fs c env m = .ok (.bl x) m1) (h1 : x = true → evE fs a env m1 = r) (h2 : x = false → evE fs b env m1 = r) : evE fs (.ite c a b) env m = r := by
  simp only [evE, hc, R.bind_ok, truth_bl]
  cases x with
  | true => simpa using h1 rfl
  | false => simpa using h2 rfl
theorem ev_isi {a : T} {c : String} {d : D} (ha : evE fs a env m = .ok d m1) (h : plainD d = true) (hc : c ∈ clsNames := by decide) : evE fs (.isi a c) env m = .ok (.bl (isiB (tyP d) c)) m1 := by simp only [evE, ha, R.bind_ok, isi_plain h hc]
theorem ev_blt {b : BF} {es : T} {ds : List D} {r : R D} (he : evA fs es env m = .ok ds m1) (h : bfD b ds m1 = r) : evE fs (.blt b es) env m = r := by simp only [evE, he, R.bind_ok, h]
theorem ev_nil : evA fs .nil env m = .ok [] m := by simp only [evA]
theorem ev_cons {a es : T} {d : D} {ds : List D} (ha : evE fs a env m = .ok d m1) (he : evA fs es env m1 = .ok ds m2) : evA fs (.cons a es) env m = .ok (d :: ds) m2 := by simp only [evA, ha, he, R.bind_ok]
theorem ev_ix {a b : T} {d e : D} {r : R D} (ha : evE fs a env m = .ok d m1) (hb : evE fs b env m1 = .ok e m2) (h : ixD d e m2 = r) : evE fs (.ix a b) env m = r := by simp only [evE, ha, hb, R.bind_ok, h]
theorem ev_tup {es : T} {ds : List D} (he : evA fs es env m = .ok ds m1) (h : ds.length ≤ 1000) : evE fs (.tup es) env m = .ok (.tup ds) m1 := by
  simp only [evE, he, R.bind_ok]
  rw [if_pos (by rw [sizeLine_eq]; omega)]
theorem ev_lst {es : T} {ds : List D} (he : evA fs es env m = .ok ds m1) (h : ds.length ≤ 1000) : evE fs (.lst es) env m = .ok (.lst ds) m1 := by
  simp only [evE, he, R.bind_ok]
  rw [if_pos (by rw [sizeLine_eq]; omega)]
theorem ev_tupB {es : T} {ds : List D} (he : evA fs es env m = .ok ds m1) (h : Nat.ble ds.length 1000 = true) : evE fs (.tup es) env m = .ok (.tup ds) m1 := ev_tup he (Nat.le_of_ble_eq_true h)
theorem ev_lstB {es : T} {ds : List D} (he : evA fs es env m = .ok ds m1) (h : Nat.ble ds.length 1000 = true) : evE fs (.lst es) env m = .ok (.lst ds) m1 := ev_lst he (Nat.le_of_ble_eq_true h)
theorem ev_dct0 : evE fs .dct0 env m = .ok (.dct []) m := by simp only [evE]
theorem ev_dctI {i j : Int} : evE fs (.dctI i j) env m = .ok (.dct [(.int i, .int j)]) m := by simp only [evE]
theorem ev_lstM {es : T} {ds : List D} (he : evA fs es env m = .ok ds m1) (h : ds.length ≤ 1000) : evE fs (.lstM es) env m = .ok (.ref m1.length) (m1 ++ [.lst ds]) := by
  simp only [evE, he, R.bind_ok]
  rw [if_pos (by rw [sizeLine_eq]; omega)]
theorem ev_call {j : Nat} {es : T} {ds : List D} {sem : Sem} {r : R D} (he : evA fs es env m = .ok ds m1) (hj : fs[j]? = some sem) (h : callD sem ds m1 = r) : evE fs (.call j es) env m = r := by simp only [evE, he, R.bind_ok, hj, h]
theorem ev_join {a b : T} {x : Str} {e : D} {r : R D} (ha : evE fs a env m = .ok (.str x) m1) (hb : evE fs b env m1 = .ok e m2) (h : joinD (.str x) e m2 = r) : evE fs (.join a b) env m = r := by simp only [evE, ha, hb, R.bind_ok, h]
theorem ev_rng1 {a : T} {j : Int} (ha : evE fs a env m = .ok (.int j) m1) (h0 : -(2 ^ 62) ≤ j) (h1 : j < 2 ^ 62) : evE fs (.rng1 a) env m = .ok (.lst ((List.range j.toNat).map fun (i : Nat) => D.int (i : Int))) m1 := by
  simp only [evE, ha, R.bind_ok, rngD]
  rw [if_pos ⟨h0, h1⟩]
theorem ev_slH {a hi : T} {d : D} {v : Int} {r : R D} (ha : evE fs a env m = .ok d m1) (hn : isNoP hi = false) (hh : evE fs hi env m1 = .ok (.int v) m2) (h : slD d none (some v) m2 = r) : evE fs (.sl a .noP hi) env m = r := by
  have e : isNoP .noP = true := rfl
  simp only [evE, ha, R.bind_ok, e, hn, Bool.false_eq_true, if_true, if_false, hh, partD, h]
theorem ev_slL {a lo : T} {d : D} {v : Int} {r : R D} (ha : evE fs a env m = .ok d m1) (hn : isNoP lo = false) (hh : evE fs lo env m1 = .ok (.int v) m2) (h : slD d (some v) none m2 = r) : evE fs (.sl a lo .noP) env m = r := by
  have e : isNoP .noP = true := rfl
  simp only [evE, ha, R.bind_ok, e, hn, Bool.false_eq_true, if_true, if_false, hh, partD, h]
theorem st_nil : evS fs .nil env m = .nx env m := by simp only [evS]
theorem st_ret {e : T} {r : S} {d : D} (h : evE fs e env m = .ok d m1) : evS fs (.cons (.ret e) r) env m = .rt d m1 := by simp only [evS, h, R.st_ok]
theorem st_asg {g : G} {e : T} {r : S} {d : D} {env2 : Env} (h : evE fs e env m = .ok d m1) (hg : asgG g d env = some env2) : evS fs (.cons (.asg g e) r) env m = evS fs r env2 m1 := by simp only [evS, h, R.st_ok, hg]
theorem st_asg1 {i : Nat} {e : T} {r : S} {d : D} (h : evE fs e env m = .ok d m1) : evS fs (.cons (.asg (.name i) e) r) env m = evS fs r (env.set i (some d)) m1 := st_asg h (by simp only [asgG])
theorem st_par {i j : Nat} {a b : T} {r : S} {d e : D} (ha : evE fs a env m = .ok d m1) (hb : evE fs b env m1 = .ok e m2) : evS fs (.cons (.par i j a b) r) env m = evS fs r ((env.set i (some d)).set j (some e)) m2 := by simp only [evS, ha, hb, R.st_ok]
theorem st_par3 {i j l : Nat} {a b c : T} {r : S} {d e f : D} (ha : evE fs a env m = .ok d m1) (hb : evE fs b env m1 = .ok e m2) (hc : evE fs c env m2 = .ok f m3) : evS fs (.cons (.par3 i j l a b c) r) env m = evS fs r (((env.set i (some d)).set j (some e)).set l (some f)) m3 := by
  simp only [evS, ha, hb, hc, R.st_ok]
/-- an if whose branches leave or go on -/
theorem st_ife {c : T} {a b r : S} {x : Bool} (hc : evE fs c env m = .ok (.bl x) m1) : evS fs (.cons (.ife c a b) r) env m = match (if x then evS fs a env m1 else evS fs b env m1) with
    | .nx e m => evS fs r e m
    | y => y := by
  first
    | (simp only [evS, evT, hc, R.bind_ok, truth_bl, R.st_ok]; done)
    | (simp only [evS, evT, hc, R.bind_ok, truth_bl, R.st_ok]; generalize (if x = true then evS fs a env m1 else evS fs b env m1) = q; cases q <;> rfl)
theorem st_ifT {c : T} {a b r : S} {x : Bool} {d : D} (hc : evE fs c env m = .ok (.bl x) m1) (hx : x = true) (ha : evS fs a env m1 = .rt d m2) : evS fs (.cons (.ife c a b) r) env m = .rt d m2 := by
  rw [st_ife hc, hx, if_pos rfl, ha]
theorem st_ifF {c : T} {a r : S} {x : Bool} (hc : evE fs c env m = .ok (.bl x) m1) (hx : x = false) : evS fs (.cons (.ife c a .nil) r) env m = evS fs r env m1 := by
  rw [st_ife hc, hx, if_neg (by simp), st_nil]
theorem st_rai {n f : Str} {fl : Bool} {e : T} {r : S} {d : D} (h : evE fs e env m = .ok d m1) (hp : pvD fl d = true) : evS fs (.cons (.rai n f fl e) r) env m = .ex ⟨n, [(f, d)]⟩ env m1 := by simp only [evS, h, R.st_ok, hp, if_true]
theorem st_exp {e : T} {r : S} {d : D} (h : evE fs e env m = .ok d m1) : evS fs (.cons (.exp e) r) env m = evS fs r env m1 := by simp only [evS, h, R.st_ok]
theorem st_expX {e : T} {r : S} {c : Exc} (h : evE fs e env m = .ex c m1) : evS fs (.cons (.exp e) r) env m = .ex c env m1 := by simp only [evS, h, R.st_ex]
theorem st_retX {e : T} {r : S} {c : Exc} (h : evE fs e env m = .ex c m1) : evS fs (.cons (.ret e) r) env m = .ex c env m1 := by simp only [evS, h, R.st_ex]
theorem st_ifX {c : T} {a b r : S} {x : Bool} {k : Exc} {env2 : Env} (hc : evE fs c env m = .ok (.bl x) m1) (hx : x = true) (ha : evS fs a env m1 = .ex k env2 m2) : evS fs (.cons (.ife c a b) r) env m = .ex k env2 m2 := by
  rw [st_ife hc, hx, if_pos rfl, ha]
theorem st_ifN {c : T} {a b r : S} {x : Bool} {env2 : Env} (hc : evE fs c env m = .ok (.bl x) m1) (hx : x = true) (ha : evS fs a env m1 = .nx env2 m2) : evS fs (.cons (.ife c a b) r) env m = evS fs r env2 m2 := by
  rw [st_ife hc, hx, if_pos rfl, ha]
theorem ev_consX {a es : T} {c : Exc} (ha : evE fs a env m = .ex c m1) : evA fs (.cons a es) env m = .ex c m1 := by simp only [evA, ha, R.bind_ex]
theorem ev_consX2 {a es : T} {d : D} {c : Exc} (ha : evE fs a env m = .ok d m1) (he : evA fs es env m1 = .ex c m2) : evA fs (.cons a es) env m = .ex c m2 := by simp only [evA, ha, he, R.bind_ok, R.bind_ex]
theorem ev_tupX {es : T} {c : Exc} (he : evA fs es env m = .ex c m1) : evE fs (.tup es) env m = .ex c m1 := by simp only [evE, he, R.bind_ex]
theorem st_setix {o i e : T} {r : S} {d k v : D} {m4 : M} (he : evE fs e env m = .ok v m1) (ho : evE fs o env m1 = .ok d m2) (hi : evE fs i env m2 = .ok k m3) (h : setixD d k v m3 = some m4) : evS fs (.cons (.setix o i e) r) env m = evS fs r env m4 := by
  simp only [evS, he, ho, hi, R.st_ok, h]
end
theorem op_fd {i j : Int} {m : M} (h : j ≠ 0) (hl : j.natAbs.log2 < 9000) : bopD .fdiv (.int i) (.int j) m = .ok (.int (i.fdiv j)) m := by simp only [bopD, fdivD]; rw [if_pos ⟨h, hl⟩]
theorem op_md {i j : Int} {m : M} (h : j ≠ 0) : bopD .mod (.int i) (.int j) m = .ok (.int (i.fmod j)) m := by simp only [bopD, modD]; rw [if_pos h]
theorem op_ml {i j : Int} {m : M} (h : i.natAbs.log2 + j.natAbs.log2 < 1000000) : bopD .mul (.int i) (.int j) m = .ok (.int (i * j)) m := by simp only [bopD, mulD]; rw [if_pos h]
theorem op_ad {i j : Int} {m : M} : bopD .add (.int i) (.int j) m = .ok (.int (i + j)) m := rfl
theorem op_sb {i j : Int} {m : M} : bopD .sub (.int i) (.int j) m = .ok (.int (i - j)) m := rfl
theorem op_eqI {i j : Int} {m : M} : copD .eq (.int i) (.int j) m = .ok (.bl (decide (i = j))) m := rfl
theorem op_neI {i j : Int} {m : M} : copD .ne (.int i) (.int j) m = .ok (.bl (!decide (i = j))) m := rfl
theorem op_eqS {i j : Str} {m : M} : copD .eq (.str i) (.str j) m = .ok (.bl (decide (i = j))) m := rfl
theorem op_neS {i j : Str} {m : M} : copD .ne (.str i) (.str j) m = .ok (.bl (!decide (i = j))) m := rfl
theorem op_eqB {i j : Bool} {m : M} : copD .eq (.bl i) (.bl j) m = .ok (.bl (decide (i = j))) m := rfl
theorem op_ltI {i j : Int} {m : M} : copD .lt (.int i) (.int j) m = .ok (.bl (decide (i < j))) m := rfl
theorem op_leI {i j : Int} {m : M} : copD .le (.int i) (.int j) m = .ok (.bl (decide (i ≤ j))) m := rfl
theorem op_gtI {i j : Int} {m : M} : copD .gt (.int i) (.int j) m = .ok (.bl (decide (j < i))) m := rfl
theorem op_geI {i j : Int} {m : M} : copD .ge (.int i) (.int j) m = .ok (.bl (decide (j ≤ i))) m := rfl
/-! ### comprehensions, loops -/
def lcSt (fs : List Sem) (own : List (Str × Nat)) (g : G) (c e : T) (env : Env) (x : D) (m : M) : R (Option D) := match asgG g x (wipeD env (own.map (·.2))) with
  | some env2 => (if isNoP c then R.ok true m else (evE fs c env2 m).bind truthB).bind fun t m => if t then (evE fs e env2 m).bind fun y m => .ok (some y) m else .ok none m
  | none => .no
theorem ev_lc {fs : List Sem} {env : Env} {m m1 m2 : M} {own : List (Str × Nat)} {g : G} {it c e : T} {d : D} {xs ys : List D} (hi : evE fs it env m = .ok d m1) (hv : viewI d m1 = some xs) (hl : xs.length ≤ 1000000) (h : lcGo (lcSt fs own g c e env) xs [] m1 = .ok ys m2) :
    evE fs (.lc own g it c e) env m = .ok (.lst ys) m2 := by
  rw [evE, hi, R.bind_ok, hv]
  dsimp only
  rw [if_pos (by rw [sizeLine_eq]; omega)]
  have e1 : (fun x m => match asgG g x (wipeD env (own.map (·.2))) with
          | some env2 => (if isNoP c then R.ok true m else (evE fs c env2 m).bind truthB).bind fun t m => if t then (evE fs e env2 m).bind fun y m => R.ok (some y) m else .ok none m
          | none => .no) = lcSt fs own g c e env := by
    funext x m
    unfold lcSt
    cases asgG g x (wipeD env (own.map (·.2))) <;> rfl
  have e2 : ∀ q, q = lcGo (lcSt fs own g c e env) xs [] m1 → (q.bind fun ys m => R.ok (D.lst ys) m) = R.ok (D.lst ys) m2 := by
    intro q hq
    rw [hq, h]; rfl
  exact e2 _ (congrArg (fun f => lcGo f xs [] m1) e1)
theorem lc_map {step : D → M → R (Option D)} {f : D → D} {m : M} : ∀ {xs acc : List D}, (∀ x ∈ xs, step x m = .ok (some (f x)) m) → lcGo step xs acc m = .ok (acc ++ xs.map f) m
  | [], acc, _ => by simp [lcGo]
  | x :: xs, acc, h => by
    simp only [lcGo, h x List.mem_cons_self]
    rw [lc_map fun y hy => h y (List.mem_cons_of_mem _ hy)]
    simp
theorem lc_filter {step : D → M → R (Option D)} {p : D → Bool} {m : M} : ∀ {xs acc : List D}, (∀ x ∈ xs, step x m = .ok (if p x then some x else none) m) → lcGo step xs acc m = .ok (acc ++ xs.filter p) m
  | [], acc, _ => by simp [lcGo]
  | x :: xs, acc, h => by
    have h1 := h x List.mem_cons_self
    simp only [lcGo]
    rw [h1]
    cases hp : p x with
    | true =>
      simp only [if_true]
      rw [lc_filter fun y hy => h y (List.mem_cons_of_mem _ hy)]
      simp [hp]
    | false =>
      simp only [Bool.false_eq_true, if_false]
      rw [lc_filter fun y hy => h y (List.mem_cons_of_mem _ hy)]
      simp [hp]
/-- a comprehension whose store goes on -/
theorem lc_inv {step : D → M → R (Option D)} (P : Nat → M → Prop) (Q : D → Prop) : ∀ {xs acc : List D} {m : M} {n : Nat}, P n m → (∀ x ∈ xs, ∀ k m, k < n + xs.length → P k m → ∃ y m2, step x m = .ok (some y) m2 ∧ P (k + 1) m2 ∧ Q y) → ∃ ys m2, lcGo step xs acc m = .ok (acc ++ ys) m2 ∧ P (n + xs.length) m2 ∧ ys.length = xs.length ∧ ∀ y ∈ ys, Q y
  | [], acc, m, n, h, _ => ⟨[], m, by simp [lcGo], h, rfl, by simp⟩
  | x :: xs, acc, m, n, h, hs => by
    obtain ⟨y, m2, e1, p1, q1⟩ := hs x List.mem_cons_self n m (by simp) h
    obtain ⟨ys, m3, e2, p2, l2, q2⟩ := lc_inv P Q (xs := xs) (acc := acc ++ [y]) p1 fun z hz k mk hk => hs z (List.mem_cons_of_mem _ hz) k mk (by rw [List.length_cons]; omega)
    refine ⟨y :: ys, m3, by simp only [lcGo, e1, e2]; simp, ?_, by simp [l2], ?_⟩
    · rw [List.length_cons, ← Nat.add_assoc, Nat.add_right_comm]; exact p2
    · intro z hz
      rcases List.mem_cons.mp hz with rfl | hz
      · exact q1
      · exact q2 z hz
def frStep (fs : List Sem) (g : G) (b : S) (x : D) (env : Env) (m : M) : RS := match asgG g x env with
  | some env2 => evS fs b env2 m
  | none => .no
theorem st_fr {fs : List Sem} {env env2 : Env} {m m1 m2 : M} {g : G} {it : T} {b r : S} {d : D} {xs : List D} (hi : evE fs it env m = .ok d m1) (hv : viewI d m1 = some xs) (h : forGo (frStep fs g b) xs env m1 = .nx env2 m2) : evS fs (.cons (.fr g it b) r) env m = evS fs r env2 m2 := by
  have e1 : (fun x env m => match asgG g x env with
        | some env2 => evS fs b env2 m
        | none => .no) = frStep fs g b := by
    funext x env m
    unfold frStep
    cases asgG g x env <;> rfl
  rw [evS, evS, hi, R.st_ok, hv]
  have e2 : ∀ q, q = forGo (frStep fs g b) xs env m1 → (match q with
    | .nx e m => evS fs r e m
    | x => x) = evS fs r env2 m2 := by
    intro q hq
    rw [hq, h]
  exact e2 _ (congrArg (fun f => forGo f xs env m1) e1)
/-- a loop with an invariant, through which nothing leaves -/
theorem for_inv {step : D → Env → M → RS} (P : Nat → Env → M → Prop) : ∀ {xs : List D} {env : Env} {m : M} {n : Nat}, P n env m → (∀ x ∈ xs, ∀ k env m, k < n + xs.length → P k env m → ∃ e2 m2, step x env m = .nx e2 m2 ∧ P (k + 1) e2 m2) → ∃ e2 m2, forGo step xs env m = .nx e2 m2 ∧ P (n + xs.length) e2 m2
  | [], env, m, n, h, _ => ⟨env, m, rfl, h⟩
  | x :: xs, env, m, n, h, hs => by
    obtain ⟨e1, m1, q1, p1⟩ := hs x List.mem_cons_self n env m (by simp) h
    obtain ⟨e2, m2, q2, p2⟩ := for_inv P p1 fun z hz k ek mk hk => hs z (List.mem_cons_of_mem _ hz) k ek mk (by rw [List.length_cons]; omega)
    refine ⟨e2, m2, by simp only [forGo, q1, q2], ?_⟩
    rw [List.length_cons, ← Nat.add_assoc, Nat.add_right_comm]; exact p2
/-! ### calls -/
theorem refsOf_no : ∀ {ds : List D}, norefL ds = true → refsOf ds = [] ∧ seen 0 ds = ds ∧ ∀ k, seen k ds = ds
  | [], _ => ⟨rfl, rfl, fun _ => rfl⟩
  | d :: ds, h => by
    simp only [norefL, Bool.and_eq_true] at h
    obtain ⟨a, b, c⟩ := refsOf_no h.2
    cases d <;> first | (simp [noref] at h; done) | (exact ⟨by simpa [refsOf] using a, by simp [seen, c], fun k => by simp [seen, c]⟩)
theorem all_no {ds : List D} (h : norefL ds = true) : ds.all (fun d => isRef d || noref d) = true := by
  induction ds with
  | nil => rfl
  | cons d ds ih =>
    simp only [norefL, Bool.and_eq_true] at h
    simp [h.1, ih h.2]
/-- a call that is handed nothing of ours -/
theorem call_pure {sem : Sem} {ds : List D} {m m2 : M} {d : D} (h : norefL ds = true) (hs : sem ds [] = .ok d m2) (hd : noref d = true) : callD sem ds m = .ok d m := by
  obtain ⟨a, b, _⟩ := refsOf_no h
  unfold callD
  rw [all_no h, a]
  simp only [nodupB, Bool.and_self, if_true, hand, b, hs, back]
  cases d <;> first | (simp [hd]; done) | (simp [noref] at hd)
theorem call_pure_ex {sem : Sem} {ds : List D} {m m2 : M} {c : Exc} (h : norefL ds = true) (hs : sem ds [] = .ex c m2) (hd : norefF c.fs = true) : callD sem ds m = .ex c m := by
  obtain ⟨a, b, _⟩ := refsOf_no h
  unfold callD
  rw [all_no h, a]
  simp only [nodupB, Bool.and_self, if_true, hand, b, hs, back]
  simp [hd]
/-- a call that makes an object -/
theorem call_new {sem : Sem} {ds : List D} {m : M} {o : MO} (h : norefL ds = true) (hs : sem ds [] = .ok (.ref 0) [o]) (ho : norefM o = true) : callD sem ds m = .ok (.ref m.length) (m ++ [o]) := by
  obtain ⟨a, b, _⟩ := refsOf_no h
  unfold callD
  rw [all_no h, a]
  simp only [nodupB, Bool.and_self, if_true, hand, b, hs, back]
  simp [ho]
theorem has_self {env : Env} {i : Nat} {d : D} (h : i < env.length) : (env.set i (some d))[i]? = some (some d) := List.getElem?_set_self h
theorem has_ne {env : Env} {i j : Nat} {d : D} {x : Option D} (h : env[i]? = some (some d)) (n : j ≠ i) : (env.set j x)[i]? = some (some d) := by rw [List.getElem?_set_ne n]; exact h
theorem last_get {m : M} {o : MO} : (m ++ [o])[m.length]? = some o := by simp
theorem last_set {m : M} {o o2 : MO} : (m ++ [o]).set m.length o2 = m ++ [o2] := by simp
/-- a call that is handed one object of ours, first -/
theorem call_one {sem : Sem} {ds : List D} {j : Nat} {o o2 : MO} {m : M} {d : D} (h : norefL ds = true) (hj : m[j]? = some o) (ho : norefM o = true) (hs : sem (.ref 0 :: ds) [o] = .ok d [o2]) (hd : noref d = true) (h2 : norefM o2 = true) :
    callD sem (.ref j :: ds) m = .ok d (m.set j o2) := by
  obtain ⟨a, b, c⟩ := refsOf_no h
  unfold callD
  have e1 : (D.ref j :: ds).all (fun d => isRef d || noref d) = true := by rw [List.all_cons, all_no h]; rfl
  rw [e1]
  simp only [refsOf, a, nodupB, seen, c, hand, hj, ho, if_true, hs, back, h2, Option.map_some]
  cases d <;> first | (simp [hd]; done) | (simp [noref] at hd)
end HB
namespace HB
open PySem L2
section
variable {fs : List Sem} {env : Env} {m m1 m2 : M}
theorem ev_mth0 {p : Mr} {a : T} {d : D} {r : R D} (ha : evE fs a env m = .ok d m1) (hg : mrG p d m1 = true) (h : mrD fs p d [] m1 = r) : evE fs (.mth p a .nil) env m = r := by
  simp only [evE, evA, ha, R.bind_ok, hg, if_true, h]
theorem ev_mth {p : Mr} {a es : T} {d : D} {ds : List D} {r : R D} (ha : evE fs a env m = .ok d m1) (hg : mrG p d m1 = true) (he : evA fs es env m1 = .ok ds m2) (h : mrD fs p d ds m2 = r) : evE fs (.mth p a es) env m = r := by
  simp only [evE, ha, R.bind_ok, hg, if_true, he, h]
theorem ev_prm {p : Pr} {es : T} {ds : List D} {r : R D} (he : evA fs es env m = .ok ds m1) (h : prD fs p ds m1 = r) : evE fs (.prm p es) env m = r := by
  simp only [evE, he, R.bind_ok, h]
theorem st_app {o e : T} {r : S} {j : Nat} {v : D} {m3 : M} (ho : evE fs o env m = .ok (.ref j) m1) (hl : isLst j m1 = true) (he : evE fs e env m1 = .ok v m2) (h : appD j v m2 = some m3) : evS fs (.cons (.app o e) r) env m = evS fs r env m3 := by
  simp only [evS, ho, R.st_ok, hl, if_true, he, h]
theorem st_frz {i : Nat} {r : S} {env2 : Env} (h : frzD i env m = some (env2, m2)) : evS fs (.cons (.frz i) r) env m = evS fs r env2 m2 := by
  simp only [evS, h]
theorem st_tryM {b r : S} {hs : List (Str × List (Str × Bool) × D)} {c : Exc} {env2 : Env} {d : D} {m3 : M} (hb : evS fs b env m = .ex c env2 m2) (h : hsGo c env2 m2 hs = .rt d m3) : evS fs (.cons (.tryM b hs) r) env m = .rt d m3 := by
  simp only [evS, hb, h]
end
end HB
namespace HB
open PySem L2
/-! ### the pot that all laws draw from -/
def b_pot : S := (.cons (.asg (.name 2) (.ite (.cmp .lt (.var 1) (.blt .len (.cons (.var 0) .nil))) (.ix (.var 0) (.var 1)) (.bin .add (.bin .mul (.int 97) (.var 1)) (.int 59))))
    (.cons (.asg (.name 3) (.bin .mod (.blt .int (.cons (.blt .abs (.cons (.var 2) .nil)) .nil)) (.bin .pow (.bin .pow (.int 10) (.int 59)) (.int 9))))
    (.cons (.asg (.name 4) (.bin .add (.bin .add (.bin .add (.bin .mul (.bin .mod (.blt .int (.cons (.var 3) .nil)) (.int 2305843009213693921)) (.int 1000187)) (.bin .mul (.int 7013) (.var 1))) (.bin .mul (.int 29) (.blt .int (.cons (.cmp .lt (.var 2) (.int 0)) .nil)))) (.int 17)))
    (.cons (.ret (.lstM (.cons (.blt .max (.cons (.int 0) (.cons (.bin .sub (.var 3) (.bin .pow (.int 10) (.int 18))) .nil))) (.cons (.bin .mod (.blt .int (.cons (.var 4) .nil)) (.int 2305843009213693951)) (.cons (.int 0) .nil)))))
    .nil))))
def F_pot : Sem := runB [] 5 b_pot
def b_stir : S := (.cons (.ife (.cmp .gt (.ix (.var 0) (.int 0)) (.int 0)) (.cons (.asg (.name 4) (.bin .mod (.blt .int (.cons (.ix (.var 0) (.int 0)) .nil)) (.var 1)))
    (.cons (.setix (.var 0) (.int 0) (.bin .fdiv (.ix (.var 0) (.int 0)) (.var 1)))
    (.cons (.ret (.var 4))
    .nil))) .nil)
    (.cons (.setix (.var 0) (.int 2) (.bin .add (.ix (.var 0) (.int 2)) (.int 1)))
    (.cons (.asg (.name 2) (.bin .mod (.blt .int (.cons (.bin .add (.ix (.var 0) (.int 1)) (.bin .mul (.int 1048583) (.ix (.var 0) (.int 2)))) .nil)) (.int 2305843009213693951)))
    (.cons (.asg (.name 3) (.bin .add (.bin .mul (.bin .mod (.blt .int (.cons (.bin .mul (.var 2) (.var 2)) .nil)) (.int 2305843009213693907)) (.var 2)) (.bin .mul (.int 8101) (.ix (.var 0) (.int 2)))))
    (.cons (.ret (.bin .mod (.blt .int (.cons (.bin .fdiv (.bin .mod (.blt .int (.cons (.var 3) .nil)) (.int 2305843009213693921)) (.int 16384)) .nil)) (.var 1)))
    .nil)))))
def F_stir : Sem := runB [] 5 b_stir
def b_one_of : S := (.cons (.ret (.ix (.var 1) (.call 0 (.cons (.var 0) (.cons (.blt .len (.cons (.var 1) .nil)) .nil)))))
    .nil)
def F_one_of : Sem := runB [F_stir] 2 b_one_of
def b_shuffled : S := (.cons (.asg (.name 2) (.blt .listM (.cons (.var 1) .nil)))
    (.cons (.ret (.lc [("_law_turn", 3)] (.name 3) (.rng1 (.blt .len (.cons (.var 1) .nil))) .noP (.popAt (.var 2) (.call 0 (.cons (.var 0) (.cons (.blt .len (.cons (.var 2) .nil)) .nil))))))
    .nil))
def F_shuffled : Sem := runB [F_stir] 4 b_shuffled
def Pot (n : Nat) (o : MO) : Prop := ∃ a b c : Int, o = .lst [.int a, .int b, .int c] ∧ 0 ≤ c ∧ c ≤ n
theorem Pot.noref {n : Nat} {o : MO} (h : Pot n o) : norefM o = true := by
  obtain ⟨a, b, c, rfl, _⟩ := h
  rfl
theorem Pot.mono {n k : Nat} {o : MO} (h : Pot n o) (hk : n ≤ k) : Pot k o := by
  obtain ⟨a, b, c, rfl, h1, h2⟩ := h
  exact ⟨a, b, c, rfl, h1, by omega⟩
theorem fmod_bd (i p : Int) (hp : 0 < p) : 0 ≤ i.fmod p ∧ i.fmod p < p := ⟨Int.fmod_nonneg_of_pos i hp, Int.fmod_lt_of_pos i hp⟩
theorem log_lt {i : Int} {k : Nat} (h : i.natAbs < 2 ^ k) (hk : 0 < k) : i.natAbs.log2 < k := by
  by_cases h0 : i.natAbs = 0
  · rw [h0]; simpa using hk
  · exact (Nat.log2_lt h0).mpr h
theorem log_big {i : Int} (h : i.natAbs < 10 ^ 62) : i.natAbs.log2 < 300 := log_lt (Nat.lt_trans h (by decide +kernel)) (by decide)
/-- a call that is handed one object of ours, first; it may leave others behind -/
theorem call_oneR {sem : Sem} {ds : List D} {j : Nat} {o o2 : MO} {m mr : M} {d : D} (h : norefL ds = true) (hj : m[j]? = some o) (ho : norefM o = true) (hs : sem (.ref 0 :: ds) [o] = .ok d (o2 :: mr)) (hd : noref d = true) (h2 : norefM o2 = true) :
    callD sem (.ref j :: ds) m = .ok d (m.set j o2) := by
  obtain ⟨a, b, c⟩ := refsOf_no h
  unfold callD
  have e1 : (D.ref j :: ds).all (fun d => isRef d || HB.noref d) = true := by rw [List.all_cons, all_no h]; rfl
  rw [e1]
  simp only [refsOf, a, nodupB, seen, c, hand, hj, ho, if_true, hs, back, h2, Option.map_some]
  cases d <;> first | (simp [hd]; done) | (simp [HB.noref] at hd)
/-- a def that stirs: what it comes to; k: how often it may -/
def PotFn (sem : Sem) (args : List D) (k : Nat) (Q : D → Prop) : Prop := ∀ n o, Pot n o → n + k ≤ 100000 → ∃ d o2 mr, sem (.ref 0 :: args) [o] = .ok d (o2 :: mr) ∧ Pot (n + k) o2 ∧ Q d ∧ noref d = true
theorem PotFn.call {sem : Sem} {args : List D} {k : Nat} {Q : D → Prop} (h : PotFn sem args k Q) (ha : norefL args = true) {m : M} {j n : Nat} {o : MO} (hj : m[j]? = some o) (hp : Pot n o) (hn : n + k ≤ 100000) : ∃ d o2, callD sem (.ref j :: args) m = .ok d (m.set j o2) ∧ Pot (n + k) o2 ∧ Q d ∧ HB.noref d = true := by
  obtain ⟨d, o2, mr, e, p, q, nr⟩ := h n o hp hn
  exact ⟨d, o2, call_oneR ha hj hp.noref e nr p.noref, p, q, nr⟩
theorem PotFn.imp {sem : Sem} {args : List D} {k : Nat} {Q Q' : D → Prop} (h : PotFn sem args k Q) (f : ∀ d, Q d → Q' d) : PotFn sem args k Q' := fun n o hp hn =>
  let ⟨d, o2, mr, e, p, q, nr⟩ := h n o hp hn
  ⟨d, o2, mr, e, p, f d q, nr⟩
theorem PotFn.up {sem : Sem} {args : List D} {k l : Nat} {Q : D → Prop} (h : PotFn sem args k Q) (hl : k ≤ l) : PotFn sem args l Q := fun n o hp hn =>
  let ⟨d, o2, mr, e, p, q, nr⟩ := h n o hp (by omega)
  ⟨d, o2, mr, e, p.mono (by omega), q, nr⟩
theorem r_stir {t : Int} (ht : 0 < t) (hl : t.natAbs.log2 < 9000) : PotFn F_stir [.int t] 1 (fun d => ∃ v : Int, d = .int v ∧ 0 ≤ v ∧ v < t) := by
  rintro n o ⟨a, b, c, rfl, c0, c1⟩ hn
  have t0 : t ≠ 0 := by omega
  unfold F_stir runB b_stir
  simp only [List.map_cons, List.map_nil, List.length_cons, List.length_nil, Nat.reduceAdd, Nat.reduceSub, List.replicate, List.cons_append, List.nil_append]
  have q1 : ∀ env : Env, env[0]? = some (some (.ref 0)) → evE [] (.ix (.var 0) (.int 0)) env [.lst [.int a, .int b, .int c]] = .ok (.int a) [.lst [.int a, .int b, .int c]] := fun env h0 => ev_ix (ev_var h0) ev_int rfl
  have q2 := ev_cmp (o := .gt) (q1 [some (.ref 0), some (.int t), none, none, none] rfl) ev_int (op_gtI (j := 0))
  by_cases hp : 0 < a
  · have s1 := st_asg1 (i := 4) (e := .bin .mod (.blt .int (.cons (.ix (.var 0) (.int 0)) .nil)) (.var 1)) (r := .cons (.setix (.var 0) (.int 0) (.bin .fdiv (.ix (.var 0) (.int 0)) (.var 1))) (.cons (.ret (.var 4)) .nil)) (ev_bin (fs := []) (env := [some (.ref 0), some (.int t), none, none, none]) (ev_blt (b := .int) (ev_cons (q1 _ rfl) ev_nil) rfl) (ev_var rfl) (op_md t0))
    have s2 := st_setix (fs := []) (env := [some (.ref 0), some (.int t), none, none, some (.int (a.fmod t))]) (o := .var 0) (i := .int 0) (e := .bin .fdiv (.ix (.var 0) (.int 0)) (.var 1)) (r := .cons (.ret (.var 4)) .nil) (ev_bin (q1 _ rfl) (ev_var rfl) (op_fd t0 hl)) (ev_var rfl) ev_int (show setixD (.ref 0) (.int 0) (.int (a.fdiv t)) [.lst [.int a, .int b, .int c]] = some [.lst [.int (a.fdiv t), .int b, .int c]] from rfl)
    simp only [List.set_cons_zero, List.set_cons_succ] at s1
    have s3 := st_ret (fs := []) (r := .nil) (m := [.lst [.int (a.fdiv t), .int b, .int c]]) (ev_var (fs := []) (env := [some (.ref 0), some (.int t), none, none, some (.int (a.fmod t))]) (i := 4) rfl)
    rw [st_ifT q2 (by simp [hp]) (s1.trans (s2.trans s3))]
    exact ⟨_, _, _, rfl, ⟨_, _, _, rfl, c0, by omega⟩, ⟨_, rfl, fmod_bd a t ht⟩, rfl⟩
  · rw [st_ifF q2 (by simp [hp])]
    have hc : (c + 1).natAbs.log2 < 900000 := log_lt (Nat.lt_of_le_of_lt (by omega : (c + 1).natAbs ≤ 100001) (Nat.lt_of_lt_of_le (by decide : 100001 < 2 ^ 20) (Nat.pow_le_pow_right (by decide) (by decide)))) (by decide)
    rw [st_setix (m4 := [.lst [.int a, .int b, .int (c + 1)]]) (ev_bin (ev_ix (ev_var rfl) ev_int rfl) ev_int op_ad) (ev_var rfl) ev_int rfl]
    have bd : ∀ (i : Int), (i.fmod 2305843009213693951).natAbs.log2 < 62 := fun i => log_lt (by have := fmod_bd i 2305843009213693951 (by decide); omega) (by decide)
    have bd2 : ∀ (i : Int), (i.fmod 2305843009213693907).natAbs.log2 < 62 := fun i => log_lt (by have := fmod_bd i 2305843009213693907 (by decide); omega) (by decide)
    rw [st_asg1 (ev_bin (ev_blt (b := .int) (ev_cons (ev_bin (ev_ix (ev_var rfl) ev_int rfl) (ev_bin ev_int (ev_ix (ev_var rfl) ev_int rfl) (op_ml (by
      have : (1048583 : Int).natAbs.log2 = 20 := by decide
      omega))) op_ad) ev_nil) rfl) ev_int (op_md (by decide)))]
    simp only [List.set_cons_zero, List.set_cons_succ]
    rw [st_asg1 (ev_bin (ev_bin (ev_bin (ev_blt (b := .int) (ev_cons (ev_bin (ev_var rfl) (ev_var rfl) (op_ml (by have := bd (b + 1048583 * (c + 1)); omega))) ev_nil) rfl) ev_int (op_md (by decide))) (ev_var rfl) (op_ml (by
      have := bd (b + 1048583 * (c + 1))
      have := bd2 ((b + 1048583 * (c + 1)).fmod 2305843009213693951 * (b + 1048583 * (c + 1)).fmod 2305843009213693951)
      omega))) (ev_bin ev_int (ev_ix (ev_var rfl) ev_int rfl) (op_ml (by
      have : (8101 : Int).natAbs.log2 = 12 := by decide
      omega))) op_ad)]
    simp only [List.set_cons_zero, List.set_cons_succ]
    rw [st_ret (ev_bin (ev_blt (b := .int) (ev_cons (ev_bin (ev_bin (ev_blt (b := .int) (ev_cons (ev_var rfl) ev_nil) rfl) ev_int (op_md (by decide))) ev_int (op_fd (by decide) (by decide))) ev_nil) rfl) (ev_var rfl) (op_md t0))]
    exact ⟨_, _, _, rfl, ⟨_, _, _, rfl, by omega, by omega⟩, ⟨_, rfl, fmod_bd _ t ht⟩, rfl⟩
/-! ### one of some -/
theorem ixN_lt {n : Nat} {v : Int} (h0 : 0 ≤ v) (h1 : v < n) : ixN n v = some v.toNat := by unfold ixN; rw [if_pos h0, if_pos h1]
theorem atI_lt {α : Type} {xs : List α} {v : Int} (h0 : 0 ≤ v) (h1 : v < xs.length) : ∃ x, atI xs v = some x ∧ x ∈ xs := by
  have hl : v.toNat < xs.length := by omega
  refine ⟨xs[v.toNat], ?_, List.getElem_mem hl⟩
  unfold atI
  rw [ixN_lt h0 h1]
  simp [hl]
theorem len_log {n : Nat} (h : n ≤ 1000) : ((n : Int)).natAbs.log2 < 9000 := log_lt (Nat.lt_of_le_of_lt (by omega : ((n : Int)).natAbs ≤ 1000) (Nat.lt_of_lt_of_le (by decide : 1000 < 2 ^ 10) (Nat.pow_le_pow_right (by decide) (by decide)))) (by decide)
theorem ix_lst {ds : List D} {v : Int} {x : D} {m : M} (h : atI ds v = some x) : ixD (.lst ds) (.int v) m = .ok x m := by simp only [ixD, viewQ, viewS, viewL, h]
theorem ix_str {y : Str} {v : Int} {c : Nat} {m : M} (h : atI y.cps.toList v = some c) (hs : y.length ≤ 1000) : ixD (.str y) (.int v) m = .ok (.str ⟨#[c]⟩) m := by
  have : y.length ≤ sizeLine := by rw [sizeLine_eq]; omega
  simp only [ixD, h, this, if_true]
theorem r_one_of_lst {ds : List D} (h0 : ds ≠ []) (hl : ds.length ≤ 1000) (hn : norefL ds = true) (hm : ∀ d ∈ ds, noref d = true) : PotFn F_one_of [.lst ds] 1 (fun d => d ∈ ds) := by
  intro n o hp hn2
  have hpos : 0 < ds.length := List.length_pos_iff.mpr h0
  obtain ⟨d, o2, e, p, ⟨v, rfl, v0, v1⟩, nr⟩ := (r_stir (t := ds.length) (by omega) (len_log hl)).call rfl (m := [o]) (j := 0) rfl hp hn2
  obtain ⟨x, hx, hxm⟩ := atI_lt (xs := ds) v0 v1
  unfold F_one_of runB b_one_of
  simp only [List.map_cons, List.map_nil, List.length_cons, List.length_nil, Nat.reduceAdd, Nat.reduceSub, List.replicate, List.cons_append, List.nil_append]
  rw [st_ret (ev_ix (ev_var rfl) (ev_call (ev_cons (ev_var rfl) (ev_cons (ev_blt (ev_cons (ev_var rfl) ev_nil) (show bfD .len [.lst ds] [o] = .ok (.int ds.length) [o] from rfl)) ev_nil)) rfl e) (ix_lst hx))]
  exact ⟨_, _, _, rfl, p, hxm, hm x hxm⟩
theorem r_one_of_str {x : Str} (h0 : 0 < x.length) (hl : x.length ≤ 1000) : PotFn F_one_of [.str x] 1 (fun d => ∃ c ∈ x.cps.toList, d = .str ⟨#[c]⟩) := by
  intro n o hp hn2
  obtain ⟨d, o2, e, p, ⟨v, rfl, v0, v1⟩, nr⟩ := (r_stir (t := x.length) (by omega) (len_log hl)).call rfl (m := [o]) (j := 0) rfl hp hn2
  have hs : x.length ≤ sizeLine := by rw [sizeLine_eq]; omega
  obtain ⟨c, hc, hcm⟩ := atI_lt (xs := x.cps.toList) v0 (by rw [Array.length_toList]; exact v1)
  unfold F_one_of runB b_one_of
  simp only [List.map_cons, List.map_nil, List.length_cons, List.length_nil, Nat.reduceAdd, Nat.reduceSub, List.replicate, List.cons_append, List.nil_append]
  rw [st_ret (ev_ix (ev_var rfl) (ev_call (ev_cons (ev_var rfl) (ev_cons (ev_blt (ev_cons (ev_var rfl) ev_nil) (show bfD .len [.str x] [o] = .ok (.int x.length) [o] by simp [bfD, lenD, hs])) ev_nil)) rfl e) (ix_str hc hl))]
  exact ⟨_, _, _, rfl, p, ⟨c, hcm, rfl⟩, rfl⟩
theorem pow59 (m : M) : bopD .pow (.int 10) (.int 59) m = .ok (.int (10 ^ 59)) m := by
  simp only [bopD, powD]
  rw [if_pos (by decide +kernel)]
  rfl
theorem ev_lstM0 {fs : List Sem} {env : Env} {m : M} {es : T} {ds : List D} (he : evA fs es env m = .ok ds []) (h : Nat.ble ds.length 1000 = true) : evE fs (.lstM es) env m = .ok (.ref 0) [.lst ds] := ev_lstM he (Nat.le_of_ble_eq_true h)
/-! ### the pot made -/
theorem pow_big (m : M) : bopD .pow (.int (10 ^ 59)) (.int 9) m = .ok (.int ((10 ^ 59) ^ 9)) m := by
  simp only [bopD, powD]
  rw [if_pos (by decide +kernel)]
  rfl
theorem pow18 (m : M) : bopD .pow (.int 10) (.int 18) m = .ok (.int (10 ^ 18)) m := by
  simp only [bopD, powD]
  rw [if_pos (by decide +kernel)]
  rfl
theorem r_pot {ns : List Int} {i : Int} (h0 : 0 ≤ i) (h1 : i ≤ 1000) : ∃ o, F_pot [.scr ns, .int i] [] = .ok (.ref 0) [o] ∧ Pot 0 o := by
  have sm : ∀ {i : Int}, 0 ≤ i → i ≤ 1000 → i.natAbs.log2 < 1920 := fun {i} h0 h1 => Nat.lt_trans (log_big (Nat.lt_of_lt_of_le (by omega : i.natAbs < 1001) (by decide))) (by decide)
  have hl := sm h0 h1
  have cell : ∃ z : Int, evE [] (.ite (.cmp .lt (.var 1) (.blt .len (.cons (.var 0) .nil))) (.ix (.var 0) (.var 1)) (.bin .add (.bin .mul (.int 97) (.var 1)) (.int 59))) [some (.scr ns), some (.int i), none, none, none] [] = .ok (.int z) [] := by
    have q1 : evE [] (.cmp .lt (.var 1) (.blt .len (.cons (.var 0) .nil))) [some (.scr ns), some (.int i), none, none, none] [] = .ok (.bl (decide (i < ((ns.map D.int).length : Int)))) [] := ev_cmp (ev_var rfl) (ev_blt (ev_cons (ev_var rfl) ev_nil) rfl) op_ltI
    by_cases c : i < ((ns.map D.int).length : Int)
    · obtain ⟨x, hx, hm⟩ := atI_lt (xs := ns.map D.int) h0 c
      obtain ⟨z, _, rfl⟩ := List.mem_map.mp hm
      refine ⟨z, ev_ite q1 (fun _ => ev_ix (ev_var rfl) (ev_var rfl) ?_) (fun z => by simp [c] at z; exact absurd z (by simpa using c))⟩
      simp only [ixD, viewQ, viewS, hx]
    · refine ⟨_, ev_ite q1 (fun z => absurd (of_decide_eq_true z) c) (fun _ => ev_bin (ev_bin ev_int (ev_var rfl) (op_ml ?_)) ev_int op_ad)⟩
      have : (97 : Int).natAbs.log2 = 6 := by decide
      omega
  obtain ⟨z, ez⟩ := cell
  have p1 : (2305843009213693921 : Int) ≠ 0 := by decide
  have p2 : (2305843009213693951 : Int) ≠ 0 := by decide
  have p0 : ((10 : Int) ^ 59) ^ 9 ≠ 0 := by decide +kernel
  have key : ∃ a b : Int, evS [] b_pot [some (.scr ns), some (.int i), none, none, none] [] = .rt (.ref 0) [.lst [.int a, .int b, .int 0]] := by
    unfold b_pot
    refine ⟨_, _, (st_asg1 ez).trans ((st_asg1 (ev_bin (ev_blt (b := .int) (ev_cons (ev_blt (b := .abs) (ev_cons (ev_var rfl) ev_nil) rfl) ev_nil) rfl) (ev_bin (ev_bin ev_int ev_int (pow59 _)) ev_int (pow_big _)) (op_md p0))).trans
      ((st_asg1 (ev_bin (ev_bin (ev_bin (ev_bin (ev_bin (ev_blt (b := .int) (ev_cons (ev_var rfl) ev_nil) rfl) ev_int (op_md p1)) ev_int (op_ml ?_)) (ev_bin ev_int (ev_var rfl) (op_ml ?_)) op_ad) (ev_bin ev_int (ev_blt (b := .int) (ev_cons (ev_cmp (ev_var rfl) ev_int op_ltI) ev_nil) rfl) (op_ml ?_)) op_ad) ev_int op_ad)).trans
      (st_ret (ev_lstM0 (ev_cons (ev_blt (b := .max) (ev_cons ev_int (ev_cons (ev_bin (ev_var rfl) (ev_bin ev_int ev_int (pow18 _)) op_sb) ev_nil)) rfl) (ev_cons (ev_bin (ev_blt (b := .int) (ev_cons (ev_var rfl) ev_nil) rfl) ev_int (op_md p2)) (ev_cons ev_int ev_nil))) rfl))))⟩
    · have bd : ∀ (i : Int), (i.fmod 2305843009213693921).natAbs.log2 < 62 := fun i => log_lt (by have := fmod_bd i 2305843009213693921 (by decide); omega) (by decide)
      have h2 : (1000187 : Int).natAbs.log2 = 19 := by decide
      have := bd ((if z < 0 then -z else z).fmod ((10 ^ 59) ^ 9))
      omega
    · have h2 : (7013 : Int).natAbs.log2 = 12 := by decide
      omega
    · have h2 : (29 : Int).natAbs.log2 = 4 := by decide
      have h3 : (if decide (z < 0) = true then (1 : Int) else 0).natAbs.log2 < 1920 := sm (by split <;> decide) (by split <;> decide)
      omega
  obtain ⟨a, b, e⟩ := key
  unfold F_pot runB
  simp only [List.map_cons, List.map_nil, List.length_cons, List.length_nil, Nat.reduceAdd, Nat.reduceSub, List.replicate, List.cons_append, List.nil_append]
  rw [e]
  exact ⟨_, rfl, a, b, 0, rfl, by decide, by decide⟩
/-! ### shuffled -/
theorem mem_noref : ∀ {ds : List D}, norefL ds = true → ∀ d ∈ ds, noref d = true
  | [], _, d, h => by cases h
  | a :: r, h, d, hd => by
    simp only [norefL, Bool.and_eq_true] at h
    rcases List.mem_cons.mp hd with rfl | z
    · exact h.1
    · exact mem_noref h.2 d z
theorem noref_mem : ∀ {ds : List D}, (∀ d ∈ ds, noref d = true) → norefL ds = true
  | [], _ => rfl
  | a :: r, h => by simp only [norefL, h a List.mem_cons_self, noref_mem fun d hd => h d (List.mem_cons_of_mem _ hd), Bool.and_self]
theorem noref_erase {ds : List D} (h : norefL ds = true) (j : Nat) : norefL (ds.eraseIdx j) = true := noref_mem fun d hd => mem_noref h d (List.mem_of_mem_eraseIdx hd)
theorem erase_perm {α : Type} : ∀ {l : List α} {j : Nat} (h : j < l.length), (l[j]'h :: l.eraseIdx j).Perm l
  | a :: l, 0, _ => .refl _
  | a :: l, j + 1, h => by
    have ih := erase_perm (l := l) (j := j) (by simpa using h)
    simp only [List.getElem_cons_succ, List.eraseIdx_cons_succ]
    exact (List.Perm.swap a _ _).trans (List.Perm.cons a ih)
theorem sh_step {ev1 : Option D} {rest : List D} {n : Nat} {o : MO} {x : D} (h0 : rest ≠ []) (hl : rest.length ≤ 1000) (hp : Pot n o) (hn : n + 1 ≤ 100000) :
    ∃ (j : Nat) (y : D) (o2 : MO), rest[j]? = some y ∧ Pot (n + 1) o2 ∧
      lcSt [F_stir] [("_law_turn", 3)] (.name 3) .noP (.popAt (.var 2) (.call 0 (.cons (.var 0) (.cons (.blt .len (.cons (.var 2) .nil)) .nil)))) [some (.ref 0), ev1, some (.ref 1), none] x [o, .lst rest] = .ok (some y) [o2, .lst (rest.eraseIdx j)] := by
  have hpos : 0 < rest.length := List.length_pos_iff.mpr h0
  obtain ⟨d, o2, e, p, ⟨v, rfl, v0, v1⟩, nr⟩ := (r_stir (t := rest.length) (by omega) (len_log hl)).call rfl (m := [o, .lst rest]) (j := 0) rfl hp hn
  have hj : v.toNat < rest.length := by omega
  refine ⟨v.toNat, rest[v.toNat], o2, by simp [hj], p, ?_⟩
  have hs : seqIndex? v rest.length = some v.toNat := by
    unfold seqIndex?
    first
      | (rw [if_pos (by omega)]; simp; omega)
      | (simp; omega)
      | (split <;> simp <;> omega)
  have ea : evA [F_stir] (.cons (.var 0) (.cons (.blt .len (.cons (.var 2) .nil)) .nil)) [some (.ref 0), ev1, some (.ref 1), some x] [o, .lst rest] = .ok [.ref 0, .int rest.length] [o, .lst rest] :=
    ev_cons (ev_var rfl) (ev_cons (ev_blt (b := .len) (ev_cons (ev_var rfl) ev_nil) rfl) ev_nil)
  have ec : evE [F_stir] (.call 0 (.cons (.var 0) (.cons (.blt .len (.cons (.var 2) .nil)) .nil))) [some (.ref 0), ev1, some (.ref 1), some x] [o, .lst rest] = .ok (.int v) [o2, .lst rest] := ev_call ea rfl e
  have ep : evE [F_stir] (.popAt (.var 2) (.call 0 (.cons (.var 0) (.cons (.blt .len (.cons (.var 2) .nil)) .nil)))) [some (.ref 0), ev1, some (.ref 1), some x] [o, .lst rest] = .ok rest[v.toNat] [o2, .lst (rest.eraseIdx v.toNat)] := by
    rw [evE, ev_var (fs := [F_stir]) (i := 2) (d := .ref 1) rfl]
    simp only [R.bind, List.getElem?_cons_succ, List.getElem?_cons_zero, ec, popAtD]
    rw [if_pos ⟨by omega, by omega⟩, hs]
    simp [hj]
  unfold lcSt
  simp only [asgG, List.map_cons, List.map_nil, wipeD, List.set_cons_succ, List.set_cons_zero]
  have np : isNoP .noP = true := rfl
  simp only [np, if_true, R.bind, ep]
theorem sh_loop {ev1 : Option D} : ∀ (xs : List D) {rest acc : List D} {n : Nat} {o : MO}, rest.length = xs.length → rest.length ≤ 1000 → Pot n o → n + xs.length ≤ 100000 → ∃ ys o2, ys.Perm rest ∧ Pot (n + xs.length) o2 ∧
      lcGo (lcSt [F_stir] [("_law_turn", 3)] (.name 3) .noP (.popAt (.var 2) (.call 0 (.cons (.var 0) (.cons (.blt .len (.cons (.var 2) .nil)) .nil)))) [some (.ref 0), ev1, some (.ref 1), none]) xs acc [o, .lst rest] = .ok (acc ++ ys) [o2, .lst []]
  | [], rest, acc, n, o, h, hl, hp, hn => by
    have : rest = [] := List.length_eq_zero_iff.mp (by simpa using h)
    subst this
    exact ⟨[], o, .refl _, hp, by simp [lcGo]⟩
  | x :: xs, rest, acc, n, o, h, hl, hp, hn => by
    simp only [List.length_cons] at h hn
    obtain ⟨j, y, o2, hj, p2, e2⟩ := sh_step (ev1 := ev1) (x := x) (rest := rest) (by intro z; rw [z] at h; simp at h) hl hp (by omega)
    have hjl : j < rest.length := (List.getElem?_eq_some_iff.mp hj).1
    have hy : rest[j] = y := (List.getElem?_eq_some_iff.mp hj).2
    have el : (rest.eraseIdx j).length = xs.length := by rw [List.length_eraseIdx_of_lt hjl]; omega
    obtain ⟨ys, o3, h1, h2, h3⟩ := sh_loop (ev1 := ev1) xs (rest := rest.eraseIdx j) (acc := acc ++ [y]) el (by omega) p2 (by omega)
    refine ⟨y :: ys, o3, ?_, ?_, ?_⟩
    · have pe : (y :: rest.eraseIdx j).Perm rest := by
        rw [← hy]
        exact erase_perm hjl
      exact (List.Perm.cons y h1).trans pe
    · rw [List.length_cons]
      have : n + 1 + xs.length = n + (xs.length + 1) := by omega
      rw [← this]; exact h2
    · simp only [lcGo, e2, h3]
      simp
theorem r_shuffled {d : D} {ds : List D} (hv : d = .lst ds ∨ d = .tup ds) (hl : ds.length ≤ 1000) (hn : norefL ds = true) : PotFn F_shuffled [d] ds.length (fun e => ∃ ys, e = .lst ys ∧ ys.Perm ds) := by
  intro n o hp hn2
  have vq : ∀ m, viewQ d m = some ds := fun m => by rcases hv with rfl | rfl <;> rfl
  have ln : ∀ m, lenD [d] m = .ok (.int ds.length) m := fun m => by rcases hv with rfl | rfl <;> rfl
  unfold F_shuffled runB b_shuffled
  simp only [List.map_cons, List.map_nil, List.length_cons, List.length_nil, Nat.reduceAdd, Nat.reduceSub, List.replicate, List.cons_append, List.nil_append]
  rw [st_asg1 (m1 := [o, .lst ds]) (d := .ref 1) (ev_blt (b := .listM) (ev_cons (ev_var rfl) ev_nil) (by simp only [bfD, listMD, vq]; rfl))]
  simp only [List.set_cons_zero, List.set_cons_succ]
  obtain ⟨ys, o2, p1, p2, p3⟩ := sh_loop (ev1 := some d) ((List.range ((ds.length : Int)).toNat).map fun (i : Nat) => D.int (i : Int)) (rest := ds) (acc := []) (by simp) hl hp (by simpa using hn2)
  rw [st_ret (ev_lc (ev_rng1 (ev_blt (b := .len) (ev_cons (ev_var rfl) ev_nil) (ln _)) (by omega) (by omega)) rfl (by simp; omega) p3)]
  refine ⟨_, o2, _, rfl, by simpa using p2, ⟨ys, by simp, p1⟩, ?_⟩
  simp only [List.nil_append, noref]
  exact noref_mem fun z hz => mem_noref hn z (p1.mem_iff.mp hz)
end HB
namespace K01
open PySem PySem.Spec PyProof.Rows L2 HB
def top (i : Nat) : Stmt := PySem.Challenge.pw_huebill_k01_whole_errors.main.body.getD i (.Pass ⟨0, 0, 0, 0⟩)
abbrev st_law_pot : Stmt := top 17
def b_law_pot : S := (.cons (.asg (.name 2) (.ite (.cmp .lt (.var 1) (.blt .len (.cons (.var 0) .nil))) (.ix (.var 0) (.var 1)) (.bin .add (.bin .mul (.int 97) (.var 1)) (.int 59))))
    (.cons (.asg (.name 3) (.bin .mod (.blt .int (.cons (.blt .abs (.cons (.var 2) .nil)) .nil)) (.bin .pow (.bin .pow (.int 10) (.int 59)) (.int 9))))
    (.cons (.asg (.name 4) (.bin .add (.bin .add (.bin .add (.bin .mul (.bin .mod (.blt .int (.cons (.var 3) .nil)) (.int 2305843009213693921)) (.int 1000187)) (.bin .mul (.int 7013) (.var 1))) (.bin .mul (.int 29) (.blt .int (.cons (.cmp .lt (.var 2) (.int 0)) .nil)))) (.int 17)))
    (.cons (.ret (.lstM (.cons (.blt .max (.cons (.int 0) (.cons (.bin .sub (.var 3) (.bin .pow (.int 10) (.int 18))) .nil))) (.cons (.bin .mod (.blt .int (.cons (.var 4) .nil)) (.int 2305843009213693951)) (.cons (.int 0) .nil)))))
    .nil))))
def F_law_pot : Sem := runB [] 5 b_law_pot
abbrev st_law_stir : Stmt := top 18
def b_law_stir : S := (.cons (.ife (.cmp .gt (.ix (.var 0) (.int 0)) (.int 0)) (.cons (.asg (.name 4) (.bin .mod (.blt .int (.cons (.ix (.var 0) (.int 0)) .nil)) (.var 1)))
    (.cons (.setix (.var 0) (.int 0) (.bin .fdiv (.ix (.var 0) (.int 0)) (.var 1)))
    (.cons (.ret (.var 4))
    .nil))) .nil)
    (.cons (.setix (.var 0) (.int 2) (.bin .add (.ix (.var 0) (.int 2)) (.int 1)))
    (.cons (.asg (.name 2) (.bin .mod (.blt .int (.cons (.bin .add (.ix (.var 0) (.int 1)) (.bin .mul (.int 1048583) (.ix (.var 0) (.int 2)))) .nil)) (.int 2305843009213693951)))
    (.cons (.asg (.name 3) (.bin .add (.bin .mul (.bin .mod (.blt .int (.cons (.bin .mul (.var 2) (.var 2)) .nil)) (.int 2305843009213693907)) (.var 2)) (.bin .mul (.int 8101) (.ix (.var 0) (.int 2)))))
    (.cons (.ret (.bin .mod (.blt .int (.cons (.bin .fdiv (.bin .mod (.blt .int (.cons (.var 3) .nil)) (.int 2305843009213693921)) (.int 16384)) .nil)) (.var 1)))
    .nil)))))
def F_law_stir : Sem := runB [] 5 b_law_stir
abbrev st_law_shuffled : Stmt := top 20
def b_law_shuffled : S := (.cons (.asg (.name 2) (.blt .listM (.cons (.var 1) .nil)))
    (.cons (.ret (.lc [("_law_turn", 3)] (.name 3) (.rng1 (.blt .len (.cons (.var 1) .nil))) .noP (.popAt (.var 2) (.call 0 (.cons (.var 0) (.cons (.blt .len (.cons (.var 2) .nil)) .nil))))))
    .nil))
def F_law_shuffled : Sem := runB [F_law_stir] 4 b_law_shuffled
abbrev st_law_one_of : Stmt := top 19
def b_law_one_of : S := (.cons (.ret (.ix (.var 1) (.call 0 (.cons (.var 0) (.cons (.blt .len (.cons (.var 1) .nil)) .nil)))))
    .nil)
def F_law_one_of : Sem := runB [F_law_stir] 2 b_law_one_of
abbrev st_law_value_for : Stmt := top 27
def b_law_value_for : S := (.cons (.ife (.cmp .inn (.var 1) (.tup (.cons (.int 7) (.cons (.int 10) (.cons (.int 11) .nil))))) (.cons (.ret (.call 0 (.cons (.var 0) (.cons (.lst (.cons (.int 0) (.cons (.int 1) (.cons (.int 8) (.cons (.int 60) (.cons (.call 1 (.cons (.var 0) (.cons (.bin .pow (.int 10) (.int 12)) .nil))) .nil)))))) .nil))))
    .nil) .nil)
    (.cons (.ife (.cmp .inn (.var 1) (.tup (.cons (.int 8) (.cons (.int 9) .nil)))) (.cons (.ret (.call 0 (.cons (.var 0) (.cons (.lst (.cons .non (.cons (.bl true) (.cons (.int 0) (.cons (.neg (.int 7)) (.cons (.str "") (.cons (.str "road") (.cons (.str "it's") (.cons (.tup (.cons (.int 1) (.cons (.str "a") .nil))) (.cons (.lst (.cons (.str "a") .nil)) (.cons (.bin .add (.bin .pow (.int 10) (.int 60)) (.call 1 (.cons (.var 0) (.cons (.int 99) .nil)))) .nil))))))))))) .nil))))
    .nil) .nil)
    (.cons (.ife (.cmp .eq (.var 1) (.int 13)) (.cons (.ret (.blt .tuple (.cons (.sl (.mth .lstr (.str "abcdefgh") .nil) (.call 1 (.cons (.var 0) (.cons (.int 2) .nil))) (.bin .add (.int 5) (.call 1 (.cons (.var 0) (.cons (.int 4) .nil))))) .nil)))
    .nil) .nil)
    (.cons (.ret (.call 0 (.cons (.var 0) (.cons (.lst (.cons (.str "") (.cons (.str "a message") (.cons (.str "two words") (.cons (.str "road") (.cons (.str "rule") .nil)))))) .nil))))
    .nil))))
def F_law_value_for : Sem := runB [F_law_one_of, F_law_stir] 2 b_law_value_for
abbrev st_law_made_one : Stmt := top 21
def b_law_made_one : S := (.cons (.ife (.cmp .lt (.var 0) (.int 4)) (.cons (.ret (.ix (.lst (.cons (.prm (.xnew0 "InvalidName") (.cons (.var 1) .nil)) (.cons (.prm (.xnew0 "InvalidWeb") (.cons (.var 1) .nil)) (.cons (.prm (.xnew0 "InvalidGroup") (.cons (.var 1) .nil)) (.cons (.prm (.xnew0 "InvalidCharge") (.cons (.var 1) .nil)) .nil))))) (.var 0)))
    .nil) .nil)
    (.cons (.ife (.cmp .lt (.var 0) (.int 7)) (.cons (.ret (.ix (.lst (.cons (.prm (.xnew0 "InvalidOrder") (.cons (.var 1) .nil)) (.cons (.prm (.xnew0 "InvalidPlan") (.cons (.var 1) .nil)) (.cons (.prm (.xnew0 "InvalidOperation") (.cons (.var 1) .nil)) .nil)))) (.bin .sub (.var 0) (.int 4))))
    .nil) .nil)
    (.cons (.ife (.cmp .eq (.var 0) (.int 7)) (.cons (.ret (.prm (.xnew "ParseError" "index" true) (.cons (.var 1) .nil)))
    .nil) .nil)
    (.cons (.ife (.cmp .eq (.var 0) (.int 8)) (.cons (.ret (.prm (.xnew "InvalidNumber" "value" false) (.cons (.var 1) .nil)))
    .nil) .nil)
    (.cons (.ife (.cmp .eq (.var 0) (.int 9)) (.cons (.ret (.prm (.xnew "UnknownName" "name" false) (.cons (.var 1) .nil)))
    .nil) .nil)
    (.cons (.ife (.cmp .eq (.var 0) (.int 10)) (.cons (.ret (.prm (.xnew "TooMany" "limit" true) (.cons (.var 1) .nil)))
    .nil) .nil)
    (.cons (.ife (.cmp .eq (.var 0) (.int 11)) (.cons (.ret (.prm (.xnew "NothingToUndo" "many" true) (.cons (.var 1) .nil)))
    .nil) .nil)
    (.cons (.ret (.ite (.cmp .eq (.var 0) (.int 12)) (.prm (.xnew "Broken" "label" true) (.cons (.var 1) .nil)) (.prm (.xnew "Spoiled" "group" false) (.cons (.var 1) .nil))))
    .nil))))))))
def F_law_made_one : Sem := runB [] 2 b_law_made_one
abbrev st_law_thrown : Stmt := top 28
def b_law_thrown : S := (.cons (.ife (.cmp .eq (.var 0) (.int 7)) (.cons (.rai "ParseError" "index" true (.var 1))
    .nil) .nil)
    (.cons (.ife (.cmp .eq (.var 0) (.int 8)) (.cons (.rai "InvalidNumber" "value" false (.var 1))
    .nil) .nil)
    (.cons (.ife (.cmp .eq (.var 0) (.int 9)) (.cons (.rai "UnknownName" "name" false (.var 1))
    .nil) .nil)
    (.cons (.ife (.cmp .eq (.var 0) (.int 10)) (.cons (.rai "TooMany" "limit" true (.var 1))
    .nil) .nil)
    (.cons (.ife (.cmp .eq (.var 0) (.int 11)) (.cons (.rai "NothingToUndo" "many" true (.var 1))
    .nil) .nil)
    (.cons (.ife (.cmp .eq (.var 0) (.int 12)) (.cons (.rai "Broken" "label" true (.var 1))
    .nil) .nil)
    (.cons (.rai "Spoiled" "group" false (.var 1))
    .nil)))))))
def F_law_thrown : Sem := runB [] 2 b_law_thrown
abbrev st_law_caught : Stmt := top 29
def b_law_caught : S := (.cons (.tryM (.cons (.exp (.call 0 (.cons (.var 0) (.cons (.var 1) .nil))))
    .nil) [("BillError", [("InvalidName", true), ("InvalidWeb", true), ("InvalidGroup", true), ("InvalidCharge", true), ("InvalidOrder", true), ("InvalidPlan", true), ("InvalidOperation", true), ("ParseError", true), ("InvalidNumber", false), ("UnknownName", false), ("TooMany", false), ("NothingToUndo", false), ("Broken", false), ("Spoiled", false)], (.int 7)), ("InvalidNumber", [("InvalidName", false), ("InvalidWeb", false), ("InvalidGroup", false), ("InvalidCharge", false), ("InvalidOrder", false), ("InvalidPlan", false), ("InvalidOperation", false), ("ParseError", false), ("InvalidNumber", true), ("UnknownName", false), ("TooMany", false), ("NothingToUndo", false), ("Broken", false), ("Spoiled", false)], (.int 8)), ("UnknownName", [("InvalidName", false), ("InvalidWeb", false), ("InvalidGroup", false), ("InvalidCharge", false), ("InvalidOrder", false), ("InvalidPlan", false), ("InvalidOperation", false), ("ParseError", false), ("InvalidNumber", false), ("UnknownName", true), ("TooMany", false), ("NothingToUndo", false), ("Broken", false), ("Spoiled", false)], (.int 9)), ("TooMany", [("InvalidName", false), ("InvalidWeb", false), ("InvalidGroup", false), ("InvalidCharge", false), ("InvalidOrder", false), ("InvalidPlan", false), ("InvalidOperation", false), ("ParseError", false), ("InvalidNumber", false), ("UnknownName", false), ("TooMany", true), ("NothingToUndo", false), ("Broken", false), ("Spoiled", false)], (.int 10)), ("NothingToUndo", [("InvalidName", false), ("InvalidWeb", false), ("InvalidGroup", false), ("InvalidCharge", false), ("InvalidOrder", false), ("InvalidPlan", false), ("InvalidOperation", false), ("ParseError", false), ("InvalidNumber", false), ("UnknownName", false), ("TooMany", false), ("NothingToUndo", true), ("Broken", false), ("Spoiled", false)], (.int 11)), ("Broken", [("InvalidName", false), ("InvalidWeb", false), ("InvalidGroup", false), ("InvalidCharge", false), ("InvalidOrder", false), ("InvalidPlan", false), ("InvalidOperation", false), ("ParseError", false), ("InvalidNumber", false), ("UnknownName", false), ("TooMany", false), ("NothingToUndo", false), ("Broken", true), ("Spoiled", false)], (.int 12)), ("Spoiled", [("InvalidName", false), ("InvalidWeb", false), ("InvalidGroup", false), ("InvalidCharge", false), ("InvalidOrder", false), ("InvalidPlan", false), ("InvalidOperation", false), ("ParseError", false), ("InvalidNumber", false), ("UnknownName", false), ("TooMany", false), ("NothingToUndo", false), ("Broken", false), ("Spoiled", true)], (.int 13))])
    (.cons (.ret (.int 14))
    .nil))
def F_law_caught : Sem := runB [F_law_thrown] 2 b_law_caught
abbrev st_law_kin : Stmt := top 23
def b_law_kin : S := (.cons (.asg (.name 1) (.lst (.cons (.mth (.isx "ValueError" [("InvalidName", true), ("InvalidWeb", true), ("InvalidGroup", true), ("InvalidCharge", true), ("InvalidOrder", true), ("InvalidPlan", true), ("InvalidOperation", true), ("ParseError", true), ("InvalidNumber", false), ("UnknownName", false), ("TooMany", false), ("NothingToUndo", false), ("Broken", false), ("Spoiled", false)]) (.var 0) .nil) (.cons (.mth (.isx "LookupError" [("InvalidName", false), ("InvalidWeb", false), ("InvalidGroup", false), ("InvalidCharge", false), ("InvalidOrder", false), ("InvalidPlan", false), ("InvalidOperation", false), ("ParseError", false), ("InvalidNumber", true), ("UnknownName", true), ("TooMany", false), ("NothingToUndo", true), ("Broken", false), ("Spoiled", false)]) (.var 0) .nil) (.cons (.mth (.isx "IndexError" [("InvalidName", false), ("InvalidWeb", false), ("InvalidGroup", false), ("InvalidCharge", false), ("InvalidOrder", false), ("InvalidPlan", false), ("InvalidOperation", false), ("ParseError", false), ("InvalidNumber", true), ("UnknownName", false), ("TooMany", false), ("NothingToUndo", false), ("Broken", false), ("Spoiled", false)]) (.var 0) .nil) (.cons (.mth (.isx "KeyError" [("InvalidName", false), ("InvalidWeb", false), ("InvalidGroup", false), ("InvalidCharge", false), ("InvalidOrder", false), ("InvalidPlan", false), ("InvalidOperation", false), ("ParseError", false), ("InvalidNumber", false), ("UnknownName", true), ("TooMany", false), ("NothingToUndo", false), ("Broken", false), ("Spoiled", false)]) (.var 0) .nil) .nil))))))
    (.cons (.ret (.bin .add (.var 1) (.lst (.cons (.mth (.isx "ArithmeticError" [("InvalidName", false), ("InvalidWeb", false), ("InvalidGroup", false), ("InvalidCharge", false), ("InvalidOrder", false), ("InvalidPlan", false), ("InvalidOperation", false), ("ParseError", false), ("InvalidNumber", false), ("UnknownName", false), ("TooMany", true), ("NothingToUndo", false), ("Broken", true), ("Spoiled", false)]) (.var 0) .nil) (.cons (.mth (.isx "OverflowError" [("InvalidName", false), ("InvalidWeb", false), ("InvalidGroup", false), ("InvalidCharge", false), ("InvalidOrder", false), ("InvalidPlan", false), ("InvalidOperation", false), ("ParseError", false), ("InvalidNumber", false), ("UnknownName", false), ("TooMany", true), ("NothingToUndo", false), ("Broken", false), ("Spoiled", false)]) (.var 0) .nil) (.cons (.mth (.isx "RuntimeError" [("InvalidName", false), ("InvalidWeb", false), ("InvalidGroup", false), ("InvalidCharge", false), ("InvalidOrder", false), ("InvalidPlan", false), ("InvalidOperation", false), ("ParseError", false), ("InvalidNumber", false), ("UnknownName", false), ("TooMany", false), ("NothingToUndo", false), ("Broken", false), ("Spoiled", true)]) (.var 0) .nil) (.cons (.mth (.isx "TypeError" [("InvalidName", false), ("InvalidWeb", false), ("InvalidGroup", false), ("InvalidCharge", false), ("InvalidOrder", false), ("InvalidPlan", false), ("InvalidOperation", false), ("ParseError", false), ("InvalidNumber", false), ("UnknownName", false), ("TooMany", false), ("NothingToUndo", false), ("Broken", false), ("Spoiled", false)]) (.var 0) .nil) .nil)))))))
    .nil))
def F_law_kin : Sem := runB [] 2 b_law_kin
abbrev st_law_sorts : Stmt := top 22
def b_law_sorts : S := (.cons (.asg (.name 1) (.lst (.cons (.mth (.isx "InvalidName" [("InvalidName", true), ("InvalidWeb", false), ("InvalidGroup", false), ("InvalidCharge", false), ("InvalidOrder", false), ("InvalidPlan", false), ("InvalidOperation", false), ("ParseError", false), ("InvalidNumber", false), ("UnknownName", false), ("TooMany", false), ("NothingToUndo", false), ("Broken", false), ("Spoiled", false)]) (.var 0) .nil) (.cons (.mth (.isx "InvalidWeb" [("InvalidName", false), ("InvalidWeb", true), ("InvalidGroup", false), ("InvalidCharge", false), ("InvalidOrder", false), ("InvalidPlan", false), ("InvalidOperation", false), ("ParseError", false), ("InvalidNumber", false), ("UnknownName", false), ("TooMany", false), ("NothingToUndo", false), ("Broken", false), ("Spoiled", false)]) (.var 0) .nil) (.cons (.mth (.isx "InvalidGroup" [("InvalidName", false), ("InvalidWeb", false), ("InvalidGroup", true), ("InvalidCharge", false), ("InvalidOrder", false), ("InvalidPlan", false), ("InvalidOperation", false), ("ParseError", false), ("InvalidNumber", false), ("UnknownName", false), ("TooMany", false), ("NothingToUndo", false), ("Broken", false), ("Spoiled", false)]) (.var 0) .nil) (.cons (.mth (.isx "InvalidCharge" [("InvalidName", false), ("InvalidWeb", false), ("InvalidGroup", false), ("InvalidCharge", true), ("InvalidOrder", false), ("InvalidPlan", false), ("InvalidOperation", false), ("ParseError", false), ("InvalidNumber", false), ("UnknownName", false), ("TooMany", false), ("NothingToUndo", false), ("Broken", false), ("Spoiled", false)]) (.var 0) .nil) .nil))))))
    (.cons (.asg (.name 1) (.bin .add (.var 1) (.lst (.cons (.mth (.isx "InvalidOrder" [("InvalidName", false), ("InvalidWeb", false), ("InvalidGroup", false), ("InvalidCharge", false), ("InvalidOrder", true), ("InvalidPlan", false), ("InvalidOperation", false), ("ParseError", false), ("InvalidNumber", false), ("UnknownName", false), ("TooMany", false), ("NothingToUndo", false), ("Broken", false), ("Spoiled", false)]) (.var 0) .nil) (.cons (.mth (.isx "InvalidPlan" [("InvalidName", false), ("InvalidWeb", false), ("InvalidGroup", false), ("InvalidCharge", false), ("InvalidOrder", false), ("InvalidPlan", true), ("InvalidOperation", false), ("ParseError", false), ("InvalidNumber", false), ("UnknownName", false), ("TooMany", false), ("NothingToUndo", false), ("Broken", false), ("Spoiled", false)]) (.var 0) .nil) (.cons (.mth (.isx "InvalidOperation" [("InvalidName", false), ("InvalidWeb", false), ("InvalidGroup", false), ("InvalidCharge", false), ("InvalidOrder", false), ("InvalidPlan", false), ("InvalidOperation", true), ("ParseError", false), ("InvalidNumber", false), ("UnknownName", false), ("TooMany", false), ("NothingToUndo", false), ("Broken", false), ("Spoiled", false)]) (.var 0) .nil) .nil))))))
    (.cons (.asg (.name 1) (.bin .add (.var 1) (.lst (.cons (.mth (.isx "ParseError" [("InvalidName", false), ("InvalidWeb", false), ("InvalidGroup", false), ("InvalidCharge", false), ("InvalidOrder", false), ("InvalidPlan", false), ("InvalidOperation", false), ("ParseError", true), ("InvalidNumber", false), ("UnknownName", false), ("TooMany", false), ("NothingToUndo", false), ("Broken", false), ("Spoiled", false)]) (.var 0) .nil) (.cons (.mth (.isx "InvalidNumber" [("InvalidName", false), ("InvalidWeb", false), ("InvalidGroup", false), ("InvalidCharge", false), ("InvalidOrder", false), ("InvalidPlan", false), ("InvalidOperation", false), ("ParseError", false), ("InvalidNumber", true), ("UnknownName", false), ("TooMany", false), ("NothingToUndo", false), ("Broken", false), ("Spoiled", false)]) (.var 0) .nil) (.cons (.mth (.isx "UnknownName" [("InvalidName", false), ("InvalidWeb", false), ("InvalidGroup", false), ("InvalidCharge", false), ("InvalidOrder", false), ("InvalidPlan", false), ("InvalidOperation", false), ("ParseError", false), ("InvalidNumber", false), ("UnknownName", true), ("TooMany", false), ("NothingToUndo", false), ("Broken", false), ("Spoiled", false)]) (.var 0) .nil) (.cons (.mth (.isx "TooMany" [("InvalidName", false), ("InvalidWeb", false), ("InvalidGroup", false), ("InvalidCharge", false), ("InvalidOrder", false), ("InvalidPlan", false), ("InvalidOperation", false), ("ParseError", false), ("InvalidNumber", false), ("UnknownName", false), ("TooMany", true), ("NothingToUndo", false), ("Broken", false), ("Spoiled", false)]) (.var 0) .nil) .nil)))))))
    (.cons (.ret (.bin .add (.var 1) (.lst (.cons (.mth (.isx "NothingToUndo" [("InvalidName", false), ("InvalidWeb", false), ("InvalidGroup", false), ("InvalidCharge", false), ("InvalidOrder", false), ("InvalidPlan", false), ("InvalidOperation", false), ("ParseError", false), ("InvalidNumber", false), ("UnknownName", false), ("TooMany", false), ("NothingToUndo", true), ("Broken", false), ("Spoiled", false)]) (.var 0) .nil) (.cons (.mth (.isx "Broken" [("InvalidName", false), ("InvalidWeb", false), ("InvalidGroup", false), ("InvalidCharge", false), ("InvalidOrder", false), ("InvalidPlan", false), ("InvalidOperation", false), ("ParseError", false), ("InvalidNumber", false), ("UnknownName", false), ("TooMany", false), ("NothingToUndo", false), ("Broken", true), ("Spoiled", false)]) (.var 0) .nil) (.cons (.mth (.isx "Spoiled" [("InvalidName", false), ("InvalidWeb", false), ("InvalidGroup", false), ("InvalidCharge", false), ("InvalidOrder", false), ("InvalidPlan", false), ("InvalidOperation", false), ("ParseError", false), ("InvalidNumber", false), ("UnknownName", false), ("TooMany", false), ("NothingToUndo", false), ("Broken", false), ("Spoiled", true)]) (.var 0) .nil) (.cons (.mth (.isx "BillError" [("InvalidName", true), ("InvalidWeb", true), ("InvalidGroup", true), ("InvalidCharge", true), ("InvalidOrder", true), ("InvalidPlan", true), ("InvalidOperation", true), ("ParseError", true), ("InvalidNumber", false), ("UnknownName", false), ("TooMany", false), ("NothingToUndo", false), ("Broken", false), ("Spoiled", false)]) (.var 0) .nil) .nil)))))))
    .nil))))
def F_law_sorts : Sem := runB [] 2 b_law_sorts
abbrev st_law_due : Stmt := top 24
def b_law_due : S := (.cons (.asg (.name 1) (.mth .get2 (.dcte (.cons (.int 8) (.cons (.tup (.cons (.int 1) (.cons (.int 2) .nil))) (.cons (.int 9) (.cons (.tup (.cons (.int 1) (.cons (.int 3) .nil))) (.cons (.int 10) (.cons (.tup (.cons (.int 4) (.cons (.int 5) .nil))) (.cons (.int 11) (.cons (.tup (.cons (.int 1) .nil)) (.cons (.int 12) (.cons (.tup (.cons (.int 4) .nil)) (.cons (.int 13) (.cons (.tup (.cons (.int 6) .nil)) .nil))))))))))))) (.cons (.var 0) (.cons (.tup (.cons (.int 0) .nil)) .nil))))
    (.cons (.ret (.lst (.cons (.bin .add (.lc [("_law_at", 2)] (.name 2) (.rng1 (.int 14)) .noP (.cmp .eq (.var 2) (.var 0))) (.lst (.cons (.cmp .lt (.var 0) (.int 8)) .nil))) (.cons (.lc [("_law_at", 2)] (.name 2) (.rng1 (.int 8)) .noP (.cmp .inn (.var 2) (.var 1))) .nil))))
    .nil))
def F_law_due : Sem := runB [] 3 b_law_due
abbrev st_InvalidNumber___str : Stmt := (clsBody (top 10)).getD 1 (.Pass ⟨0, 0, 0, 0⟩)
def b_InvalidNumber___str : S := (.cons (.ret (.blt .repr (.cons (.mth (.fldx "value" ["InvalidNumber"]) (.var 0) .nil) .nil)))
    .nil)
def F_InvalidNumber___str : Sem := runB [] 1 b_InvalidNumber___str
abbrev st_UnknownName___str : Stmt := (clsBody (top 11)).getD 1 (.Pass ⟨0, 0, 0, 0⟩)
def b_UnknownName___str : S := (.cons (.ret (.blt .repr (.cons (.mth (.fldx "name" ["UnknownName"]) (.var 0) .nil) .nil)))
    .nil)
def F_UnknownName___str : Sem := runB [] 1 b_UnknownName___str
abbrev st_law_kept : Stmt := top 25
def b_law_kept : S := (.cons (.ife (.cmp .lt (.var 0) (.int 7)) (.cons (.ret (.str ""))
    .nil) .nil)
    (.cons (.ife (.cmp .eq (.var 0) (.int 7)) (.cons (.ret (.blt .repr (.cons (.mth (.fldx "index" ["ParseError"]) (.var 1) .nil) .nil)))
    .nil) .nil)
    (.cons (.ife (.cmp .eq (.var 0) (.int 8)) (.cons (.ret (.bin .add (.bin .add (.blt .repr (.cons (.mth (.fldx "value" ["InvalidNumber"]) (.var 1) .nil) .nil)) (.str " ")) (.prm (.strx [("InvalidNumber", 0), ("UnknownName", 1)]) (.cons (.var 1) .nil))))
    .nil) .nil)
    (.cons (.ife (.cmp .eq (.var 0) (.int 9)) (.cons (.ret (.bin .add (.bin .add (.blt .repr (.cons (.mth (.fldx "name" ["UnknownName"]) (.var 1) .nil) .nil)) (.str " ")) (.prm (.strx [("InvalidNumber", 0), ("UnknownName", 1)]) (.cons (.var 1) .nil))))
    .nil) .nil)
    (.cons (.ife (.cmp .eq (.var 0) (.int 10)) (.cons (.ret (.blt .repr (.cons (.mth (.fldx "limit" ["TooMany"]) (.var 1) .nil) .nil)))
    .nil) .nil)
    (.cons (.ife (.cmp .eq (.var 0) (.int 11)) (.cons (.ret (.blt .repr (.cons (.mth (.fldx "many" ["NothingToUndo"]) (.var 1) .nil) .nil)))
    .nil) .nil)
    (.cons (.ret (.ite (.cmp .eq (.var 0) (.int 12)) (.blt .repr (.cons (.mth (.fldx "label" ["Broken"]) (.var 1) .nil) .nil)) (.blt .repr (.cons (.mth (.fldx "group" ["Spoiled"]) (.var 1) .nil) .nil))))
    .nil)))))))
def F_law_kept : Sem := runB [F_InvalidNumber___str, F_UnknownName___str] 2 b_law_kept
abbrev st_law_due_kept : Stmt := top 26
def b_law_due_kept : S := (.cons (.ife (.cmp .lt (.var 0) (.int 7)) (.cons (.ret (.str ""))
    .nil) .nil)
    (.cons (.ret (.ite (.cmp .inn (.var 0) (.tup (.cons (.int 8) (.cons (.int 9) .nil)))) (.bin .add (.bin .add (.blt .repr (.cons (.var 1) .nil)) (.str " ")) (.blt .repr (.cons (.var 1) .nil))) (.blt .repr (.cons (.var 1) .nil))))
    .nil))
def F_law_due_kept : Sem := runB [] 2 b_law_due_kept
abbrev st_law : Stmt := top 30
def b_law : S := (.cons (.fr (.name 1) (.rng1 (.blt .max (.cons (.int 1) (.cons (.blt .min (.cons (.int 2) (.cons (.blt .len (.cons (.var 0) .nil)) .nil))) .nil)))) (.cons (.par 3 4 (.call 0 (.cons (.var 0) (.cons (.var 1) .nil))) (.lstM .nil))
    (.cons (.fr (.name 2) (.call 1 (.cons (.var 3) (.cons (.mth .lrng (.int 14) .nil) .nil))) (.cons (.asg (.name 5) (.call 2 (.cons (.var 3) (.cons (.var 2) .nil))))
    (.cons (.app (.var 4) (.tup (.cons (.var 2) (.cons (.var 5) (.cons (.call 3 (.cons (.var 2) (.cons (.var 5) .nil))) .nil)))))
    (.cons (.ife (.and (.cmp .gt (.var 2) (.int 6)) (.cmp .ne (.call 4 (.cons (.var 2) (.cons (.var 5) .nil))) (.var 2))) (.cons (.ret (.bl false))
    .nil) .nil)
    .nil))))
    (.cons (.frz 4)
    (.cons (.fr (.tup (.cons (.name 2) (.cons (.name 5) (.cons (.name 6) .nil)))) (.var 4) (.cons (.ife (.or (.cmp .ne (.lst (.cons (.call 6 (.cons (.var 6) .nil)) (.cons (.call 5 (.cons (.var 6) .nil)) .nil))) (.call 7 (.cons (.var 2) .nil))) (.cmp .ne (.call 8 (.cons (.var 2) (.cons (.var 6) .nil))) (.call 9 (.cons (.var 2) (.cons (.var 5) .nil))))) (.cons (.ret (.bl false))
    .nil) .nil)
    .nil))
    .nil)))))
    (.cons (.ret (.bl true))
    .nil))
def F_law : Sem := runB [F_law_pot, F_law_shuffled, F_law_value_for, F_law_made_one, F_law_caught, F_law_kin, F_law_sorts, F_law_due, F_law_kept, F_law_due_kept] 7 b_law
def fn : List He.DefD := [dOf "_law_pot" st_law_pot, dOf "_law_stir" st_law_stir, dOf "_law_shuffled" st_law_shuffled, dOf "_law_one_of" st_law_one_of, dOf "_law_value_for" st_law_value_for, dOf "_law_made_one" st_law_made_one, dOf "_law_thrown" st_law_thrown, dOf "_law_caught" st_law_caught, dOf "_law_kin" st_law_kin, dOf "_law_sorts" st_law_sorts, dOf "_law_due" st_law_due, mOf "InvalidNumber" "__str__" "InvalidNumber.__str__" st_InvalidNumber___str, mOf "UnknownName" "__str__" "UnknownName.__str__" st_UnknownName___str, dOf "_law_kept" st_law_kept, dOf "_law_due_kept" st_law_due_kept, dOf "law" st_law]
def gl : List Str := ["_law_pot", "_law_stir", "_law_shuffled", "_law_one_of", "_law_value_for", "_law_made_one", "_law_thrown", "_law_caught", "_law_kin", "_law_sorts", "_law_due", "_law_kept", "_law_due_kept", "law", "BillError", "Broken", "InvalidCharge", "InvalidGroup", "InvalidName", "InvalidNumber", "InvalidOperation", "InvalidOrder", "InvalidPlan", "InvalidWeb", "NothingToUndo", "ParseError", "Spoiled", "TooMany", "UnknownName"]
def fr : List Str := ["abs", "max", "min", "sum", "int", "str", "len", "all", "any", "tuple", "list", "repr", "isinstance", "bool", "dict", "range", "zip", "enumerate", "sorted", "set", "reversed", "iter", "next", "super", "ArithmeticError", "IndexError", "KeyError", "LookupError", "OverflowError", "RuntimeError", "TypeError", "ValueError"]
def gints : List (Str × Int) := []
def xcs : List (Str × Str × Bool) := [("ParseError", "index", true), ("InvalidNumber", "value", false), ("UnknownName", "name", false), ("TooMany", "limit", true), ("NothingToUndo", "many", true), ("Broken", "label", true), ("Spoiled", "group", false)]
def xsub0 : List (Str × Str × Bool) := [("Broken", "BillError", false), ("Broken", "Broken", true), ("Broken", "InvalidNumber", false), ("Broken", "NothingToUndo", false), ("Broken", "Spoiled", false), ("Broken", "TooMany", false), ("Broken", "UnknownName", false), ("InvalidCharge", "BillError", true), ("InvalidCharge", "Broken", false), ("InvalidCharge", "InvalidNumber", false), ("InvalidCharge", "NothingToUndo", false), ("InvalidCharge", "Spoiled", false)]
def xsub1 : List (Str × Str × Bool) := [("InvalidCharge", "TooMany", false), ("InvalidCharge", "UnknownName", false), ("InvalidGroup", "BillError", true), ("InvalidGroup", "Broken", false), ("InvalidGroup", "InvalidNumber", false), ("InvalidGroup", "NothingToUndo", false), ("InvalidGroup", "Spoiled", false), ("InvalidGroup", "TooMany", false), ("InvalidGroup", "UnknownName", false), ("InvalidName", "BillError", true), ("InvalidName", "Broken", false), ("InvalidName", "InvalidNumber", false)]
def xsub2 : List (Str × Str × Bool) := [("InvalidName", "NothingToUndo", false), ("InvalidName", "Spoiled", false), ("InvalidName", "TooMany", false), ("InvalidName", "UnknownName", false), ("InvalidNumber", "BillError", false), ("InvalidNumber", "Broken", false), ("InvalidNumber", "InvalidNumber", true), ("InvalidNumber", "NothingToUndo", false), ("InvalidNumber", "Spoiled", false), ("InvalidNumber", "TooMany", false), ("InvalidNumber", "UnknownName", false), ("InvalidOperation", "BillError", true)]
def xsub3 : List (Str × Str × Bool) := [("InvalidOperation", "Broken", false), ("InvalidOperation", "InvalidNumber", false), ("InvalidOperation", "NothingToUndo", false), ("InvalidOperation", "Spoiled", false), ("InvalidOperation", "TooMany", false), ("InvalidOperation", "UnknownName", false), ("InvalidOrder", "BillError", true), ("InvalidOrder", "Broken", false), ("InvalidOrder", "InvalidNumber", false), ("InvalidOrder", "NothingToUndo", false), ("InvalidOrder", "Spoiled", false), ("InvalidOrder", "TooMany", false)]
def xsub4 : List (Str × Str × Bool) := [("InvalidOrder", "UnknownName", false), ("InvalidPlan", "BillError", true), ("InvalidPlan", "Broken", false), ("InvalidPlan", "InvalidNumber", false), ("InvalidPlan", "NothingToUndo", false), ("InvalidPlan", "Spoiled", false), ("InvalidPlan", "TooMany", false), ("InvalidPlan", "UnknownName", false), ("InvalidWeb", "BillError", true), ("InvalidWeb", "Broken", false), ("InvalidWeb", "InvalidNumber", false), ("InvalidWeb", "NothingToUndo", false)]
def xsub5 : List (Str × Str × Bool) := [("InvalidWeb", "Spoiled", false), ("InvalidWeb", "TooMany", false), ("InvalidWeb", "UnknownName", false), ("NothingToUndo", "BillError", false), ("NothingToUndo", "Broken", false), ("NothingToUndo", "InvalidNumber", false), ("NothingToUndo", "NothingToUndo", true), ("NothingToUndo", "Spoiled", false), ("NothingToUndo", "TooMany", false), ("NothingToUndo", "UnknownName", false), ("ParseError", "BillError", true), ("ParseError", "Broken", false)]
def xsub6 : List (Str × Str × Bool) := [("ParseError", "InvalidNumber", false), ("ParseError", "NothingToUndo", false), ("ParseError", "Spoiled", false), ("ParseError", "TooMany", false), ("ParseError", "UnknownName", false), ("Spoiled", "BillError", false), ("Spoiled", "Broken", false), ("Spoiled", "InvalidNumber", false), ("Spoiled", "NothingToUndo", false), ("Spoiled", "Spoiled", true), ("Spoiled", "TooMany", false), ("Spoiled", "UnknownName", false)]
def xsub7 : List (Str × Str × Bool) := [("TooMany", "BillError", false), ("TooMany", "Broken", false), ("TooMany", "InvalidNumber", false), ("TooMany", "NothingToUndo", false), ("TooMany", "Spoiled", false), ("TooMany", "TooMany", true), ("TooMany", "UnknownName", false), ("UnknownName", "BillError", false), ("UnknownName", "Broken", false), ("UnknownName", "InvalidNumber", false), ("UnknownName", "NothingToUndo", false), ("UnknownName", "Spoiled", false)]
def xsub8 : List (Str × Str × Bool) := [("UnknownName", "TooMany", false), ("UnknownName", "UnknownName", true)]
def xsub : List (Str × Str × Bool) := xsub0 ++ xsub1 ++ xsub2 ++ xsub3 ++ xsub4 ++ xsub5 ++ xsub6 ++ xsub7 ++ xsub8
def xis0 : List (Str × Str × Bool) := [("Broken", "ArithmeticError", true), ("Broken", "BillError", false), ("Broken", "Broken", true), ("Broken", "IndexError", false), ("Broken", "InvalidCharge", false), ("Broken", "InvalidGroup", false), ("Broken", "InvalidName", false), ("Broken", "InvalidNumber", false), ("Broken", "InvalidOperation", false), ("Broken", "InvalidOrder", false), ("Broken", "InvalidPlan", false), ("Broken", "InvalidWeb", false)]
def xis1 : List (Str × Str × Bool) := [("Broken", "KeyError", false), ("Broken", "LookupError", false), ("Broken", "NothingToUndo", false), ("Broken", "OverflowError", false), ("Broken", "ParseError", false), ("Broken", "RuntimeError", false), ("Broken", "Spoiled", false), ("Broken", "TooMany", false), ("Broken", "TypeError", false), ("Broken", "UnknownName", false), ("Broken", "ValueError", false), ("InvalidCharge", "ArithmeticError", false)]
def xis2 : List (Str × Str × Bool) := [("InvalidCharge", "BillError", true), ("InvalidCharge", "Broken", false), ("InvalidCharge", "IndexError", false), ("InvalidCharge", "InvalidCharge", true), ("InvalidCharge", "InvalidGroup", false), ("InvalidCharge", "InvalidName", false), ("InvalidCharge", "InvalidNumber", false), ("InvalidCharge", "InvalidOperation", false), ("InvalidCharge", "InvalidOrder", false), ("InvalidCharge", "InvalidPlan", false), ("InvalidCharge", "InvalidWeb", false), ("InvalidCharge", "KeyError", false)]
def xis3 : List (Str × Str × Bool) := [("InvalidCharge", "LookupError", false), ("InvalidCharge", "NothingToUndo", false), ("InvalidCharge", "OverflowError", false), ("InvalidCharge", "ParseError", false), ("InvalidCharge", "RuntimeError", false), ("InvalidCharge", "Spoiled", false), ("InvalidCharge", "TooMany", false), ("InvalidCharge", "TypeError", false), ("InvalidCharge", "UnknownName", false), ("InvalidCharge", "ValueError", true), ("InvalidGroup", "ArithmeticError", false), ("InvalidGroup", "BillError", true)]
def xis4 : List (Str × Str × Bool) := [("InvalidGroup", "Broken", false), ("InvalidGroup", "IndexError", false), ("InvalidGroup", "InvalidCharge", false), ("InvalidGroup", "InvalidGroup", true), ("InvalidGroup", "InvalidName", false), ("InvalidGroup", "InvalidNumber", false), ("InvalidGroup", "InvalidOperation", false), ("InvalidGroup", "InvalidOrder", false), ("InvalidGroup", "InvalidPlan", false), ("InvalidGroup", "InvalidWeb", false), ("InvalidGroup", "KeyError", false), ("InvalidGroup", "LookupError", false)]
def xis5 : List (Str × Str × Bool) := [("InvalidGroup", "NothingToUndo", false), ("InvalidGroup", "OverflowError", false), ("InvalidGroup", "ParseError", false), ("InvalidGroup", "RuntimeError", false), ("InvalidGroup", "Spoiled", false), ("InvalidGroup", "TooMany", false), ("InvalidGroup", "TypeError", false), ("InvalidGroup", "UnknownName", false), ("InvalidGroup", "ValueError", true), ("InvalidName", "ArithmeticError", false), ("InvalidName", "BillError", true), ("InvalidName", "Broken", false)]
def xis6 : List (Str × Str × Bool) := [("InvalidName", "IndexError", false), ("InvalidName", "InvalidCharge", false), ("InvalidName", "InvalidGroup", false), ("InvalidName", "InvalidName", true), ("InvalidName", "InvalidNumber", false), ("InvalidName", "InvalidOperation", false), ("InvalidName", "InvalidOrder", false), ("InvalidName", "InvalidPlan", false), ("InvalidName", "InvalidWeb", false), ("InvalidName", "KeyError", false), ("InvalidName", "LookupError", false), ("InvalidName", "NothingToUndo", false)]
def xis7 : List (Str × Str × Bool) := [("InvalidName", "OverflowError", false), ("InvalidName", "ParseError", false), ("InvalidName", "RuntimeError", false), ("InvalidName", "Spoiled", false), ("InvalidName", "TooMany", false), ("InvalidName", "TypeError", false), ("InvalidName", "UnknownName", false), ("InvalidName", "ValueError", true), ("InvalidNumber", "ArithmeticError", false), ("InvalidNumber", "BillError", false), ("InvalidNumber", "Broken", false), ("InvalidNumber", "IndexError", true)]
def xis8 : List (Str × Str × Bool) := [("InvalidNumber", "InvalidCharge", false), ("InvalidNumber", "InvalidGroup", false), ("InvalidNumber", "InvalidName", false), ("InvalidNumber", "InvalidNumber", true), ("InvalidNumber", "InvalidOperation", false), ("InvalidNumber", "InvalidOrder", false), ("InvalidNumber", "InvalidPlan", false), ("InvalidNumber", "InvalidWeb", false), ("InvalidNumber", "KeyError", false), ("InvalidNumber", "LookupError", true), ("InvalidNumber", "NothingToUndo", false), ("InvalidNumber", "OverflowError", false)]
def xis9 : List (Str × Str × Bool) := [("InvalidNumber", "ParseError", false), ("InvalidNumber", "RuntimeError", false), ("InvalidNumber", "Spoiled", false), ("InvalidNumber", "TooMany", false), ("InvalidNumber", "TypeError", false), ("InvalidNumber", "UnknownName", false), ("InvalidNumber", "ValueError", false), ("InvalidOperation", "ArithmeticError", false), ("InvalidOperation", "BillError", true), ("InvalidOperation", "Broken", false), ("InvalidOperation", "IndexError", false), ("InvalidOperation", "InvalidCharge", false)]
def xis10 : List (Str × Str × Bool) := [("InvalidOperation", "InvalidGroup", false), ("InvalidOperation", "InvalidName", false), ("InvalidOperation", "InvalidNumber", false), ("InvalidOperation", "InvalidOperation", true), ("InvalidOperation", "InvalidOrder", false), ("InvalidOperation", "InvalidPlan", false), ("InvalidOperation", "InvalidWeb", false), ("InvalidOperation", "KeyError", false), ("InvalidOperation", "LookupError", false), ("InvalidOperation", "NothingToUndo", false), ("InvalidOperation", "OverflowError", false), ("InvalidOperation", "ParseError", false)]
def xis11 : List (Str × Str × Bool) := [("InvalidOperation", "RuntimeError", false), ("InvalidOperation", "Spoiled", false), ("InvalidOperation", "TooMany", false), ("InvalidOperation", "TypeError", false), ("InvalidOperation", "UnknownName", false), ("InvalidOperation", "ValueError", true), ("InvalidOrder", "ArithmeticError", false), ("InvalidOrder", "BillError", true), ("InvalidOrder", "Broken", false), ("InvalidOrder", "IndexError", false), ("InvalidOrder", "InvalidCharge", false), ("InvalidOrder", "InvalidGroup", false)]
def xis12 : List (Str × Str × Bool) := [("InvalidOrder", "InvalidName", false), ("InvalidOrder", "InvalidNumber", false), ("InvalidOrder", "InvalidOperation", false), ("InvalidOrder", "InvalidOrder", true), ("InvalidOrder", "InvalidPlan", false), ("InvalidOrder", "InvalidWeb", false), ("InvalidOrder", "KeyError", false), ("InvalidOrder", "LookupError", false), ("InvalidOrder", "NothingToUndo", false), ("InvalidOrder", "OverflowError", false), ("InvalidOrder", "ParseError", false), ("InvalidOrder", "RuntimeError", false)]
def xis13 : List (Str × Str × Bool) := [("InvalidOrder", "Spoiled", false), ("InvalidOrder", "TooMany", false), ("InvalidOrder", "TypeError", false), ("InvalidOrder", "UnknownName", false), ("InvalidOrder", "ValueError", true), ("InvalidPlan", "ArithmeticError", false), ("InvalidPlan", "BillError", true), ("InvalidPlan", "Broken", false), ("InvalidPlan", "IndexError", false), ("InvalidPlan", "InvalidCharge", false), ("InvalidPlan", "InvalidGroup", false), ("InvalidPlan", "InvalidName", false)]
def xis14 : List (Str × Str × Bool) := [("InvalidPlan", "InvalidNumber", false), ("InvalidPlan", "InvalidOperation", false), ("InvalidPlan", "InvalidOrder", false), ("InvalidPlan", "InvalidPlan", true), ("InvalidPlan", "InvalidWeb", false), ("InvalidPlan", "KeyError", false), ("InvalidPlan", "LookupError", false), ("InvalidPlan", "NothingToUndo", false), ("InvalidPlan", "OverflowError", false), ("InvalidPlan", "ParseError", false), ("InvalidPlan", "RuntimeError", false), ("InvalidPlan", "Spoiled", false)]
def xis15 : List (Str × Str × Bool) := [("InvalidPlan", "TooMany", false), ("InvalidPlan", "TypeError", false), ("InvalidPlan", "UnknownName", false), ("InvalidPlan", "ValueError", true), ("InvalidWeb", "ArithmeticError", false), ("InvalidWeb", "BillError", true), ("InvalidWeb", "Broken", false), ("InvalidWeb", "IndexError", false), ("InvalidWeb", "InvalidCharge", false), ("InvalidWeb", "InvalidGroup", false), ("InvalidWeb", "InvalidName", false), ("InvalidWeb", "InvalidNumber", false)]
def xis16 : List (Str × Str × Bool) := [("InvalidWeb", "InvalidOperation", false), ("InvalidWeb", "InvalidOrder", false), ("InvalidWeb", "InvalidPlan", false), ("InvalidWeb", "InvalidWeb", true), ("InvalidWeb", "KeyError", false), ("InvalidWeb", "LookupError", false), ("InvalidWeb", "NothingToUndo", false), ("InvalidWeb", "OverflowError", false), ("InvalidWeb", "ParseError", false), ("InvalidWeb", "RuntimeError", false), ("InvalidWeb", "Spoiled", false), ("InvalidWeb", "TooMany", false)]
def xis17 : List (Str × Str × Bool) := [("InvalidWeb", "TypeError", false), ("InvalidWeb", "UnknownName", false), ("InvalidWeb", "ValueError", true), ("NothingToUndo", "ArithmeticError", false), ("NothingToUndo", "BillError", false), ("NothingToUndo", "Broken", false), ("NothingToUndo", "IndexError", false), ("NothingToUndo", "InvalidCharge", false), ("NothingToUndo", "InvalidGroup", false), ("NothingToUndo", "InvalidName", false), ("NothingToUndo", "InvalidNumber", false), ("NothingToUndo", "InvalidOperation", false)]
def xis18 : List (Str × Str × Bool) := [("NothingToUndo", "InvalidOrder", false), ("NothingToUndo", "InvalidPlan", false), ("NothingToUndo", "InvalidWeb", false), ("NothingToUndo", "KeyError", false), ("NothingToUndo", "LookupError", true), ("NothingToUndo", "NothingToUndo", true), ("NothingToUndo", "OverflowError", false), ("NothingToUndo", "ParseError", false), ("NothingToUndo", "RuntimeError", false), ("NothingToUndo", "Spoiled", false), ("NothingToUndo", "TooMany", false), ("NothingToUndo", "TypeError", false)]
def xis19 : List (Str × Str × Bool) := [("NothingToUndo", "UnknownName", false), ("NothingToUndo", "ValueError", false), ("ParseError", "ArithmeticError", false), ("ParseError", "BillError", true), ("ParseError", "Broken", false), ("ParseError", "IndexError", false), ("ParseError", "InvalidCharge", false), ("ParseError", "InvalidGroup", false), ("ParseError", "InvalidName", false), ("ParseError", "InvalidNumber", false), ("ParseError", "InvalidOperation", false), ("ParseError", "InvalidOrder", false)]
def xis20 : List (Str × Str × Bool) := [("ParseError", "InvalidPlan", false), ("ParseError", "InvalidWeb", false), ("ParseError", "KeyError", false), ("ParseError", "LookupError", false), ("ParseError", "NothingToUndo", false), ("ParseError", "OverflowError", false), ("ParseError", "ParseError", true), ("ParseError", "RuntimeError", false), ("ParseError", "Spoiled", false), ("ParseError", "TooMany", false), ("ParseError", "TypeError", false), ("ParseError", "UnknownName", false)]
def xis21 : List (Str × Str × Bool) := [("ParseError", "ValueError", true), ("Spoiled", "ArithmeticError", false), ("Spoiled", "BillError", false), ("Spoiled", "Broken", false), ("Spoiled", "IndexError", false), ("Spoiled", "InvalidCharge", false), ("Spoiled", "InvalidGroup", false), ("Spoiled", "InvalidName", false), ("Spoiled", "InvalidNumber", false), ("Spoiled", "InvalidOperation", false), ("Spoiled", "InvalidOrder", false), ("Spoiled", "InvalidPlan", false)]
def xis22 : List (Str × Str × Bool) := [("Spoiled", "InvalidWeb", false), ("Spoiled", "KeyError", false), ("Spoiled", "LookupError", false), ("Spoiled", "NothingToUndo", false), ("Spoiled", "OverflowError", false), ("Spoiled", "ParseError", false), ("Spoiled", "RuntimeError", true), ("Spoiled", "Spoiled", true), ("Spoiled", "TooMany", false), ("Spoiled", "TypeError", false), ("Spoiled", "UnknownName", false), ("Spoiled", "ValueError", false)]
def xis23 : List (Str × Str × Bool) := [("TooMany", "ArithmeticError", true), ("TooMany", "BillError", false), ("TooMany", "Broken", false), ("TooMany", "IndexError", false), ("TooMany", "InvalidCharge", false), ("TooMany", "InvalidGroup", false), ("TooMany", "InvalidName", false), ("TooMany", "InvalidNumber", false), ("TooMany", "InvalidOperation", false), ("TooMany", "InvalidOrder", false), ("TooMany", "InvalidPlan", false), ("TooMany", "InvalidWeb", false)]
def xis24 : List (Str × Str × Bool) := [("TooMany", "KeyError", false), ("TooMany", "LookupError", false), ("TooMany", "NothingToUndo", false), ("TooMany", "OverflowError", true), ("TooMany", "ParseError", false), ("TooMany", "RuntimeError", false), ("TooMany", "Spoiled", false), ("TooMany", "TooMany", true), ("TooMany", "TypeError", false), ("TooMany", "UnknownName", false), ("TooMany", "ValueError", false), ("UnknownName", "ArithmeticError", false)]
def xis25 : List (Str × Str × Bool) := [("UnknownName", "BillError", false), ("UnknownName", "Broken", false), ("UnknownName", "IndexError", false), ("UnknownName", "InvalidCharge", false), ("UnknownName", "InvalidGroup", false), ("UnknownName", "InvalidName", false), ("UnknownName", "InvalidNumber", false), ("UnknownName", "InvalidOperation", false), ("UnknownName", "InvalidOrder", false), ("UnknownName", "InvalidPlan", false), ("UnknownName", "InvalidWeb", false), ("UnknownName", "KeyError", true)]
def xis26 : List (Str × Str × Bool) := [("UnknownName", "LookupError", true), ("UnknownName", "NothingToUndo", false), ("UnknownName", "OverflowError", false), ("UnknownName", "ParseError", false), ("UnknownName", "RuntimeError", false), ("UnknownName", "Spoiled", false), ("UnknownName", "TooMany", false), ("UnknownName", "TypeError", false), ("UnknownName", "UnknownName", true), ("UnknownName", "ValueError", false)]
def xis : List (Str × Str × Bool) := xis0 ++ xis1 ++ xis2 ++ xis3 ++ xis4 ++ xis5 ++ xis6 ++ xis7 ++ xis8 ++ xis9 ++ xis10 ++ xis11 ++ xis12 ++ xis13 ++ xis14 ++ xis15 ++ xis16 ++ xis17 ++ xis18 ++ xis19 ++ xis20 ++ xis21 ++ xis22 ++ xis23 ++ xis24 ++ xis25 ++ xis26
def tb : Tb := { gints := gints, xcs := xcs, xsub := xsub, xc0 := ["InvalidCharge", "InvalidGroup", "InvalidName", "InvalidOperation", "InvalidOrder", "InvalidPlan", "InvalidWeb"], xis := xis }
abbrev it_ParseError : Stmt := (clsBody (top 9)).getD 0 (.Pass ⟨0, 0, 0, 0⟩)
def x_ParseError : XD := ⟨"ParseError", "index", "index", true, "ParseError.__init__", defArgs it_ParseError, defBody it_ParseError, defScope it_ParseError, "ValueError", "ValueError.__new__", "ValueError.__init__", [.type "ValueError", .type "Exception", .type "BaseException", .type "object"]⟩
theorem t_ParseError (w : World) : x_ParseError.Txt PySem.Challenge.pw_huebill_k01_whole_errors w where
  bs := xb_ValueError
  vn := by decide +kernel
  dbg := by decide +kernel
  top := by decide +kernel
  txt := ⟨fun i => ([⟨21, 8, 21, 13⟩, ⟨21, 8, 21, 15⟩, ⟨21, 8, 21, 24⟩, ⟨21, 8, 21, 60⟩, ⟨21, 8, 21, 60⟩, ⟨22, 8, 22, 12⟩, ⟨22, 8, 22, 18⟩, ⟨22, 21, 22, 26⟩, ⟨22, 8, 22, 26⟩] : List Pos).getD i ⟨0, 0, 0, 0⟩, ⟨20, 17, 20, 21⟩, ⟨20, 23, 20, 28⟩, msgOf (defBody it_ParseError), rfl, rfl, PySem.HBX.msgOk_f (by decide) (by decide), rfl⟩
  nms := by decide +kernel
  knd := ⟨rfl, rfl, rfl⟩
  bnd := fun _ _ _ _ _ _ _ _ _ _ => .of_eq rfl
abbrev it_InvalidNumber : Stmt := (clsBody (top 10)).getD 0 (.Pass ⟨0, 0, 0, 0⟩)
def x_InvalidNumber : XD := ⟨"InvalidNumber", "value", "value", false, "InvalidNumber.__init__", defArgs it_InvalidNumber, defBody it_InvalidNumber, defScope it_InvalidNumber, "IndexError", "IndexError.__new__", "IndexError.__init__", [.type "IndexError", .type "LookupError", .type "Exception", .type "BaseException", .type "object"]⟩
theorem t_InvalidNumber (w : World) : x_InvalidNumber.Txt PySem.Challenge.pw_huebill_k01_whole_errors w where
  bs := xb_IndexError
  vn := by decide +kernel
  dbg := by decide +kernel
  top := by decide +kernel
  txt := ⟨fun i => ([⟨26, 8, 26, 13⟩, ⟨26, 8, 26, 15⟩, ⟨26, 8, 26, 24⟩, ⟨26, 8, 26, 57⟩, ⟨26, 8, 26, 57⟩, ⟨27, 8, 27, 12⟩, ⟨27, 8, 27, 18⟩, ⟨27, 21, 27, 26⟩, ⟨27, 8, 27, 26⟩] : List Pos).getD i ⟨0, 0, 0, 0⟩, ⟨25, 17, 25, 21⟩, ⟨25, 23, 25, 28⟩, .Constant (.str "the number is not as expected") 0 ⟨26, 25, 26, 56⟩, rfl, rfl, PySem.HBX.msgOk_str, rfl⟩
  nms := by decide +kernel
  knd := ⟨rfl, rfl, rfl⟩
  bnd := fun _ _ _ _ _ _ _ _ _ _ => .of_eq rfl
abbrev it_UnknownName : Stmt := (clsBody (top 11)).getD 0 (.Pass ⟨0, 0, 0, 0⟩)
def x_UnknownName : XD := ⟨"UnknownName", "name", "name", false, "UnknownName.__init__", defArgs it_UnknownName, defBody it_UnknownName, defScope it_UnknownName, "KeyError", "LookupError.__new__", "KeyError.__init__", [.type "KeyError", .type "LookupError", .type "Exception", .type "BaseException", .type "object"]⟩
theorem t_UnknownName (w : World) : x_UnknownName.Txt PySem.Challenge.pw_huebill_k01_whole_errors w where
  bs := xb_KeyError
  vn := by decide +kernel
  dbg := by decide +kernel
  top := by decide +kernel
  txt := ⟨fun i => ([⟨34, 8, 34, 13⟩, ⟨34, 8, 34, 15⟩, ⟨34, 8, 34, 24⟩, ⟨34, 8, 34, 48⟩, ⟨34, 8, 34, 48⟩, ⟨35, 8, 35, 12⟩, ⟨35, 8, 35, 17⟩, ⟨35, 20, 35, 24⟩, ⟨35, 8, 35, 24⟩] : List Pos).getD i ⟨0, 0, 0, 0⟩, ⟨33, 17, 33, 21⟩, ⟨33, 23, 33, 27⟩, .Constant (.str "nothing has the name") 0 ⟨34, 25, 34, 47⟩, rfl, rfl, PySem.HBX.msgOk_str, rfl⟩
  nms := by decide +kernel
  knd := ⟨rfl, rfl, rfl⟩
  bnd := fun _ _ _ _ _ _ _ _ _ _ => .of_eq rfl
abbrev it_TooMany : Stmt := (clsBody (top 12)).getD 0 (.Pass ⟨0, 0, 0, 0⟩)
def x_TooMany : XD := ⟨"TooMany", "limit", "limit", true, "TooMany.__init__", defArgs it_TooMany, defBody it_TooMany, defScope it_TooMany, "OverflowError", "OverflowError.__new__", "OverflowError.__init__", [.type "OverflowError", .type "ArithmeticError", .type "Exception", .type "BaseException", .type "object"]⟩
theorem t_TooMany (w : World) : x_TooMany.Txt PySem.Challenge.pw_huebill_k01_whole_errors w where
  bs := xb_OverflowError
  vn := by decide +kernel
  dbg := by decide +kernel
  top := by decide +kernel
  txt := ⟨fun i => ([⟨42, 8, 42, 13⟩, ⟨42, 8, 42, 15⟩, ⟨42, 8, 42, 24⟩, ⟨42, 8, 42, 52⟩, ⟨42, 8, 42, 52⟩, ⟨43, 8, 43, 12⟩, ⟨43, 8, 43, 18⟩, ⟨43, 21, 43, 26⟩, ⟨43, 8, 43, 26⟩] : List Pos).getD i ⟨0, 0, 0, 0⟩, ⟨41, 17, 41, 21⟩, ⟨41, 23, 41, 28⟩, msgOf (defBody it_TooMany), rfl, rfl, PySem.HBX.msgOk_f (by decide) (by decide), rfl⟩
  nms := by decide +kernel
  knd := ⟨rfl, rfl, rfl⟩
  bnd := fun _ _ _ _ _ _ _ _ _ _ => .of_eq rfl
abbrev it_NothingToUndo : Stmt := (clsBody (top 13)).getD 0 (.Pass ⟨0, 0, 0, 0⟩)
def x_NothingToUndo : XD := ⟨"NothingToUndo", "many", "many", true, "NothingToUndo.__init__", defArgs it_NothingToUndo, defBody it_NothingToUndo, defScope it_NothingToUndo, "LookupError", "LookupError.__new__", "LookupError.__init__", [.type "LookupError", .type "Exception", .type "BaseException", .type "object"]⟩
theorem t_NothingToUndo (w : World) : x_NothingToUndo.Txt PySem.Challenge.pw_huebill_k01_whole_errors w where
  bs := xb_LookupError
  vn := by decide +kernel
  dbg := by decide +kernel
  top := by decide +kernel
  txt := ⟨fun i => ([⟨47, 8, 47, 13⟩, ⟨47, 8, 47, 15⟩, ⟨47, 8, 47, 24⟩, ⟨47, 8, 47, 62⟩, ⟨47, 8, 47, 62⟩, ⟨48, 8, 48, 12⟩, ⟨48, 8, 48, 17⟩, ⟨48, 20, 48, 24⟩, ⟨48, 8, 48, 24⟩] : List Pos).getD i ⟨0, 0, 0, 0⟩, ⟨46, 17, 46, 21⟩, ⟨46, 23, 46, 27⟩, msgOf (defBody it_NothingToUndo), rfl, rfl, PySem.HBX.msgOk_f (by decide) (by decide), rfl⟩
  nms := by decide +kernel
  knd := ⟨rfl, rfl, rfl⟩
  bnd := fun _ _ _ _ _ _ _ _ _ _ => .of_eq rfl
abbrev it_Broken : Stmt := (clsBody (top 14)).getD 0 (.Pass ⟨0, 0, 0, 0⟩)
def x_Broken : XD := ⟨"Broken", "label", "label", true, "Broken.__init__", defArgs it_Broken, defBody it_Broken, defScope it_Broken, "ArithmeticError", "ArithmeticError.__new__", "ArithmeticError.__init__", [.type "ArithmeticError", .type "Exception", .type "BaseException", .type "object"]⟩
theorem t_Broken (w : World) : x_Broken.Txt PySem.Challenge.pw_huebill_k01_whole_errors w where
  bs := xb_ArithmeticError
  vn := by decide +kernel
  dbg := by decide +kernel
  top := by decide +kernel
  txt := ⟨fun i => ([⟨52, 8, 52, 13⟩, ⟨52, 8, 52, 15⟩, ⟨52, 8, 52, 24⟩, ⟨52, 8, 52, 63⟩, ⟨52, 8, 52, 63⟩, ⟨53, 8, 53, 12⟩, ⟨53, 8, 53, 18⟩, ⟨53, 21, 53, 26⟩, ⟨53, 8, 53, 26⟩] : List Pos).getD i ⟨0, 0, 0, 0⟩, ⟨51, 17, 51, 21⟩, ⟨51, 23, 51, 28⟩, msgOf (defBody it_Broken), rfl, rfl, PySem.HBX.msgOk_f (by decide) (by decide), rfl⟩
  nms := by decide +kernel
  knd := ⟨rfl, rfl, rfl⟩
  bnd := fun _ _ _ _ _ _ _ _ _ _ => .of_eq rfl
abbrev it_Spoiled : Stmt := (clsBody (top 15)).getD 0 (.Pass ⟨0, 0, 0, 0⟩)
def x_Spoiled : XD := ⟨"Spoiled", "group", "group", false, "Spoiled.__init__", defArgs it_Spoiled, defBody it_Spoiled, defScope it_Spoiled, "RuntimeError", "RuntimeError.__new__", "RuntimeError.__init__", [.type "RuntimeError", .type "Exception", .type "BaseException", .type "object"]⟩
theorem t_Spoiled (w : World) : x_Spoiled.Txt PySem.Challenge.pw_huebill_k01_whole_errors w where
  bs := xb_RuntimeError
  vn := by decide +kernel
  dbg := by decide +kernel
  top := by decide +kernel
  txt := ⟨fun i => ([⟨57, 8, 57, 13⟩, ⟨57, 8, 57, 15⟩, ⟨57, 8, 57, 24⟩, ⟨57, 8, 57, 50⟩, ⟨57, 8, 57, 50⟩, ⟨58, 8, 58, 12⟩, ⟨58, 8, 58, 18⟩, ⟨58, 21, 58, 26⟩, ⟨58, 8, 58, 26⟩] : List Pos).getD i ⟨0, 0, 0, 0⟩, ⟨56, 17, 56, 21⟩, ⟨56, 23, 56, 28⟩, .Constant (.str "a good web is expected") 0 ⟨57, 25, 57, 49⟩, rfl, rfl, PySem.HBX.msgOk_str, rfl⟩
  nms := by decide +kernel
  knd := ⟨rfl, rfl, rfl⟩
  bnd := fun _ _ _ _ _ _ _ _ _ _ => .of_eq rfl
def xs : List XD := [x_ParseError, x_InvalidNumber, x_UnknownName, x_TooMany, x_NothingToUndo, x_Broken, x_Spoiled]
def names0 : List PySem.Str := ["BillError", "InvalidName", "InvalidWeb", "InvalidGroup", "InvalidCharge", "InvalidOrder", "InvalidPlan", "InvalidOperation", "ParseError", "InvalidNumber", "UnknownName", "TooMany", "NothingToUndo", "Broken", "Spoiled", "_law_pot", "_law_stir", "_law_one_of", "_law_shuffled", "_law_made_one", "_law_sorts", "_law_kin", "_law_due", "_law_kept", "_law_due_kept", "_law_value_for", "_law_thrown", "_law_caught"]
def names : List PySem.Str := names0
abbrev R : PySem.W.OpenRow := PySem.W.OpenLaw.row PySem.Challenge.rw_huebill_k01_whole_errors
def hd : Hd := { gl := gl, fr := fr, tb := tb, xk := ["Broken", "InvalidCharge", "InvalidGroup", "InvalidName", "InvalidNumber", "InvalidOperation", "InvalidOrder", "InvalidPlan", "InvalidWeb", "NothingToUndo", "ParseError", "Spoiled", "TooMany", "UnknownName"], ms := [("InvalidNumber", "__str__"), ("UnknownName", "__str__")], fn := fn, xs := xs }
abbrev hk : PySem.W.Hook := hookX PySem.Challenge.pw_huebill_k01_whole_errors.main.file 5 hd
def ob (s : PySem.W.SharedT) : AlX := obsXG PySem.Challenge.pw_huebill_k01_whole_errors.main.file 5 hd (HandSHeadRun.getT s)
theorem ob_eq (s : PySem.W.SharedT) : ob s = hk.obs s.abs := obsXG_eq (HandSHeadRun.getT_eq s)
theorem run (w : World) : HandSHeadRun.RunEq R (PySem.W.view R.prog [30]) hk ob 4000 names w := by
  intro os
  kernel_rfl
abbrev AlH (w : World) (K : PySem.W.Frag) (mg : Str → Option Value) (h base : Heap) : Prop := Al PySem.Challenge.pw_huebill_k01_whole_errors w hd K mg h base
theorem good : hd.good = true := by decide +kernel
section
variable {w : World} {K : PySem.W.Frag} {mg : Str → Option Value} {h base : Heap}
theorem sc_law_pot : FnScope ["_law_script", "_law_at", "_law_cell", "_law_great", "_law_mixed"] ["_law_script", "_law_at"] (defScope st_law_pot) := ⟨rfl, rfl, rfl, by decide +kernel, rfl, by decide +kernel, by decide +kernel⟩
theorem k_law_pot : chkB ⟨["_law_script", "_law_at", "_law_cell", "_law_great", "_law_mixed"], defScope st_law_pot, none, [], [], tb⟩ b_law_pot (defBody st_law_pot) = true := by decide +kernel
theorem bd_law_pot : Bnd "_law_pot" "_law_pot" st_law_pot ["_law_script", "_law_at"] := fun _ _ _ _ _ _ us hl => match us, hl with | [_, _], _ => rfl
theorem c_law_pot (A : AlH w K mg h base) : Callee PySem.Challenge.pw_huebill_k01_whole_errors w K mg base 1 "_law_pot" 2 F_law_pot := callee_D A 0 rfl (by decide +kernel) sc_law_pot bd_law_pot (show Cals PySem.Challenge.pw_huebill_k01_whole_errors w K mg base 0 [] [] _ from trivial) k_law_pot
theorem sc_law_stir : FnScope ["_law_pot_here", "_law_total", "_law_one", "_law_two", "_law_found"] ["_law_pot_here", "_law_total"] (defScope st_law_stir) := ⟨rfl, rfl, rfl, by decide +kernel, rfl, by decide +kernel, by decide +kernel⟩
theorem k_law_stir : chkB ⟨["_law_pot_here", "_law_total", "_law_one", "_law_two", "_law_found"], defScope st_law_stir, none, [], [], tb⟩ b_law_stir (defBody st_law_stir) = true := by decide +kernel
theorem bd_law_stir : Bnd "_law_stir" "_law_stir" st_law_stir ["_law_pot_here", "_law_total"] := fun _ _ _ _ _ _ us hl => match us, hl with | [_, _], _ => rfl
theorem c_law_stir (A : AlH w K mg h base) : Callee PySem.Challenge.pw_huebill_k01_whole_errors w K mg base 1 "_law_stir" 2 F_law_stir := callee_D A 1 rfl (by decide +kernel) sc_law_stir bd_law_stir (show Cals PySem.Challenge.pw_huebill_k01_whole_errors w K mg base 0 [] [] _ from trivial) k_law_stir
theorem sc_law_shuffled : FnScope ["_law_pot_here", "_law_items", "_law_waits", "_law_turn"] ["_law_pot_here", "_law_items"] (defScope st_law_shuffled) := ⟨rfl, rfl, rfl, by decide +kernel, rfl, by decide +kernel, by decide +kernel⟩
theorem k_law_shuffled : chkB ⟨["_law_pot_here", "_law_items", "_law_waits", "_law_turn"], defScope st_law_shuffled, none, [("_law_stir", 2)], [], tb⟩ b_law_shuffled (defBody st_law_shuffled) = true := by decide +kernel
theorem bd_law_shuffled : Bnd "_law_shuffled" "_law_shuffled" st_law_shuffled ["_law_pot_here", "_law_items"] := fun _ _ _ _ _ _ us hl => match us, hl with | [_, _], _ => rfl
theorem c_law_shuffled (A : AlH w K mg h base) : Callee PySem.Challenge.pw_huebill_k01_whole_errors w K mg base 2 "_law_shuffled" 2 F_law_shuffled := callee_D A 2 rfl (by decide +kernel) sc_law_shuffled bd_law_shuffled (show Cals PySem.Challenge.pw_huebill_k01_whole_errors w K mg base 1 [("_law_stir", 2)] [] _ from ⟨⟨1, by decide, c_law_stir A⟩, trivial⟩) k_law_shuffled
theorem sc_law_one_of : FnScope ["_law_pot_here", "_law_items"] ["_law_pot_here", "_law_items"] (defScope st_law_one_of) := ⟨rfl, rfl, rfl, by decide +kernel, rfl, by decide +kernel, by decide +kernel⟩
theorem k_law_one_of : chkB ⟨["_law_pot_here", "_law_items"], defScope st_law_one_of, none, [("_law_stir", 2)], [], tb⟩ b_law_one_of (defBody st_law_one_of) = true := by decide +kernel
theorem bd_law_one_of : Bnd "_law_one_of" "_law_one_of" st_law_one_of ["_law_pot_here", "_law_items"] := fun _ _ _ _ _ _ us hl => match us, hl with | [_, _], _ => rfl
theorem c_law_one_of (A : AlH w K mg h base) : Callee PySem.Challenge.pw_huebill_k01_whole_errors w K mg base 2 "_law_one_of" 2 F_law_one_of := callee_D A 3 rfl (by decide +kernel) sc_law_one_of bd_law_one_of (show Cals PySem.Challenge.pw_huebill_k01_whole_errors w K mg base 1 [("_law_stir", 2)] [] _ from ⟨⟨1, by decide, c_law_stir A⟩, trivial⟩) k_law_one_of
theorem sc_law_value_for : FnScope ["_law_pot_here", "_law_lot"] ["_law_pot_here", "_law_lot"] (defScope st_law_value_for) := ⟨rfl, rfl, rfl, by decide +kernel, rfl, by decide +kernel, by decide +kernel⟩
theorem k_law_value_for : chkB ⟨["_law_pot_here", "_law_lot"], defScope st_law_value_for, none, [("_law_one_of", 2), ("_law_stir", 2)], [], tb⟩ b_law_value_for (defBody st_law_value_for) = true := by decide +kernel
theorem bd_law_value_for : Bnd "_law_value_for" "_law_value_for" st_law_value_for ["_law_pot_here", "_law_lot"] := fun _ _ _ _ _ _ us hl => match us, hl with | [_, _], _ => rfl
theorem c_law_value_for (A : AlH w K mg h base) : Callee PySem.Challenge.pw_huebill_k01_whole_errors w K mg base 3 "_law_value_for" 2 F_law_value_for := callee_D A 4 rfl (by decide +kernel) sc_law_value_for bd_law_value_for (show Cals PySem.Challenge.pw_huebill_k01_whole_errors w K mg base 2 [("_law_one_of", 2), ("_law_stir", 2)] [] _ from ⟨⟨2, by decide, c_law_one_of A⟩, ⟨⟨1, by decide, c_law_stir A⟩, trivial⟩⟩) k_law_value_for
theorem sc_law_made_one : FnScope ["_law_lot", "_law_value"] ["_law_lot", "_law_value"] (defScope st_law_made_one) := ⟨rfl, rfl, rfl, by decide +kernel, rfl, by decide +kernel, by decide +kernel⟩
theorem k_law_made_one : chkB ⟨["_law_lot", "_law_value"], defScope st_law_made_one, none, [], [], tb⟩ b_law_made_one (defBody st_law_made_one) = true := by decide +kernel
theorem bd_law_made_one : Bnd "_law_made_one" "_law_made_one" st_law_made_one ["_law_lot", "_law_value"] := fun _ _ _ _ _ _ us hl => match us, hl with | [_, _], _ => rfl
theorem c_law_made_one (A : AlH w K mg h base) : Callee PySem.Challenge.pw_huebill_k01_whole_errors w K mg base 1 "_law_made_one" 2 F_law_made_one := callee_D A 5 rfl (by decide +kernel) sc_law_made_one bd_law_made_one (show Cals PySem.Challenge.pw_huebill_k01_whole_errors w K mg base 0 [] [] _ from trivial) k_law_made_one
theorem sc_law_thrown : FnScope ["_law_lot", "_law_value"] ["_law_lot", "_law_value"] (defScope st_law_thrown) := ⟨rfl, rfl, rfl, by decide +kernel, rfl, by decide +kernel, by decide +kernel⟩
theorem k_law_thrown : chkB ⟨["_law_lot", "_law_value"], defScope st_law_thrown, none, [], [], tb⟩ b_law_thrown (defBody st_law_thrown) = true := by decide +kernel
theorem bd_law_thrown : Bnd "_law_thrown" "_law_thrown" st_law_thrown ["_law_lot", "_law_value"] := fun _ _ _ _ _ _ us hl => match us, hl with | [_, _], _ => rfl
theorem c_law_thrown (A : AlH w K mg h base) : Callee PySem.Challenge.pw_huebill_k01_whole_errors w K mg base 1 "_law_thrown" 2 F_law_thrown := callee_D A 6 rfl (by decide +kernel) sc_law_thrown bd_law_thrown (show Cals PySem.Challenge.pw_huebill_k01_whole_errors w K mg base 0 [] [] _ from trivial) k_law_thrown
theorem sc_law_caught : FnScope ["_law_lot", "_law_value"] ["_law_lot", "_law_value"] (defScope st_law_caught) := ⟨rfl, rfl, rfl, by decide +kernel, rfl, by decide +kernel, by decide +kernel⟩
theorem k_law_caught : chkB ⟨["_law_lot", "_law_value"], defScope st_law_caught, none, [("_law_thrown", 2)], [], tb⟩ b_law_caught (defBody st_law_caught) = true := by decide +kernel
theorem bd_law_caught : Bnd "_law_caught" "_law_caught" st_law_caught ["_law_lot", "_law_value"] := fun _ _ _ _ _ _ us hl => match us, hl with | [_, _], _ => rfl
theorem c_law_caught (A : AlH w K mg h base) : Callee PySem.Challenge.pw_huebill_k01_whole_errors w K mg base 2 "_law_caught" 2 F_law_caught := callee_D A 7 rfl (by decide +kernel) sc_law_caught bd_law_caught (show Cals PySem.Challenge.pw_huebill_k01_whole_errors w K mg base 1 [("_law_thrown", 2)] [] _ from ⟨⟨1, by decide, c_law_thrown A⟩, trivial⟩) k_law_caught
theorem sc_law_kin : FnScope ["_law_e", "_law_found"] ["_law_e"] (defScope st_law_kin) := ⟨rfl, rfl, rfl, by decide +kernel, rfl, by decide +kernel, by decide +kernel⟩
theorem k_law_kin : chkB ⟨["_law_e", "_law_found"], defScope st_law_kin, none, [], [], tb⟩ b_law_kin (defBody st_law_kin) = true := by decide +kernel
theorem bd_law_kin : Bnd "_law_kin" "_law_kin" st_law_kin ["_law_e"] := fun _ _ _ _ _ _ us hl => match us, hl with | [_], _ => rfl
theorem c_law_kin (A : AlH w K mg h base) : Callee PySem.Challenge.pw_huebill_k01_whole_errors w K mg base 1 "_law_kin" 1 F_law_kin := callee_D A 8 rfl (by decide +kernel) sc_law_kin bd_law_kin (show Cals PySem.Challenge.pw_huebill_k01_whole_errors w K mg base 0 [] [] _ from trivial) k_law_kin
theorem sc_law_sorts : FnScope ["_law_e", "_law_found"] ["_law_e"] (defScope st_law_sorts) := ⟨rfl, rfl, rfl, by decide +kernel, rfl, by decide +kernel, by decide +kernel⟩
theorem k_law_sorts : chkB ⟨["_law_e", "_law_found"], defScope st_law_sorts, none, [], [], tb⟩ b_law_sorts (defBody st_law_sorts) = true := by decide +kernel
theorem bd_law_sorts : Bnd "_law_sorts" "_law_sorts" st_law_sorts ["_law_e"] := fun _ _ _ _ _ _ us hl => match us, hl with | [_], _ => rfl
theorem c_law_sorts (A : AlH w K mg h base) : Callee PySem.Challenge.pw_huebill_k01_whole_errors w K mg base 1 "_law_sorts" 1 F_law_sorts := callee_D A 9 rfl (by decide +kernel) sc_law_sorts bd_law_sorts (show Cals PySem.Challenge.pw_huebill_k01_whole_errors w K mg base 0 [] [] _ from trivial) k_law_sorts
theorem sc_law_due : FnScope ["_law_lot", "_law_some", "_law_at"] ["_law_lot"] (defScope st_law_due) := ⟨rfl, rfl, rfl, by decide +kernel, rfl, by decide +kernel, by decide +kernel⟩
theorem k_law_due : chkB ⟨["_law_lot", "_law_some", "_law_at"], defScope st_law_due, none, [], [], tb⟩ b_law_due (defBody st_law_due) = true := by decide +kernel
theorem bd_law_due : Bnd "_law_due" "_law_due" st_law_due ["_law_lot"] := fun _ _ _ _ _ _ us hl => match us, hl with | [_], _ => rfl
theorem c_law_due (A : AlH w K mg h base) : Callee PySem.Challenge.pw_huebill_k01_whole_errors w K mg base 1 "_law_due" 1 F_law_due := callee_D A 10 rfl (by decide +kernel) sc_law_due bd_law_due (show Cals PySem.Challenge.pw_huebill_k01_whole_errors w K mg base 0 [] [] _ from trivial) k_law_due
theorem sc_InvalidNumber___str : FnScope ["self"] ["self"] (defScope st_InvalidNumber___str) := ⟨rfl, rfl, rfl, by decide +kernel, rfl, by decide +kernel, by decide +kernel⟩
theorem k_InvalidNumber___str : chkB ⟨["self"], defScope st_InvalidNumber___str, none, [], [], tb⟩ b_InvalidNumber___str (defBody st_InvalidNumber___str) = true := by decide +kernel
theorem bd_InvalidNumber___str : Bnd "__str__" "InvalidNumber.__str__" st_InvalidNumber___str ["self"] := fun _ _ _ _ _ _ us hl => match us, hl with | [_], _ => rfl
theorem c_InvalidNumber___str (A : AlH w K mg h base) : Mth PySem.Challenge.pw_huebill_k01_whole_errors w K mg base 3 "InvalidNumber" "__str__" 1 F_InvalidNumber___str := mth_D A 11 rfl (by decide +kernel) sc_InvalidNumber___str bd_InvalidNumber___str (show Cals PySem.Challenge.pw_huebill_k01_whole_errors w K mg base 0 [] [] _ from trivial) k_InvalidNumber___str
theorem sc_UnknownName___str : FnScope ["self"] ["self"] (defScope st_UnknownName___str) := ⟨rfl, rfl, rfl, by decide +kernel, rfl, by decide +kernel, by decide +kernel⟩
theorem k_UnknownName___str : chkB ⟨["self"], defScope st_UnknownName___str, none, [], [], tb⟩ b_UnknownName___str (defBody st_UnknownName___str) = true := by decide +kernel
theorem bd_UnknownName___str : Bnd "__str__" "UnknownName.__str__" st_UnknownName___str ["self"] := fun _ _ _ _ _ _ us hl => match us, hl with | [_], _ => rfl
theorem c_UnknownName___str (A : AlH w K mg h base) : Mth PySem.Challenge.pw_huebill_k01_whole_errors w K mg base 3 "UnknownName" "__str__" 1 F_UnknownName___str := mth_D A 12 rfl (by decide +kernel) sc_UnknownName___str bd_UnknownName___str (show Cals PySem.Challenge.pw_huebill_k01_whole_errors w K mg base 0 [] [] _ from trivial) k_UnknownName___str
theorem sc_law_kept : FnScope ["_law_lot", "_law_e"] ["_law_lot", "_law_e"] (defScope st_law_kept) := ⟨rfl, rfl, rfl, by decide +kernel, rfl, by decide +kernel, by decide +kernel⟩
theorem k_law_kept : chkB ⟨["_law_lot", "_law_e"], defScope st_law_kept, none, [], [("InvalidNumber", "__str__", 1), ("UnknownName", "__str__", 1)], tb⟩ b_law_kept (defBody st_law_kept) = true := by decide +kernel
theorem bd_law_kept : Bnd "_law_kept" "_law_kept" st_law_kept ["_law_lot", "_law_e"] := fun _ _ _ _ _ _ us hl => match us, hl with | [_, _], _ => rfl
theorem c_law_kept (A : AlH w K mg h base) : Callee PySem.Challenge.pw_huebill_k01_whole_errors w K mg base 4 "_law_kept" 2 F_law_kept := callee_D A 13 rfl (by decide +kernel) sc_law_kept bd_law_kept (show Cals PySem.Challenge.pw_huebill_k01_whole_errors w K mg base 3 [] [("InvalidNumber", "__str__", 1), ("UnknownName", "__str__", 1)] _ from ⟨⟨3, by decide, c_InvalidNumber___str A⟩, ⟨⟨3, by decide, c_UnknownName___str A⟩, trivial⟩⟩) k_law_kept
theorem sc_law_due_kept : FnScope ["_law_lot", "_law_value"] ["_law_lot", "_law_value"] (defScope st_law_due_kept) := ⟨rfl, rfl, rfl, by decide +kernel, rfl, by decide +kernel, by decide +kernel⟩
theorem k_law_due_kept : chkB ⟨["_law_lot", "_law_value"], defScope st_law_due_kept, none, [], [], tb⟩ b_law_due_kept (defBody st_law_due_kept) = true := by decide +kernel
theorem bd_law_due_kept : Bnd "_law_due_kept" "_law_due_kept" st_law_due_kept ["_law_lot", "_law_value"] := fun _ _ _ _ _ _ us hl => match us, hl with | [_, _], _ => rfl
theorem c_law_due_kept (A : AlH w K mg h base) : Callee PySem.Challenge.pw_huebill_k01_whole_errors w K mg base 1 "_law_due_kept" 2 F_law_due_kept := callee_D A 14 rfl (by decide +kernel) sc_law_due_kept bd_law_due_kept (show Cals PySem.Challenge.pw_huebill_k01_whole_errors w K mg base 0 [] [] _ from trivial) k_law_due_kept
theorem sc_law : FnScope ["_law_script", "_law_at", "_law_lot", "_law_pot_here", "_law_found", "_law_value", "_law_e"] ["_law_script"] (defScope st_law) := ⟨rfl, rfl, rfl, by decide +kernel, rfl, by decide +kernel, by decide +kernel⟩
theorem k_law : chkB ⟨["_law_script", "_law_at", "_law_lot", "_law_pot_here", "_law_found", "_law_value", "_law_e"], defScope st_law, none, [("_law_pot", 2), ("_law_shuffled", 2), ("_law_value_for", 2), ("_law_made_one", 2), ("_law_caught", 2), ("_law_kin", 1), ("_law_sorts", 1), ("_law_due", 1), ("_law_kept", 2), ("_law_due_kept", 2)], [], tb⟩ b_law (defBody st_law) = true := by decide +kernel
theorem bd_law : Bnd "law" "law" st_law ["_law_script"] := fun _ _ _ _ _ _ us hl => match us, hl with | [_], _ => rfl
theorem cs_law (A : AlH w K mg h base) : Cals PySem.Challenge.pw_huebill_k01_whole_errors w K mg base 4 [("_law_pot", 2), ("_law_shuffled", 2), ("_law_value_for", 2), ("_law_made_one", 2), ("_law_caught", 2), ("_law_kin", 1), ("_law_sorts", 1), ("_law_due", 1), ("_law_kept", 2), ("_law_due_kept", 2)] [] [F_law_pot, F_law_shuffled, F_law_value_for, F_law_made_one, F_law_caught, F_law_kin, F_law_sorts, F_law_due, F_law_kept, F_law_due_kept] := ⟨⟨1, by decide, c_law_pot A⟩, ⟨⟨2, by decide, c_law_shuffled A⟩, ⟨⟨3, by decide, c_law_value_for A⟩, ⟨⟨1, by decide, c_law_made_one A⟩, ⟨⟨2, by decide, c_law_caught A⟩, ⟨⟨1, by decide, c_law_kin A⟩, ⟨⟨1, by decide, c_law_sorts A⟩, ⟨⟨1, by decide, c_law_due A⟩, ⟨⟨4, by decide, c_law_kept A⟩, ⟨⟨1, by decide, c_law_due_kept A⟩, trivial⟩⟩⟩⟩⟩⟩⟩⟩⟩⟩
end
end K01
namespace K01
open PySem HB L2
theorem e_pot : F_law_pot = F_pot := rfl
theorem e_stir : F_law_stir = F_stir := rfl
theorem e_one : F_law_one_of = F_one_of := rfl
theorem e_shuf : F_law_shuffled = F_shuffled := rfl
/-- the error of a lot, made with a value -/
def nmOf : Nat → Str
  | 0 => "InvalidName" | 1 => "InvalidWeb" | 2 => "InvalidGroup" | 3 => "InvalidCharge" | 4 => "InvalidOrder" | 5 => "InvalidPlan" | 6 => "InvalidOperation"
  | 7 => "ParseError" | 8 => "InvalidNumber" | 9 => "UnknownName" | 10 => "TooMany" | 11 => "NothingToUndo" | 12 => "Broken" | _ => "Spoiled"
def fdOf : Nat → Str
  | 7 => "index" | 8 => "value" | 9 => "name" | 10 => "limit" | 11 => "many" | 12 => "label" | _ => "group"
def ex (i : Nat) (v : D) : D := if i < 7 then .exv (nmOf i) [] else .exv (nmOf i) [(fdOf i, v)]
def sorts (i : Nat) : D := .lst (((List.range 14).map fun j => D.bl (decide (j = i))) ++ [.bl (decide (i < 8))])
def kinOf : Nat → List Nat
  | 8 => [1, 2] | 9 => [1, 3] | 10 => [4, 5] | 11 => [1] | 12 => [4] | 13 => [6] | _ => [0]
def kins (i : Nat) : D := .lst ((List.range 8).map fun j => D.bl ((kinOf i).contains j))
theorem all14 {P : Nat → Prop} (h : P 0 ∧ P 1 ∧ P 2 ∧ P 3 ∧ P 4 ∧ P 5 ∧ P 6 ∧ P 7 ∧ P 8 ∧ P 9 ∧ P 10 ∧ P 11 ∧ P 12 ∧ P 13) : ∀ i : Nat, i < 14 → P i
  | 0, _ => h.1 | 1, _ => h.2.1 | 2, _ => h.2.2.1 | 3, _ => h.2.2.2.1 | 4, _ => h.2.2.2.2.1 | 5, _ => h.2.2.2.2.2.1 | 6, _ => h.2.2.2.2.2.2.1 | 7, _ => h.2.2.2.2.2.2.2.1 | 8, _ => h.2.2.2.2.2.2.2.2.1
  | 9, _ => h.2.2.2.2.2.2.2.2.2.1 | 10, _ => h.2.2.2.2.2.2.2.2.2.2.1 | 11, _ => h.2.2.2.2.2.2.2.2.2.2.2.1 | 12, _ => h.2.2.2.2.2.2.2.2.2.2.2.2.1 | 13, _ => h.2.2.2.2.2.2.2.2.2.2.2.2.2
  | _ + 14, hi => absurd hi (by omega)
theorem r_sorts (v : D) : ∀ i : Nat, i < 14 → F_law_sorts [ex i v] [] = .ok (sorts i) [] := all14 (by
  refine ⟨?_, ?_, ?_, ?_, ?_, ?_, ?_, ?_, ?_, ?_, ?_, ?_, ?_, ?_⟩ <;> kernel_rfl)
theorem r_kin (v : D) : ∀ i : Nat, i < 14 → F_law_kin [ex i v] [] = .ok (kins i) [] := all14 (by
  refine ⟨?_, ?_, ?_, ?_, ?_, ?_, ?_, ?_, ?_, ?_, ?_, ?_, ?_, ?_⟩ <;> kernel_rfl)
theorem r_due : ∀ i : Nat, i < 14 → F_law_due [.int (i : Int)] [] = .ok (.lst [sorts i, kins i]) [] := all14 (by
  refine ⟨?_, ?_, ?_, ?_, ?_, ?_, ?_, ?_, ?_, ?_, ?_, ?_, ?_, ?_⟩ <;> kernel_rfl)
theorem r_eq : ∀ i : Nat, i < 14 → ∀ m, copD .ne (.lst [sorts i, kins i]) (.lst [sorts i, kins i]) m = .ok (.bl false) m := fun i hi m => by
  have e : ∀ i : Nat, i < 14 → neD (.lst [sorts i, kins i]) (.lst [sorts i, kins i]) m = .ok (.bl false) m := all14 (by
    refine ⟨?_, ?_, ?_, ?_, ?_, ?_, ?_, ?_, ?_, ?_, ?_, ?_, ?_, ?_⟩ <;> kernel_rfl)
  exact e i hi
/-- the lots whose texts tell the value -/
def told (i : Nat) : Bool := i == 7 || i == 10 || i == 11 || i == 12
/-- a value that a lot may have -/
structure Val (i : Nat) (v : D) (x : Str) : Prop where
  rep : reprD [v] [] = .ok (.str x) []
  len : x.length ≤ 200000
  nor : noref v = true
  pv : told i = true → pvD true v = true
theorem mk7 {i : Nat} {v : D} (hp : pvD true v = true) : i = 7 ∨ i = 10 ∨ i = 11 ∨ i = 12 → F_law_made_one [.int (i : Int), v] [] = .ok (ex i v) [] := by
  unfold F_law_made_one runB b_law_made_one
  simp only [List.map_cons, List.map_nil, List.length_cons, List.length_nil, Nat.reduceAdd, Nat.reduceSub, List.replicate, List.cons_append, List.nil_append]
  have xn : ∀ (n f : Str), evE [] (.prm (.xnew n f true) (.cons (.var 1) .nil)) [some (.int (i : Int)), some v] [] = .ok (.exv n [(f, v)]) [] := fun n f => ev_prm (ev_cons (ev_var rfl) ev_nil) (by simp only [HB.prD, hp, if_true])
  rintro (rfl | rfl | rfl | rfl)
  · rw [st_ifF (ev_cmp (ev_var rfl) ev_int op_ltI) (by decide), st_ifF (ev_cmp (ev_var rfl) ev_int op_ltI) (by decide), st_ifT (ev_cmp (ev_var rfl) ev_int op_eqI) (by decide) (st_ret (xn _ _))]
    rfl
  · rw [st_ifF (ev_cmp (ev_var rfl) ev_int op_ltI) (by decide), st_ifF (ev_cmp (ev_var rfl) ev_int op_ltI) (by decide), st_ifF (ev_cmp (ev_var rfl) ev_int op_eqI) (by decide), st_ifF (ev_cmp (ev_var rfl) ev_int op_eqI) (by decide), st_ifF (ev_cmp (ev_var rfl) ev_int op_eqI) (by decide), st_ifT (ev_cmp (ev_var rfl) ev_int op_eqI) (by decide) (st_ret (xn _ _))]
    rfl
  · rw [st_ifF (ev_cmp (ev_var rfl) ev_int op_ltI) (by decide), st_ifF (ev_cmp (ev_var rfl) ev_int op_ltI) (by decide), st_ifF (ev_cmp (ev_var rfl) ev_int op_eqI) (by decide), st_ifF (ev_cmp (ev_var rfl) ev_int op_eqI) (by decide), st_ifF (ev_cmp (ev_var rfl) ev_int op_eqI) (by decide), st_ifF (ev_cmp (ev_var rfl) ev_int op_eqI) (by decide), st_ifT (ev_cmp (ev_var rfl) ev_int op_eqI) (by decide) (st_ret (xn _ _))]
    rfl
  · rw [st_ifF (ev_cmp (ev_var rfl) ev_int op_ltI) (by decide), st_ifF (ev_cmp (ev_var rfl) ev_int op_ltI) (by decide), st_ifF (ev_cmp (ev_var rfl) ev_int op_eqI) (by decide), st_ifF (ev_cmp (ev_var rfl) ev_int op_eqI) (by decide), st_ifF (ev_cmp (ev_var rfl) ev_int op_eqI) (by decide), st_ifF (ev_cmp (ev_var rfl) ev_int op_eqI) (by decide), st_ifF (ev_cmp (ev_var rfl) ev_int op_eqI) (by decide),
      st_ret (ev_ite (ev_cmp (ev_var rfl) ev_int op_eqI) (fun _ => xn _ _) (fun h => absurd h (by decide)))]
    rfl
theorem r_made (v : D) : ∀ i : Nat, i < 14 → (told i = true → pvD true v = true) → F_law_made_one [.int (i : Int), v] [] = .ok (ex i v) [] := all14 (by
  refine ⟨?_, ?_, ?_, ?_, ?_, ?_, ?_, ?_, ?_, ?_, ?_, ?_, ?_, ?_⟩ <;> intro hp <;> first
    | exact mk7 (hp (by decide)) (by decide)
    | kernel_rfl)
end K01
namespace K01
open PySem HB L2
/-! ### thrown and caught -/
theorem th (i : Nat) (v : D) (h : told i = true → pvD true v = true) (h7 : 7 ≤ i) (h14 : i < 14) : F_law_thrown [.int (i : Int), v] [] = .ex ⟨nmOf i, [(fdOf i, v)]⟩ [] := by
  have w : ∀ (n f : Str) (fl : Bool) (r : S), pvD fl v = true → evS [] (.cons (.rai n f fl (.var 1)) r) [some (.int (i : Int)), some v] [] = .ex ⟨n, [(f, v)]⟩ [some (.int (i : Int)), some v] [] := fun n f fl r hp => st_rai (ev_var rfl) hp
  unfold F_law_thrown runB b_law_thrown
  simp only [List.map_cons, List.map_nil, List.length_cons, List.length_nil, Nat.reduceAdd, Nat.reduceSub, List.replicate, List.cons_append, List.nil_append]
  match i, h7, h14, h, w with
  | 7, _, _, h, w => rw [st_ifX (ev_cmp (ev_var rfl) ev_int op_eqI) (by decide) (w _ _ _ _ (h rfl))]; rfl
  | 8, _, _, h, w => rw [st_ifF (ev_cmp (ev_var rfl) ev_int op_eqI) (by decide), st_ifX (ev_cmp (ev_var rfl) ev_int op_eqI) (by decide) (w _ _ _ _ rfl)]; rfl
  | 9, _, _, h, w => rw [st_ifF (ev_cmp (ev_var rfl) ev_int op_eqI) (by decide), st_ifF (ev_cmp (ev_var rfl) ev_int op_eqI) (by decide), st_ifX (ev_cmp (ev_var rfl) ev_int op_eqI) (by decide) (w _ _ _ _ rfl)]; rfl
  | 10, _, _, h, w => rw [st_ifF (ev_cmp (ev_var rfl) ev_int op_eqI) (by decide), st_ifF (ev_cmp (ev_var rfl) ev_int op_eqI) (by decide), st_ifF (ev_cmp (ev_var rfl) ev_int op_eqI) (by decide), st_ifX (ev_cmp (ev_var rfl) ev_int op_eqI) (by decide) (w _ _ _ _ (h rfl))]; rfl
  | 11, _, _, h, w => rw [st_ifF (ev_cmp (ev_var rfl) ev_int op_eqI) (by decide), st_ifF (ev_cmp (ev_var rfl) ev_int op_eqI) (by decide), st_ifF (ev_cmp (ev_var rfl) ev_int op_eqI) (by decide), st_ifF (ev_cmp (ev_var rfl) ev_int op_eqI) (by decide), st_ifX (ev_cmp (ev_var rfl) ev_int op_eqI) (by decide) (w _ _ _ _ (h rfl))]; rfl
  | 12, _, _, h, w => rw [st_ifF (ev_cmp (ev_var rfl) ev_int op_eqI) (by decide), st_ifF (ev_cmp (ev_var rfl) ev_int op_eqI) (by decide), st_ifF (ev_cmp (ev_var rfl) ev_int op_eqI) (by decide), st_ifF (ev_cmp (ev_var rfl) ev_int op_eqI) (by decide), st_ifF (ev_cmp (ev_var rfl) ev_int op_eqI) (by decide), st_ifX (ev_cmp (ev_var rfl) ev_int op_eqI) (by decide) (w _ _ _ _ (h rfl))]; rfl
  | 13, _, _, h, w => rw [st_ifF (ev_cmp (ev_var rfl) ev_int op_eqI) (by decide), st_ifF (ev_cmp (ev_var rfl) ev_int op_eqI) (by decide), st_ifF (ev_cmp (ev_var rfl) ev_int op_eqI) (by decide), st_ifF (ev_cmp (ev_var rfl) ev_int op_eqI) (by decide), st_ifF (ev_cmp (ev_var rfl) ev_int op_eqI) (by decide), st_ifF (ev_cmp (ev_var rfl) ev_int op_eqI) (by decide), w _ _ _ _ rfl]; rfl
theorem r_caught (i : Nat) (v : D) (h : told i = true → pvD true v = true) (hn : noref v = true) (h7 : 7 ≤ i) (h14 : i < 14) : F_law_caught [.int (i : Int), v] [] = .ok (.int (i : Int)) [] := by
  have ec := st_expX (fs := [F_law_thrown]) (r := .nil) (ev_call (fs := [F_law_thrown]) (j := 0) (ev_cons (ev_var (env := [some (.int (i : Int)), some v]) (i := 0) rfl) (ev_cons (ev_var (i := 1) rfl) ev_nil)) rfl (call_pure_ex (m := []) (by simp [norefL, noref, hn]) (th i v h h7 h14) (by simp [norefF, hn])))
  unfold F_law_caught runB b_law_caught
  simp only [List.map_cons, List.map_nil, List.length_cons, List.length_nil, Nat.reduceAdd, Nat.reduceSub, List.replicate, List.cons_append, List.nil_append]
  match i, h7, h14, ec with
  | 7, _, _, ec => rw [st_tryM (d := .int 7) (m3 := []) ec (by kernel_rfl)]; rfl
  | 8, _, _, ec => rw [st_tryM (d := .int 8) (m3 := []) ec (by kernel_rfl)]; rfl
  | 9, _, _, ec => rw [st_tryM (d := .int 9) (m3 := []) ec (by kernel_rfl)]; rfl
  | 10, _, _, ec => rw [st_tryM (d := .int 10) (m3 := []) ec (by kernel_rfl)]; rfl
  | 11, _, _, ec => rw [st_tryM (d := .int 11) (m3 := []) ec (by kernel_rfl)]; rfl
  | 12, _, _, ec => rw [st_tryM (d := .int 12) (m3 := []) ec (by kernel_rfl)]; rfl
  | 13, _, _, ec => rw [st_tryM (d := .int 13) (m3 := []) ec (by kernel_rfl)]; rfl
/-! ### what is kept -/
def keptS (i : Nat) (x : Str) : Str := if i < 7 then "" else if i = 8 ∨ i = 9 then x ++ " " ++ x else x
theorem add_s {x y : Str} {m : M} (h : x.length + y.length ≤ 1000000) : bopD .add (.str x) (.str y) m = .ok (.str (x ++ y)) m := by
  have : x.length + y.length ≤ sizeLine := by rw [sizeLine_eq]; omega
  simp only [bopD, addD, this, if_true]
theorem len_app (x y : Str) : (x ++ y).length = x.length + y.length := strLen_append x y
theorem len_sp : (Str.ofString " ").length = 1 := by decide +kernel
theorem r_due_kept {i : Nat} {v : D} {x : Str} (V : Val i v x) (h14 : i < 14) : F_law_due_kept [.int (i : Int), v] [] = .ok (.str (keptS i x)) [] := by
  have hr : evE [] (.blt .repr (.cons (.var 1) .nil)) [some (.int (i : Int)), some v] [] = .ok (.str x) [] := ev_blt (ev_cons (ev_var rfl) ev_nil) V.rep
  have h2 := V.len
  unfold F_law_due_kept runB b_law_due_kept
  simp only [List.map_cons, List.map_nil, List.length_cons, List.length_nil, Nat.reduceAdd, Nat.reduceSub, List.replicate, List.cons_append, List.nil_append]
  by_cases h7 : i < 7
  · rw [st_ifT (ev_cmp (ev_var rfl) ev_int op_ltI) (by simp; omega) (st_ret ev_str)]
    simp [keptS, h7]
  · have hin : evE [] (.cmp .inn (.var 0) (.tup (.cons (.int 8) (.cons (.int 9) .nil)))) [some (.int (i : Int)), some v] [] = .ok (.bl (decide (i = 8 ∨ i = 9))) [] := by
      refine ev_cmp (ev_var rfl) (ev_tup (ev_cons ev_int (ev_cons ev_int ev_nil)) (by decide)) ?_
      simp only [copD, inD, inB, viewQ, flatD, List.all_cons, List.all_nil, Bool.and_self, if_true, blR, List.any_cons, List.any_nil, eqF, Bool.or_false]
      congr 2
      rw [Bool.eq_iff_iff]
      simp
      omega
    rw [st_ifF (ev_cmp (ev_var rfl) ev_int op_ltI) (by simp; omega)]
    by_cases h8 : i = 8 ∨ i = 9
    · rw [st_ret (ev_ite hin (fun _ => ev_bin (ev_bin hr ev_str (add_s (by rw [len_sp]; omega))) hr (add_s (by rw [len_app, len_sp]; omega))) (fun h => absurd h8 (of_decide_eq_false h)))]
      simp [keptS, h7, h8]
    · rw [st_ret (ev_ite hin (fun h => absurd (of_decide_eq_true h) h8) (fun _ => hr))]
      simp [keptS, h7, h8]
theorem r_str8 {v : D} {x : Str} (V : reprD [v] [] = .ok (.str x) []) : F_InvalidNumber___str [.exv "InvalidNumber" [("value", v)]] [] = .ok (.str x) [] := by
  unfold F_InvalidNumber___str runB b_InvalidNumber___str
  simp only [List.map_cons, List.map_nil, List.length_cons, List.length_nil, Nat.reduceAdd, Nat.reduceSub, List.replicate, List.cons_append, List.nil_append]
  rw [st_ret (ev_blt (b := .repr) (ev_cons (ev_mth0 (ev_var rfl) rfl (show mrD _ _ _ _ _ = .ok v [] by kernel_rfl)) ev_nil) V)]
theorem r_str9 {v : D} {x : Str} (V : reprD [v] [] = .ok (.str x) []) : F_UnknownName___str [.exv "UnknownName" [("name", v)]] [] = .ok (.str x) [] := by
  unfold F_UnknownName___str runB b_UnknownName___str
  simp only [List.map_cons, List.map_nil, List.length_cons, List.length_nil, Nat.reduceAdd, Nat.reduceSub, List.replicate, List.cons_append, List.nil_append]
  rw [st_ret (ev_blt (b := .repr) (ev_cons (ev_mth0 (ev_var rfl) rfl (show mrD _ _ _ _ _ = .ok v [] by kernel_rfl)) ev_nil) V)]
theorem r_kept {i : Nat} {v : D} {x : Str} (V : Val i v x) (h14 : i < 14) : F_law_kept [.int (i : Int), ex i v] [] = .ok (.str (keptS i x)) [] := by
  have h2 := V.len
  have hr : ∀ (f : Str) (cs : List Str) (fs : List HB.Sem), mrD fs (.fldx f cs) (ex i v) [] [] = .ok v [] → evE fs (.blt .repr (.cons (.mth (.fldx f cs) (.var 1) .nil) .nil)) [some (.int (i : Int)), some (ex i v)] [] = .ok (.str x) [] :=
    fun f cs fs h => ev_blt (ev_cons (ev_mth0 (ev_var rfl) rfl h) ev_nil) V.rep
  have s8 : ∀ (m : M), strR (callD F_InvalidNumber___str [.exv "InvalidNumber" [("value", v)]] m) = .ok (.str x) m := fun m => by
    rw [call_pure (by simp [norefL, noref, norefF, V.nor]) (r_str8 V.rep) rfl]
    rfl
  have s9 : ∀ (m : M), strR (callD F_UnknownName___str [.exv "UnknownName" [("name", v)]] m) = .ok (.str x) m := fun m => by
    rw [call_pure (by simp [norefL, noref, norefF, V.nor]) (r_str9 V.rep) rfl]
    rfl
  have p8 : evE [F_InvalidNumber___str, F_UnknownName___str] (.prm (.strx [("InvalidNumber", 0), ("UnknownName", 1)]) (.cons (.var 1) .nil)) [some (.int ((8 : Nat) : Int)), some (ex 8 v)] [] = .ok (.str x) [] :=
    ev_prm (ds := [.exv "InvalidNumber" [("value", v)]]) (ev_cons (ev_var (by kernel_rfl)) ev_nil) ((by kernel_rfl : HB.prD [F_InvalidNumber___str, F_UnknownName___str] (.strx [("InvalidNumber", 0), ("UnknownName", 1)]) [.exv "InvalidNumber" [("value", v)]] [] = strR (callD F_InvalidNumber___str [.exv "InvalidNumber" [("value", v)]] [])).trans (s8 []))
  have p9 : evE [F_InvalidNumber___str, F_UnknownName___str] (.prm (.strx [("InvalidNumber", 0), ("UnknownName", 1)]) (.cons (.var 1) .nil)) [some (.int ((9 : Nat) : Int)), some (ex 9 v)] [] = .ok (.str x) [] :=
    ev_prm (ds := [.exv "UnknownName" [("name", v)]]) (ev_cons (ev_var (by kernel_rfl)) ev_nil) ((by kernel_rfl : HB.prD [F_InvalidNumber___str, F_UnknownName___str] (.strx [("InvalidNumber", 0), ("UnknownName", 1)]) [.exv "UnknownName" [("name", v)]] [] = strR (callD F_UnknownName___str [.exv "UnknownName" [("name", v)]] [])).trans (s9 []))
  unfold F_law_kept runB b_law_kept
  simp only [List.map_cons, List.map_nil, List.length_cons, List.length_nil, Nat.reduceAdd, Nat.reduceSub, List.replicate, List.cons_append, List.nil_append]
  by_cases h7 : i < 7
  · rw [st_ifT (ev_cmp (ev_var rfl) ev_int op_ltI) (by simp; omega) (st_ret ev_str)]
    simp [keptS, h7]
  rw [st_ifF (ev_cmp (ev_var rfl) ev_int op_ltI) (by simp; omega)]
  have h7' : 7 ≤ i := by omega
  clear h7
  match i, h7', h14, hr with
  | 7, _, _, hr => rw [st_ifT (ev_cmp (ev_var rfl) ev_int op_eqI) (by decide) (st_ret (hr _ _ _ (by kernel_rfl)))]; rfl
  | 8, _, _, hr =>
    rw [st_ifF (ev_cmp (ev_var rfl) ev_int op_eqI) (by decide), st_ifT (ev_cmp (ev_var rfl) ev_int op_eqI) (by decide) (st_ret (ev_bin (ev_bin (hr _ _ _ (by kernel_rfl)) ev_str (add_s (by rw [len_sp]; omega))) p8 (add_s (by rw [len_app, len_sp]; omega))))]
    rfl
  | 9, _, _, hr =>
    rw [st_ifF (ev_cmp (ev_var rfl) ev_int op_eqI) (by decide), st_ifF (ev_cmp (ev_var rfl) ev_int op_eqI) (by decide), st_ifT (ev_cmp (ev_var rfl) ev_int op_eqI) (by decide) (st_ret (ev_bin (ev_bin (hr _ _ _ (by kernel_rfl)) ev_str (add_s (by rw [len_sp]; omega))) p9 (add_s (by rw [len_app, len_sp]; omega))))]
    rfl
  | 10, _, _, hr => rw [st_ifF (ev_cmp (ev_var rfl) ev_int op_eqI) (by decide), st_ifF (ev_cmp (ev_var rfl) ev_int op_eqI) (by decide), st_ifF (ev_cmp (ev_var rfl) ev_int op_eqI) (by decide), st_ifT (ev_cmp (ev_var rfl) ev_int op_eqI) (by decide) (st_ret (hr _ _ _ (by kernel_rfl)))]; rfl
  | 11, _, _, hr => rw [st_ifF (ev_cmp (ev_var rfl) ev_int op_eqI) (by decide), st_ifF (ev_cmp (ev_var rfl) ev_int op_eqI) (by decide), st_ifF (ev_cmp (ev_var rfl) ev_int op_eqI) (by decide), st_ifF (ev_cmp (ev_var rfl) ev_int op_eqI) (by decide), st_ifT (ev_cmp (ev_var rfl) ev_int op_eqI) (by decide) (st_ret (hr _ _ _ (by kernel_rfl)))]; rfl
  | 12, _, _, hr => rw [st_ifF (ev_cmp (ev_var rfl) ev_int op_eqI) (by decide), st_ifF (ev_cmp (ev_var rfl) ev_int op_eqI) (by decide), st_ifF (ev_cmp (ev_var rfl) ev_int op_eqI) (by decide), st_ifF (ev_cmp (ev_var rfl) ev_int op_eqI) (by decide), st_ifF (ev_cmp (ev_var rfl) ev_int op_eqI) (by decide), st_ret (ev_ite (ev_cmp (ev_var rfl) ev_int op_eqI) (fun _ => hr _ _ _ (by kernel_rfl)) (fun h => absurd h (by decide)))]; rfl
  | 13, _, _, hr => rw [st_ifF (ev_cmp (ev_var rfl) ev_int op_eqI) (by decide), st_ifF (ev_cmp (ev_var rfl) ev_int op_eqI) (by decide), st_ifF (ev_cmp (ev_var rfl) ev_int op_eqI) (by decide), st_ifF (ev_cmp (ev_var rfl) ev_int op_eqI) (by decide), st_ifF (ev_cmp (ev_var rfl) ev_int op_eqI) (by decide), st_ret (ev_ite (ev_cmp (ev_var rfl) ev_int op_eqI) (fun h => absurd h (by decide)) (fun _ => hr _ _ _ (by kernel_rfl)))]; rfl
end K01
namespace K01
open PySem HB L2
theorem repr_len {n : Nat} (hn : n ≤ 2) {d : D} (h : small n d = true) (m : M) : ∃ s, reprD [d] m = .ok (.str s) m ∧ s.length ≤ 200000 := by
  obtain ⟨p, h1, h2⟩ := small_shw n d h
  have hl : smB n ≤ 200000 := by
    match n, hn with
    | 0, _ => decide
    | 1, _ => decide
    | 2, _ => decide
  have hs := h2.l
  obtain ⟨s, e⟩ := repr_small (Nat.le_trans hn (by decide)) h m
  refine ⟨s, e, ?_⟩
  have hr : pyRT d m = some p := by
    cases d <;> first | exact h1 | (cases n <;> simp [small] at h)
  unfold reprD at e
  simp only [hr] at e
  split at e
  · cases e
    omega
  · cases e
theorem val_small {i n : Nat} {v : D} (hn : n ≤ 2) (h : small n v = true) (hp : told i = true → pvD true v = true) : ∃ x, Val i v x := by
  obtain ⟨x, h1, h2⟩ := repr_len hn h []
  exact ⟨x, h1, h2, small_noref n v h, hp⟩
theorem in3 (i : Nat) (fs : List HB.Sem) (o : MO) : evE fs (.cmp .inn (.var 1) (.tup (.cons (.int 7) (.cons (.int 10) (.cons (.int 11) .nil))))) [some (.ref 0), some (.int (i : Int))] [o] = .ok (.bl (decide (i = 7 ∨ i = 10 ∨ i = 11))) [o] := by
  refine ev_cmp (ev_var rfl) (ev_tup (ev_cons ev_int (ev_cons ev_int (ev_cons ev_int ev_nil))) (by decide)) ?_
  simp only [copD, inD, inB, viewQ, flatD, List.all_cons, List.all_nil, Bool.and_self, if_true, blR, List.any_cons, List.any_nil, eqF, Bool.or_false]
  congr 2
  rw [Bool.eq_iff_iff]
  simp
  omega
theorem in2 (i : Nat) (fs : List HB.Sem) (o : MO) : evE fs (.cmp .inn (.var 1) (.tup (.cons (.int 8) (.cons (.int 9) .nil)))) [some (.ref 0), some (.int (i : Int))] [o] = .ok (.bl (decide (i = 8 ∨ i = 9))) [o] := by
  refine ev_cmp (ev_var rfl) (ev_tup (ev_cons ev_int (ev_cons ev_int ev_nil)) (by decide)) ?_
  simp only [copD, inD, inB, viewQ, flatD, List.all_cons, List.all_nil, Bool.and_self, if_true, blR, List.any_cons, List.any_nil, eqF, Bool.or_false]
  congr 2
  rw [Bool.eq_iff_iff]
  simp
  omega
theorem pow12 (m : M) : bopD .pow (.int 10) (.int 12) m = .ok (.int (10 ^ 12)) m := by
  simp only [bopD, powD]
  rw [if_pos (by decide +kernel)]
  rfl
theorem pow60 (m : M) : bopD .pow (.int 10) (.int 60) m = .ok (.int (10 ^ 60)) m := by
  simp only [bopD, powD]
  rw [if_pos (by decide +kernel)]
  rfl
theorem ev_slB {fs : List HB.Sem} {env : HB.Env} {m m1 m2 m3 : M} {a lo hi : T} {d : D} {v w : Int} {r : HB.R D} (ha : evE fs a env m = .ok d m1) (hn : isNoP lo = false) (hh : evE fs lo env m1 = .ok (.int v) m2) (hn2 : isNoP hi = false) (hh2 : evE fs hi env m2 = .ok (.int w) m3) (h : slD d (some v) (some w) m3 = r) : evE fs (.sl a lo hi) env m = r := by
  simp only [evE, ha, R.bind_ok, hn, hn2, Bool.false_eq_true, if_false, hh, hh2, partD, h]
def chars : List D := [.str "a", .str "b", .str "c", .str "d", .str "e", .str "f", .str "g", .str "h"]
theorem val_tup {a b : Int} (a0 : 0 ≤ a) (a1 : a < 2) (b0 : 0 ≤ b) (b1 : b < 4) : ∃ v x, (∀ m : M, (slD (.lst chars) (some a) (some (5 + b)) m).bind (fun d m => bfD .tuple [d] m) = .ok v m) ∧ Val 13 v x ∧ noref v = true := by
  have ha : a = 0 ∨ a = 1 := by omega
  have hb : b = 0 ∨ b = 1 ∨ b = 2 ∨ b = 3 := by omega
  have fin : ∀ (ds : List D) (ps : List PyData), (∀ m : M, (slD (.lst chars) (some a) (some (5 + b)) m).bind (fun d m => bfD .tuple [d] m) = .ok (.tup ds) m) → reprD [.tup ds] [] = .ok (.str (PyData.shown (.tuple ps))) [] → (PyData.shown (.tuple ps)).length ≤ 200000 → noref (.tup ds) = true →
      ∃ v x, (∀ m : M, (slD (.lst chars) (some a) (some (5 + b)) m).bind (fun d m => bfD .tuple [d] m) = .ok v m) ∧ Val 13 v x ∧ noref v = true := fun ds ps h1 h2 h3 h4 => ⟨_, _, h1, ⟨h2, h3, h4, fun h => absurd h (by decide)⟩, h4⟩
  have c : List PyData := [.str "a", .str "b", .str "c", .str "d", .str "e", .str "f", .str "g", .str "h"]
  rcases ha with rfl | rfl <;> rcases hb with rfl | rfl | rfl | rfl
  · exact fin (chars.take 5) (["a", "b", "c", "d", "e"].map fun s => .str (Str.ofString s)) (fun m => by kernel_rfl) (by kernel_rfl) (by decide +kernel) (by decide +kernel)
  · exact fin (chars.take 6) (["a", "b", "c", "d", "e", "f"].map fun s => .str (Str.ofString s)) (fun m => by kernel_rfl) (by kernel_rfl) (by decide +kernel) (by decide +kernel)
  · exact fin (chars.take 7) (["a", "b", "c", "d", "e", "f", "g"].map fun s => .str (Str.ofString s)) (fun m => by kernel_rfl) (by kernel_rfl) (by decide +kernel) (by decide +kernel)
  · exact fin chars (["a", "b", "c", "d", "e", "f", "g", "h"].map fun s => .str (Str.ofString s)) (fun m => by kernel_rfl) (by kernel_rfl) (by decide +kernel) (by decide +kernel)
  · exact fin ((chars.take 5).drop 1) (["b", "c", "d", "e"].map fun s => .str (Str.ofString s)) (fun m => by kernel_rfl) (by kernel_rfl) (by decide +kernel) (by decide +kernel)
  · exact fin ((chars.take 6).drop 1) (["b", "c", "d", "e", "f"].map fun s => .str (Str.ofString s)) (fun m => by kernel_rfl) (by kernel_rfl) (by decide +kernel) (by decide +kernel)
  · exact fin ((chars.take 7).drop 1) (["b", "c", "d", "e", "f", "g"].map fun s => .str (Str.ofString s)) (fun m => by kernel_rfl) (by kernel_rfl) (by decide +kernel) (by decide +kernel)
  · exact fin (chars.drop 1) (["b", "c", "d", "e", "f", "g", "h"].map fun s => .str (Str.ofString s)) (fun m => by kernel_rfl) (by kernel_rfl) (by decide +kernel) (by decide +kernel)
theorem r_value {i : Nat} (hi : i < 14) : PotFn F_law_value_for [.int (i : Int)] 2 (fun v => ∃ x, Val i v x) := by
  intro n o hp hn
  unfold F_law_value_for runB b_law_value_for
  rw [e_stir, e_one]
  simp only [List.map_cons, List.map_nil, List.length_cons, List.length_nil, Nat.reduceAdd, Nat.reduceSub, List.replicate, List.cons_append, List.nil_append]
  have FS : ∀ (t : Int) (e : T) (o : MO) (n : Nat), 0 < t → t.natAbs.log2 < 9000 → Pot n o → n + 1 ≤ 100000 → evE [F_one_of, F_stir] e [some (.ref 0), some (.int (i : Int))] [o] = .ok (.int t) [o] →
      ∃ v o2, evE [F_one_of, F_stir] (.call 1 (.cons (.var 0) (.cons e .nil))) [some (.ref 0), some (.int (i : Int))] [o] = .ok (.int v) [o2] ∧ Pot (n + 1) o2 ∧ 0 ≤ v ∧ v < t := by
    intro t e o n t0 tl hp hn he
    obtain ⟨d, o2, e1, p1, ⟨v, rfl, v0, v1⟩, _⟩ := (r_stir t0 tl).call rfl (m := [o]) (j := 0) rfl hp hn
    exact ⟨v, o2, ev_call (ev_cons (ev_var rfl) (ev_cons he ev_nil)) rfl e1, p1, v0, v1⟩
  by_cases h3 : i = 7 ∨ i = 10 ∨ i = 11
  · obtain ⟨v, o2, e1, p1, v0, v1⟩ := FS (10 ^ 12) (.bin .pow (.int 10) (.int 12)) o n (by decide) (by decide) hp (by omega) (ev_bin ev_int ev_int (pow12 _))
    obtain ⟨d, o3, e2, p2, q2, nr⟩ := (r_one_of_lst (ds := [.int 0, .int 1, .int 8, .int 60, .int v]) (by simp) (by simp) rfl (by simp [noref])).call rfl (m := [o2]) (j := 0) rfl p1 (by omega)
    rw [st_ifT (in3 i _ o) (by simp [h3]) (st_ret (ev_call (ev_cons (ev_var rfl) (ev_cons (ev_lst (ev_cons ev_int (ev_cons ev_int (ev_cons ev_int (ev_cons ev_int (ev_cons e1 ev_nil))))) (by simp)) ev_nil)) rfl e2))]
    have hz : ∃ z : Int, d = .int z ∧ 0 ≤ z ∧ z < 10 ^ 12 := by
      simp only [List.mem_cons, List.not_mem_nil, or_false] at q2
      rcases q2 with rfl | rfl | rfl | rfl | rfl
      · exact ⟨_, rfl, by decide, by decide⟩
      · exact ⟨_, rfl, by decide, by decide⟩
      · exact ⟨_, rfl, by decide, by decide⟩
      · exact ⟨_, rfl, by decide, by decide⟩
      · exact ⟨_, rfl, v0, v1⟩
    obtain ⟨z, rfl, z0, z1⟩ := hz
    have hz : z.natAbs.log2 < 1920 := Nat.lt_trans (log_big (Nat.lt_of_lt_of_le (by omega : z.natAbs < 10 ^ 12) (by decide +kernel))) (by decide)
    exact ⟨_, o3, [], rfl, p2, val_small (n := 0) (by decide) (by simp [small, hz]) (fun _ => by simp [pvD, hz]), rfl⟩
  · rw [st_ifF (in3 i _ o) (by simp [h3])]
    by_cases h2 : i = 8 ∨ i = 9
    · obtain ⟨v, o2, e1, p1, v0, v1⟩ := FS 99 (.int 99) o n (by decide) (by decide) hp (by omega) ev_int
      obtain ⟨d, o3, e2, p2, q2, nr⟩ := (r_one_of_lst (ds := [.non, .bl true, .int 0, .int (-7), .str "", .str "road", .str "it's", .tup [.int 1, .str "a"], .lst [.str "a"], .int (10 ^ 60 + v)]) (by simp) (by simp) rfl (by simp [noref, norefL])).call rfl (m := [o2]) (j := 0) rfl p1 (by omega)
      rw [st_ifT (in2 i _ o) (by simp [h2]) (st_ret (ev_call (ev_cons (ev_var rfl) (ev_cons (ev_lst (ev_cons ev_non (ev_cons ev_bl (ev_cons ev_int (ev_cons (ev_neg ev_int) (ev_cons ev_str (ev_cons ev_str (ev_cons ev_str (ev_cons (ev_tup (ev_cons ev_int (ev_cons ev_str ev_nil)) (by decide)) (ev_cons (ev_lst (ev_cons ev_str ev_nil) (by decide)) (ev_cons (ev_bin (ev_bin ev_int ev_int (pow60 _)) e1 op_ad) ev_nil)))))))))) (by simp)) ev_nil)) rfl e2))]
      refine ⟨_, o3, [], rfl, p2, ?_, nr⟩
      have nt : told i = true → pvD true d = true := fun h => by rcases h2 with rfl | rfl <;> exact absurd h (by decide)
      refine val_small (n := 1) (by decide) ?_ nt
      simp only [List.mem_cons, List.not_mem_nil, or_false] at q2
      rcases q2 with rfl | rfl | rfl | rfl | rfl | rfl | rfl | rfl | rfl | rfl
      all_goals first
        | (decide +kernel; done)
        | skip
      have hz : (10 ^ 60 + v).natAbs.log2 < 1920 := Nat.lt_trans (log_big (Nat.lt_of_lt_of_le (by omega : (10 ^ 60 + v).natAbs < 10 ^ 60 + 99) (by decide +kernel))) (by decide)
      exact decide_eq_true hz
    · rw [st_ifF (in2 i _ o) (by simp [h2])]
      by_cases h13 : i = 13
      · subst h13
        obtain ⟨a, o2, e1, p1, a0, a1⟩ := FS 2 (.int 2) o n (by decide) (by decide) hp (by omega) ev_int
        obtain ⟨b, o3, e2, p2, b0, b1⟩ := FS 4 (.int 4) o2 (n + 1) (by decide) (by decide) p1 (by omega) ev_int
        obtain ⟨v, x, hv, V, nr⟩ := val_tup a0 a1 b0 b1
        have hv3 := hv [o3]
        have hs : ∃ d, slD (.lst chars) (some a) (some (5 + b)) [o3] = .ok d [o3] ∧ bfD .tuple [d] [o3] = .ok v [o3] := by
          cases e : slD (.lst chars) (some a) (some (5 + b)) [o3] with
          | ok d m =>
            rw [e] at hv3
            have em : m = [o3] := by
              simp only [slD, viewS, viewL] at e
              cases e; rfl
            subst em
            exact ⟨d, rfl, hv3⟩
          | ex c m => rw [e] at hv3; cases hv3
          | no => rw [e] at hv3; cases hv3
        obtain ⟨d, s1, s2⟩ := hs
        have lst : evE [F_one_of, F_stir] (.mth .lstr (.str "abcdefgh") .nil) [some (.ref 0), some (.int ((13 : Nat) : Int))] [o] = .ok (.lst chars) [o] := ev_mth0 ev_str rfl (by kernel_rfl)
        rw [st_ifT (ev_cmp (ev_var rfl) ev_int op_eqI) (by decide) (st_ret (ev_blt (ev_cons (ev_slB lst rfl e1 rfl (ev_bin ev_int e2 op_ad) s1) ev_nil) s2))]
        exact ⟨_, o3, [], rfl, p2, ⟨x, V⟩, nr⟩
      · rw [st_ifF (ev_cmp (ev_var rfl) ev_int op_eqI) (by simp; omega)]
        obtain ⟨d, o3, e2, p2, q2, nr⟩ := (r_one_of_lst (ds := [.str "", .str "a message", .str "two words", .str "road", .str "rule"]) (by simp) (by decide) rfl (by simp [noref])).call rfl (m := [o]) (j := 0) rfl hp (by omega)
        rw [st_ret (ev_call (ev_cons (ev_var rfl) (ev_cons (ev_lst (ev_cons ev_str (ev_cons ev_str (ev_cons ev_str (ev_cons ev_str (ev_cons ev_str ev_nil))))) (by simp)) ev_nil)) rfl e2)]
        refine ⟨_, o3, [], rfl, p2.mono (by omega), ?_, nr⟩
        simp only [List.mem_cons, List.not_mem_nil, or_false] at q2
        have hs : small 0 d = true ∧ pvD true d = true := by
          rcases q2 with rfl | rfl | rfl | rfl | rfl <;> decide +kernel
        exact val_small (n := 0) (by decide) hs.1 (fun _ => hs.2)
end K01
namespace K01
open PySem HB L2
abbrev FS : List HB.Sem := [F_pot, F_shuffled, F_law_value_for, F_law_made_one, F_law_caught, F_law_kin, F_law_sorts, F_law_due, F_law_kept, F_law_due_kept]
/-- the first loop's body -/
def aBody : S := (.cons (.asg (.name 5) (.call 2 (.cons (.var 3) (.cons (.var 2) .nil))))
    (.cons (.app (.var 4) (.tup (.cons (.var 2) (.cons (.var 5) (.cons (.call 3 (.cons (.var 2) (.cons (.var 5) .nil))) .nil)))))
    (.cons (.ife (.and (.cmp .gt (.var 2) (.int 6)) (.cmp .ne (.call 4 (.cons (.var 2) (.cons (.var 5) .nil))) (.var 2))) (.cons (.ret (.bl false))
    .nil) .nil)
    .nil)))
def cBody : S := (.cons (.ife (.or (.cmp .ne (.lst (.cons (.call 6 (.cons (.var 6) .nil)) (.cons (.call 5 (.cons (.var 6) .nil)) .nil))) (.call 7 (.cons (.var 2) .nil))) (.cmp .ne (.call 8 (.cons (.var 2) (.cons (.var 6) .nil))) (.call 9 (.cons (.var 2) (.cons (.var 5) .nil))))) (.cons (.ret (.bl false))
    .nil) .nil)
    .nil)
def lBody : S := (.cons (.par 3 4 (.call 0 (.cons (.var 0) (.cons (.var 1) .nil))) (.lstM .nil))
    (.cons (.fr (.name 2) (.call 1 (.cons (.var 3) (.cons (.mth .lrng (.int 14) .nil) .nil))) aBody)
    (.cons (.frz 4)
    (.cons (.fr (.tup (.cons (.name 2) (.cons (.name 5) (.cons (.name 6) .nil)))) (.var 4) cBody)
    .nil))))
theorem b_law_eq : b_law = (.cons (.fr (.name 1) (.rng1 (.blt .max (.cons (.int 1) (.cons (.blt .min (.cons (.int 2) (.cons (.blt .len (.cons (.var 0) .nil)) .nil))) .nil)))) lBody) (.cons (.ret (.bl true)) .nil)) := rfl
/-- a row of the found ones -/
def Row (d : D) : Prop := ∃ (i : Nat) (v : D) (x : Str), d = .tup [.int (i : Int), v, ex i v] ∧ i < 14 ∧ Val i v x
theorem ex_noref {i : Nat} {v : D} (h : noref v = true) : noref (ex i v) = true := by
  unfold ex
  split <;> simp [noref, norefF, h]
/-- one turn of the first loop; the pot stands at j, the list at j + 1 -/
theorem a_step {env : HB.Env} {m : M} {o : MO} {n i : Nat} {rows : List D} (hl : env.length = 7) (h3 : env[3]? = some (some (.ref m.length))) (h4 : env[4]? = some (some (.ref (m.length + 1)))) (hp : Pot n o) (hn : n + 2 ≤ 100000) (hi : i < 14) (hr : rows.length ≤ 1000) :
    ∃ v x o2, Val i v x ∧ Pot (n + 2) o2 ∧ evS FS aBody (env.set 2 (some (.int (i : Int)))) (m ++ [o, .lst rows]) = .nx ((env.set 2 (some (.int (i : Int)))).set 5 (some v)) (m ++ [o2, .lst (rows ++ [.tup [.int (i : Int), v, ex i v]])]) := by
  have g0 : (m ++ [o, .lst rows])[m.length]? = some o := by simp
  have g1 : ∀ o2 : MO, (m ++ [o2, .lst rows])[m.length + 1]? = some (.lst rows) := fun o2 => by rw [List.getElem?_append_right (by omega)]; simp
  obtain ⟨v, o2, e1, p1, ⟨x, V⟩, nr⟩ := (r_value hi).call rfl (m := m ++ [o, .lst rows]) (j := m.length) g0 hp hn
  have es : (m ++ [o, .lst rows]).set m.length o2 = m ++ [o2, .lst rows] := by rw [List.set_append_right _ _ (Nat.le_refl _)]; simp
  rw [es] at e1
  refine ⟨v, x, o2, V, p1, ?_⟩
  have k2 : (env.set 2 (some (.int (i : Int))))[2]? = some (some (.int (i : Int))) := has_self (by omega)
  have k3 : (env.set 2 (some (.int (i : Int))))[3]? = some (some (.ref m.length)) := has_ne h3 (by decide)
  unfold aBody
  rw [st_asg1 (ev_call (ev_cons (ev_var k3) (ev_cons (ev_var k2) ev_nil)) rfl e1)]
  generalize hE : ((env.set 2 (some (.int (i : Int)))).set 5 (some v)) = E
  have q2 : E[2]? = some (some (.int (i : Int))) := by rw [← hE]; exact has_ne k2 (by decide)
  have q4 : E[4]? = some (some (.ref (m.length + 1))) := by rw [← hE]; exact has_ne (has_ne h4 (by decide)) (by decide)
  have q5 : E[5]? = some (some v) := by rw [← hE]; exact has_self (by simp [hl])
  have em : ∀ m', evE FS (.call 3 (.cons (.var 2) (.cons (.var 5) .nil))) E m' = .ok (ex i v) m' := fun m' => ev_call (ev_cons (ev_var q2) (ev_cons (ev_var q5) ev_nil)) rfl (call_pure (by simp [norefL, noref, nr]) (r_made v i hi V.pv) (ex_noref nr))
  have et := ev_tup (fs := FS) (ev_cons (ev_var q2) (ev_cons (ev_var q5) (ev_cons (em (m ++ [o2, .lst rows])) ev_nil))) (by simp)
  have ea : evS FS (.cons (.app (.var 4) (.tup (.cons (.var 2) (.cons (.var 5) (.cons (.call 3 (.cons (.var 2) (.cons (.var 5) .nil))) .nil)))))
    (.cons (.ife (.and (.cmp .gt (.var 2) (.int 6)) (.cmp .ne (.call 4 (.cons (.var 2) (.cons (.var 5) .nil))) (.var 2))) (.cons (.ret (.bl false)) .nil) .nil) .nil)) E (m ++ [o2, .lst rows]) =
      evS FS (.cons (.ife (.and (.cmp .gt (.var 2) (.int 6)) (.cmp .ne (.call 4 (.cons (.var 2) (.cons (.var 5) .nil))) (.var 2))) (.cons (.ret (.bl false)) .nil) .nil) .nil) E (m ++ [o2, .lst (rows ++ [.tup [.int (i : Int), v, ex i v]])]) := by
    refine st_app (ev_var q4) (by simp only [isLst, g1]) et ?_
    simp only [appD, g1]
    rw [if_pos (by rw [sizeLine_eq]; omega)]
    congr 1
    rw [List.set_append_right _ _ (by omega)]
    simp
  rw [ea]
  have ec : evE FS (.and (.cmp .gt (.var 2) (.int 6)) (.cmp .ne (.call 4 (.cons (.var 2) (.cons (.var 5) .nil))) (.var 2))) E (m ++ [o2, .lst (rows ++ [.tup [.int (i : Int), v, ex i v]])]) = .ok (.bl false) (m ++ [o2, .lst (rows ++ [.tup [.int (i : Int), v, ex i v]])]) := by
    have z := ev_and (fs := FS) (x := decide ((6 : Int) < (i : Int))) (y := false) (ev_cmp (ev_var q2) ev_int op_gtI) (b := .cmp .ne (.call 4 (.cons (.var 2) (.cons (.var 5) .nil))) (.var 2)) (m1 := m ++ [o2, .lst (rows ++ [.tup [.int (i : Int), v, ex i v]])]) (fun h => by
      have h6 : 7 ≤ i := by have := of_decide_eq_true h; omega
      exact ev_cmp (ev_call (ev_cons (ev_var q2) (ev_cons (ev_var q5) ev_nil)) rfl (call_pure (by simp [norefL, noref, nr]) (r_caught i v V.pv nr h6 hi) rfl)) (ev_var q2) (by rw [op_neI]; simp))
    rw [Bool.and_false] at z
    exact z
  rw [st_ifF ec rfl, st_nil]
theorem c_step {env : HB.Env} {m : M} {i : Nat} {v : D} {x : Str} (hl : env.length = 7) (hi : i < 14) (V : Val i v x) : ∃ e2, evS FS cBody (((env.set 2 (some (.int (i : Int)))).set 5 (some v)).set 6 (some (ex i v))) m = .nx e2 m ∧ e2 = ((env.set 2 (some (.int (i : Int)))).set 5 (some v)).set 6 (some (ex i v)) := by
  refine ⟨_, ?_, rfl⟩
  generalize hE : ((env.set 2 (some (.int (i : Int)))).set 5 (some v)).set 6 (some (ex i v)) = E
  have q2 : E[2]? = some (some (.int (i : Int))) := by rw [← hE]; exact has_ne (has_ne (has_self (by omega)) (by decide)) (by decide)
  have q5 : E[5]? = some (some v) := by rw [← hE]; exact has_ne (has_self (by simp [hl])) (by decide)
  have q6 : E[6]? = some (some (ex i v)) := by rw [← hE]; exact has_self (by simp [hl])
  have nr := V.nor
  have nx := ex_noref (i := i) nr
  have dn : noref (sorts i) = true ∧ noref (kins i) = true := (all14 (P := fun i => noref (sorts i) = true ∧ noref (kins i) = true) (by decide +kernel)) i hi
  have c1 : evE FS (.lst (.cons (.call 6 (.cons (.var 6) .nil)) (.cons (.call 5 (.cons (.var 6) .nil)) .nil))) E m = .ok (.lst [sorts i, kins i]) m :=
    ev_lst (ev_cons (ev_call (ev_cons (ev_var q6) ev_nil) rfl (call_pure (by simp [norefL, nx]) (r_sorts v i hi) dn.1)) (ev_cons (ev_call (ev_cons (ev_var q6) ev_nil) rfl (call_pure (by simp [norefL, nx]) (r_kin v i hi) dn.2)) ev_nil)) (by simp)
  have c2 : evE FS (.call 7 (.cons (.var 2) .nil)) E m = .ok (.lst [sorts i, kins i]) m := ev_call (ev_cons (ev_var q2) ev_nil) rfl (call_pure rfl (r_due i hi) (by simp [noref, norefL, dn.1, dn.2]))
  have c3 : evE FS (.call 8 (.cons (.var 2) (.cons (.var 6) .nil))) E m = .ok (.str (keptS i x)) m := ev_call (ev_cons (ev_var q2) (ev_cons (ev_var q6) ev_nil)) rfl (call_pure (by simp [norefL, noref, nx]) (r_kept V hi) rfl)
  have c4 : evE FS (.call 9 (.cons (.var 2) (.cons (.var 5) .nil))) E m = .ok (.str (keptS i x)) m := ev_call (ev_cons (ev_var q2) (ev_cons (ev_var q5) ev_nil)) rfl (call_pure (by simp [norefL, noref, nr]) (r_due_kept V hi) rfl)
  unfold cBody
  rw [st_ifF (x := false || false) (ev_or (y := false) (ev_cmp c1 c2 (r_eq i hi m)) (fun _ => ev_cmp c3 c4 (by rw [op_neS]; simp))) rfl, st_nil]
end K01
namespace K01
open PySem HB L2
def lots : List D := (List.range 14).map fun (i : Nat) => D.int (i : Int)
theorem l_step {env : HB.Env} {m : M} {ns : List Int} {at_ : Int} (hl : env.length = 7) (h0 : env[0]? = some (some (.scr ns))) (h1 : env[1]? = some (some (.int at_))) (a0 : 0 ≤ at_) (a1 : at_ ≤ 1000) :
    ∃ e2 m2, evS FS lBody env m = .nx e2 m2 ∧ e2.length = 7 ∧ e2[0]? = some (some (.scr ns)) := by
  obtain ⟨o, eo, po⟩ := r_pot (ns := ns) a0 a1
  have ep : callD F_pot [.scr ns, .int at_] m = .ok (.ref m.length) (m ++ [o]) := call_new rfl eo po.noref
  have el : evE FS (.lstM .nil) env (m ++ [o]) = .ok (.ref (m.length + 1)) (m ++ [o, .lst []]) := by
    rw [ev_lstM (ds := []) ev_nil (by simp)]
    simp
  unfold lBody
  rw [st_par (ev_call (ev_cons (ev_var h0) (ev_cons (ev_var h1) ev_nil)) rfl ep) el]
  generalize hE : (env.set 3 (some (.ref m.length))).set 4 (some (.ref (m.length + 1))) = E
  have El : E.length = 7 := by rw [← hE]; simp [hl]
  have E0 : E[0]? = some (some (.scr ns)) := by rw [← hE]; exact has_ne (has_ne h0 (by decide)) (by decide)
  have E3 : E[3]? = some (some (.ref m.length)) := by rw [← hE]; exact has_ne (has_self (by omega)) (by decide)
  have E4 : E[4]? = some (some (.ref (m.length + 1))) := by rw [← hE]; exact has_self (by simp [hl])
  have lr : evE FS (.mth .lrng (.int 14) .nil) E (m ++ [o, .lst []]) = .ok (.lst lots) (m ++ [o, .lst []]) := ev_mth0 ev_int rfl (by kernel_rfl)
  obtain ⟨d, o2, e2, p2, ⟨ys, rfl, pm⟩, _⟩ := (r_shuffled (d := .lst lots) (.inl rfl) (by decide) (by decide +kernel)).call (by decide +kernel) (m := m ++ [o, .lst []]) (j := m.length) (by simp) po (by decide)
  have es : (m ++ [o, .lst []]).set m.length o2 = m ++ [o2, .lst []] := by rw [List.set_append_right _ _ (Nat.le_refl _)]; simp
  rw [es] at e2
  have hy : ∀ y ∈ ys, ∃ i : Nat, y = .int (i : Int) ∧ i < 14 := fun y h => by
    obtain ⟨i, hi, rfl⟩ := List.mem_map.mp (pm.mem_iff.mp h)
    exact ⟨i, rfl, List.mem_range.mp hi⟩
  have hyl : ys.length = 14 := pm.length_eq.trans (by decide)
  obtain ⟨e3, m3, q3, ⟨o3, rows, l3, f0, f3, f4, rfl, p3, r3, w3⟩⟩ := for_inv (step := frStep FS (.name 2) aBody) (fun k e mm => ∃ (o : MO) (rows : List D), e.length = 7 ∧ e[0]? = some (some (.scr ns)) ∧ e[3]? = some (some (.ref m.length)) ∧ e[4]? = some (some (.ref (m.length + 1))) ∧ mm = m ++ [o, .lst rows] ∧ Pot (14 + 2 * k) o ∧ rows.length = k ∧ ∀ r ∈ rows, Row r)
    (xs := ys) (env := E) (m := m ++ [o2, .lst []]) (n := 0) ⟨o2, [], El, E0, E3, E4, rfl, by simpa [lots] using p2, rfl, by simp⟩ (by
      rintro x hx k e mm hk ⟨o, rows, l, g0, g3, g4, rfl, hp, hr, hw⟩
      obtain ⟨i, rfl, hi⟩ := hy x hx
      obtain ⟨v, xx, o', V, p', e'⟩ := a_step (env := e) (m := m) (rows := rows) l g3 g4 hp (by omega) hi (by omega)
      refine ⟨(e.set 2 (some (.int (i : Int)))).set 5 (some v), m ++ [o', .lst (rows ++ [.tup [.int (i : Int), v, ex i v]])], ?_, o', rows ++ [.tup [.int (i : Int), v, ex i v]], ?_, ?_, ?_, ?_, rfl, p', ?_, ?_⟩
      · unfold frStep
        simp only [asgG]
        exact e'
      · simp [l]
      · exact has_ne (has_ne g0 (by decide)) (by decide)
      · exact has_ne (has_ne g3 (by decide)) (by decide)
      · exact has_ne (has_ne g4 (by decide)) (by decide)
      · simp [hr]
      · intro r hr'
        rcases List.mem_append.mp hr' with z | z
        · exact hw r z
        · rw [List.mem_singleton.mp z]
          exact ⟨i, v, xx, rfl, hi, V⟩)
  rw [st_fr (ev_call (ev_cons (ev_var E3) (ev_cons lr ev_nil)) rfl e2) (show viewI (.lst ys) _ = some ys from rfl) q3]
  have gz : (m ++ [o3, .lst rows])[m.length + 1]? = some (.lst rows) := by rw [List.getElem?_append_right (by omega)]; simp
  rw [st_frz (env2 := e3.set 4 (some (.lst rows))) (m2 := (m ++ [o3, .lst rows]).set (m.length + 1) .gone) (by simp only [frzD, f4, gz])]
  obtain ⟨e4, m4, q4, ⟨l4, g40⟩⟩ := for_inv (step := frStep FS (.tup (.cons (.name 2) (.cons (.name 5) (.cons (.name 6) .nil)))) cBody) (fun k e mm => e.length = 7 ∧ e[0]? = some (some (.scr ns)))
    (xs := rows) (env := e3.set 4 (some (.lst rows))) (m := (m ++ [o3, .lst rows]).set (m.length + 1) .gone) (n := 0) ⟨by simp [l3], has_ne f0 (by decide)⟩ (by
      rintro x hx k e mm hk ⟨l, g0⟩
      obtain ⟨i, v, xx, rfl, hi, V⟩ := w3 x hx
      obtain ⟨e', q', ee⟩ := c_step (env := e) (m := mm) l hi V
      refine ⟨e', mm, ?_, ?_, ?_⟩
      · unfold frStep
        simp only [asgG, asgGs]
        exact q'
      · rw [ee]; simp [l]
      · rw [ee]; exact has_ne (has_ne (has_ne g0 (by decide)) (by decide)) (by decide))
  rw [st_fr (ev_var (has_self (by omega))) (show viewI (.lst rows) _ = some rows from rfl) q4, st_nil]
  exact ⟨e4, m4, rfl, l4, g40⟩
theorem law_true : ∀ ns : List Int, ns.length ≤ 63 → (∀ z ∈ ns, Builtin.Int.intBits z ≤ 1048576) → ∃ m, F_law [.scr ns] [] = .ok (.bl true) m := by
  intro ns hl _
  have ef : F_law = runB FS 7 b_law := rfl
  rw [ef, b_law_eq]
  unfold runB
  simp only [List.map_cons, List.map_nil, List.length_cons, List.length_nil, Nat.reduceAdd, Nat.reduceSub, List.replicate, List.cons_append, List.nil_append]
  have it : ∃ j : Int, evE FS (.rng1 (.blt .max (.cons (.int 1) (.cons (.blt .min (.cons (.int 2) (.cons (.blt .len (.cons (.var 0) .nil)) .nil))) .nil)))) [some (.scr ns), none, none, none, none, none, none] [] = .ok (.lst ((List.range j.toNat).map fun (i : Nat) => D.int (i : Int))) [] ∧ j ≤ 2 := by
    have q : evE FS (.blt .max (.cons (.int 1) (.cons (.blt .min (.cons (.int 2) (.cons (.blt .len (.cons (.var 0) .nil)) .nil))) .nil))) [some (.scr ns), none, none, none, none, none, none] [] = .ok (.int (if (if ((ns.map D.int).length : Int) < 2 then ((ns.map D.int).length : Int) else 2) > 1 then (if ((ns.map D.int).length : Int) < 2 then ((ns.map D.int).length : Int) else 2) else 1)) [] :=
      ev_blt (b := .max) (ev_cons ev_int (ev_cons (ev_blt (b := .min) (ev_cons ev_int (ev_cons (ev_blt (b := .len) (ev_cons (ev_var rfl) ev_nil) rfl) ev_nil)) rfl) ev_nil)) rfl
    have b : ∀ k : Int, 0 ≤ k → (if (if k < 2 then k else 2) > 1 then (if k < 2 then k else 2) else 1) ≤ 2 ∧ 1 ≤ (if (if k < 2 then k else 2) > 1 then (if k < 2 then k else 2) else 1) := by
      intro k hk
      split <;> split <;> omega
    have b2 := b ((ns.map D.int).length : Int) (by omega)
    exact ⟨_, ev_rng1 q (by omega) (by omega), b2.1⟩
  obtain ⟨j, e1, hj⟩ := it
  obtain ⟨e2, m2, q2, _⟩ := for_inv (step := frStep FS (.name 1) lBody) (fun k e mm => e.length = 7 ∧ e[0]? = some (some (.scr ns)))
    (xs := (List.range j.toNat).map fun (i : Nat) => D.int (i : Int)) (env := [some (.scr ns), none, none, none, none, none, none]) (m := []) (n := 0) ⟨rfl, rfl⟩ (by
      rintro x hx k e mm hk ⟨l, g0⟩
      obtain ⟨i, hi, rfl⟩ := List.mem_map.mp hx
      have hi2 := List.mem_range.mp hi
      obtain ⟨e', m', q', l', g'⟩ := l_step (env := e.set 1 (some (.int (i : Int)))) (m := mm) (at_ := (i : Int)) (by simp [l]) (has_ne g0 (by decide)) (has_self (by omega)) (by omega) (by omega)
      exact ⟨e', m', by unfold frStep; simp only [asgG]; exact q', l', g'⟩)
  rw [st_fr e1 rfl q2, st_ret ev_bl]
  exact ⟨_, rfl⟩
end K01
open PySem PySem.W PySem.Calls PyProof.Rows
theorem PySem.Challenge.cw_huebill_k01_whole_errors_holds : PySem.Challenge.rw_huebill_k01_whole_errors.Holds := by
  w_on; o_law
  refine HandSHeadRun.head_any (r := OpenLaw.row PySem.Challenge.rw_huebill_k01_whole_errors) (q := view (OpenLaw.row PySem.Challenge.rw_huebill_k01_whole_errors).prog [30]) (H := K01.hk) (ob := K01.ob) (M := 4000) (loose := K01.names) (d := HandSHeadRun.topDef (OpenLaw.row PySem.Challenge.rw_huebill_k01_whole_errors).prog 30) (kwd := []) K01.ob_eq
    (by kernel_rfl) (fun s => by kernel_rfl) K01.run (by kernel_rfl) (by kernel_rfl) (by kernel_rfl) (by rfl) (by first | assumption | decide +kernel) (by decide +kernel) ⟨rfl, rfl, rfl, rfl, rfl, by decide +kernel⟩ ?hw ?hc
  case hw => w_witness2
  case hc =>
    refine HB.walk_data (l := PySem.Challenge.rw_huebill_k01_whole_errors) (n := 63) (k := 5) (x := "_law_script") rfl (by decide) (by kernel_rfl) ⟨rfl, by decide, by decide⟩ ?F
    intro w mg fa h Y G hmg0
    obtain ⟨K, KX, c⟩ := Y
    have hmg : mg ("law" : PySem.Str) = some (.ref fa) := by
      have e : (HandSHeadRun.topDef (OpenLaw.row PySem.Challenge.rw_huebill_k01_whole_errors).prog 30).name = ("law" : PySem.Str) := by kernel_rfl
      rw [← e]
      exact hmg0
    obtain ⟨fd, F⟩ := c.def_ 15 (q := HB.dOf "law" K01.st_law) rfl
    have hx : ∀ x f fl, (x, f, fl) ∈ K01.hd.tb.xcs → HB.XOk PySem.Challenge.pw_huebill_k01_whole_errors w K mg x f fl := by
      intro x f fl hm
      simp only [K01.hd, K01.tb, K01.xcs, List.mem_cons, List.not_mem_nil, or_false, Prod.mk.injEq] at hm
      rcases hm with ⟨rfl, rfl, rfl⟩ | ⟨rfl, rfl, rfl⟩ | ⟨rfl, rfl, rfl⟩ | ⟨rfl, rfl, rfl⟩ | ⟨rfl, rfl, rfl⟩ | ⟨rfl, rfl, rfl⟩ | ⟨rfl, rfl, rfl⟩
      · exact c.cls (P := PySem.Challenge.pw_huebill_k01_whole_errors) KX G 0 (q := K01.x_ParseError) rfl (K01.t_ParseError w)
      · exact c.cls (P := PySem.Challenge.pw_huebill_k01_whole_errors) KX G 1 (q := K01.x_InvalidNumber) rfl (K01.t_InvalidNumber w)
      · exact c.cls (P := PySem.Challenge.pw_huebill_k01_whole_errors) KX G 2 (q := K01.x_UnknownName) rfl (K01.t_UnknownName w)
      · exact c.cls (P := PySem.Challenge.pw_huebill_k01_whole_errors) KX G 3 (q := K01.x_TooMany) rfl (K01.t_TooMany w)
      · exact c.cls (P := PySem.Challenge.pw_huebill_k01_whole_errors) KX G 4 (q := K01.x_NothingToUndo) rfl (K01.t_NothingToUndo w)
      · exact c.cls (P := PySem.Challenge.pw_huebill_k01_whole_errors) KX G 5 (q := K01.x_Broken) rfl (K01.t_Broken w)
      · exact c.cls (P := PySem.Challenge.pw_huebill_k01_whole_errors) KX G 6 (q := K01.x_Spoiled) rfl (K01.t_Spoiled w)
    have e := hmg.symm.trans (He.glo_ok KX G (c.fact (f := .glo "law") (by simp [HB.Hd.fa, K01.hd, K01.gl])))
    cases e
    exact ⟨K, fd, _, KX, fun s u => L2.FunD.bindsA (ps := ["_law_script"]) F K01.bd_law s [u] rfl, K01.law_true, fun base kb _ =>
      HB.law_D (HB.al_of (P := PySem.Challenge.pw_huebill_k01_whole_errors) KX G c kb K01.good hx) F K01.sc_law (K01.cs_law (HB.al_of (P := PySem.Challenge.pw_huebill_k01_whole_errors) KX G c kb K01.good hx)) K01.k_law⟩
