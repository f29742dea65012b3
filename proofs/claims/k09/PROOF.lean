import PyProof.Rows.All
import Wide.All
import OpenK.AllK
import Wide.FinOn
import HandS.ForMost
import HandS.ForExc
import HandS.IsInst
import HandS.Wide
import HandS.RaiseMore
import HandS.FStr
import HandS.CallSlots
import HandS.TupAny
import HandS.Deep
import HandS.ExcField
import HandS.ExcValue
import HandS.Iter
import HandS.Walk
import HandS.More
import KE.KEqNest
import PyProof.NeKinds
import HandS.IterVal
import HandS.Style
import KE.KExcSuper
import PyProof.ExcBaseAll.IndexError
import PyProof.FString
import PyProof.ExcBaseAll.RuntimeError
import PyProof.ExcBaseAll.LookupError
import PyProof.ExcBaseAll.ArithmeticError
import PyProof.ExcBaseAll.OverflowError
import PyProof.ExcBaseAll.ValueError
import KE.KExcIs
import KE.KCallOwn
import HandS.Property
import HandS.MakeKwOnly
import HandS.HeadWalk
import KE.KOpsOwn
import PyProof.DictUpdate
import HandS.ListItems
import KE.KDictList
import HandS.Flow
import HandS.Zip
import HandS.Conv
import PyProof.ListStr
import HandS.DictComp
import HandS.Finally
import HandS.TryMany
import HandS.Ends
import HandS.EndBits
import KE.KStateDown
import HandS.Head0
import HandS.Head1
import HandS.Head2
import HandS.HeadHook1
import HandS.HeadHook2
import PyProof.StrLawsRepr
import PyProof.Rows.RegStrFacts
import PySem.Challenge.RW_huebill_k09_whole_sums_and_shares_of_cha
set_option Elab.async false
set_option linter.all false
set_option maxRecDepth 100000
set_option maxHeartbeats 0
namespace HB
open PySem L2

/-! ### deep data, the store of owned objects, results -/
/-- an exception object of the class cls, with the dict d, held as a value -/
def XV (cls : Value) (d : Option Addr) (a : Addr) : HO := .ext fun h => ∃ (oe : Obj) (vs : Array Value), h.get? a = some oe ∧ Zc cls d oe ∧ oe.data = .fields vs
theorem xv_ok {P : Program} {w : World} {H : Hp} {h : Heap} {a : Addr} {cls : Value} {d : Option Addr} {oe : Obj} {vs : Array Value} (e : h.get? a = some oe) (z : Zc cls d oe) (q : oe.data = .fields vs) : ObjOk P w H h a (XV cls d a) :=
  ⟨⟨oe, vs, e, z, q⟩, ⟨oe, e⟩, fun _ _ ⟨o, v, q, r⟩ k => ⟨o, v, k o q, r⟩⟩
/-- at it an iterator over the tuple at p, the next place is i -/
def ItT (p it : Addr) (i : Nat) : HO := .ext fun h => h.IsTupleIter it p i
theorem itT_ok {P : Program} {w : World} {H : Hp} {h : Heap} {p it : Addr} {i : Nat} (e : h.IsTupleIter it p i) : ObjOk P w H h it (ItT p it i) :=
  ⟨e, let ⟨o, q, _⟩ := e; ⟨o, q⟩, fun _ _ ⟨o, q, r⟩ k => ⟨o, k o q, r⟩⟩
/-- something stands there -/
def ItX (it : Addr) : HO := .ext fun h => ∃ o, h.get? it = some o
theorem itX_ok {P : Program} {w : World} {H : Hp} {h : Heap} {it : Addr} (e : ∃ o, h.get? it = some o) : ObjOk P w H h it (ItX it) := ⟨e, e, fun _ _ ⟨o, q⟩ k => ⟨o, k o q⟩⟩
inductive D where
  | non | bl (b : Bool) | int (i : Int) | str (x : Str) | tup (ds : List D) | lst (ds : List D)
  | dct (kvs : List (D × D)) | obj (c : Str) (fs : List (Str × D)) | exv (c : Str) (fs : List (Str × D)) | ref (i : Nat) | scr (ns : List Int)
inductive MO where
  | lst (ds : List D) | dct (kvs : List (D × D)) | ins (c : Str) (fs : List (Str × D)) | itr (ds : List D) | gone
abbrev M := List MO
structure Exc where
  name : Str
  fs : List (Str × D)
inductive R (α : Type) where
  | ok (a : α) (m : M) | ex (c : Exc) (m : M) | no
def R.bind {α β : Type} (r : R α) (k : α → M → R β) : R β := match r with
  | .ok a m => k a m
  | .ex c m => .ex c m
  | .no => .no

def keyD : Key → D
  | .inl i => .int i
  | .inr x => .str x

/-! ### representation -/
section
variable (K : PySem.W.Frag) (mg : Str → Option Value) (rho : List Addr) (F : Hp)
mutual
inductive Rp : V → D → Prop
  | non : Rp .non .non
  | bl {b} : Rp (.bl b) (.bl b)
  | int {i} : Rp (.int i) (.int i)
  | str {x} : Rp (.str x) (.str x)
  | tup {a vs ds} : SqT K F a vs → RpL vs ds → Rp (.ref a) (.tup ds)
  | lst {a vs ds} : F a = some (.lst vs) → RpL vs ds → Rp (.ref a) (.lst ds)
  | dK {a o kvs ds} : F a = some (.frz o (.dK kvs)) → RpK kvs ds → Rp (.ref a) (.dct ds)
  | obj {a C dx fs gs c} : F a = some (.ins C dx fs) → mg c = some (.ref C) → RpF fs gs → Rp (.ref a) (.obj c gs)
  | xv0 {a C c} : F a = some (XV (.ref C) none a) → mg c = some (.ref C) → Rp (.ref a) (.exv c [])
  | xv {a C d fs gs c} : F a = some (XV (.ref C) (some d) a) → mg c = some (.ref C) → F d = some (.xd fs) → RpF fs gs → Rp (.ref a) (.exv c gs)
  | ref {i a} : rho[i]? = some a → Rp (.ref a) (.ref i)
  | scr {a ns} : SqL K F a (ns.map V.int) → Rp (.ref a) (.scr ns)
inductive RpL : List V → List D → Prop
  | nil : RpL [] []
  | cons {v d vs ds} : Rp v d → RpL vs ds → RpL (v :: vs) (d :: ds)
inductive RpF : List (Str × V) → List (Str × D) → Prop
  | nil : RpF [] []
  | cons {n v d vs ds} : Rp v d → RpF vs ds → RpF ((n, v) :: vs) ((n, d) :: ds)
inductive RpK : List (Key × V) → List (D × D) → Prop
  | nil : RpK [] []
  | cons {k v d vs ds} : Rp v d → RpK vs ds → RpK ((k, v) :: vs) ((keyD k, d) :: ds)
inductive RpT : List (List Key × V) → List (D × D) → Prop
  | nil : RpT [] []
  | cons {k v d vs ds} : Rp v d → RpT vs ds → RpT ((k, v) :: vs) ((.tup (k.map keyD), d) :: ds)
end
/-- what stands at an owned address -/
def RpM (H : Hp) (a : Addr) : MO → Prop
  | .lst ds => F a = none ∧ ∃ vs, H a = some (.lst vs) ∧ RpL K mg rho F vs ds
  | .dct kvs => F a = none ∧ ∃ ks, H a = some (.dK ks) ∧ RpK K mg rho F ks kvs
  | .ins c gs => F a = none ∧ ∃ C dx fs, H a = some (.ins C dx fs) ∧ mg c = some (.ref C) ∧ RpF K mg rho F fs gs
  | .itr ds => F a = none ∧ ∃ p vs, H a = some (ItT p a 0) ∧ SqT K F p vs ∧ RpL K mg rho F vs ds
  | .gone => True
structure Abs (H : Hp) (m : M) : Prop where
  ex : Same F H
  len : rho.length = m.length
  nd : rho.Nodup
  own : ∀ (i : Nat) a o, rho[i]? = some a → m[i]? = some o → RpM K mg rho F H a o
  all : ∀ a ∈ rho, ∃ o, H a = some o
inductive RpX : Exc → Value → Option Addr → Prop
  | bare {n C} : mg n = some (.ref C) → RpX ⟨n, []⟩ (.ref C) none
  | own {n C d fs gs} : mg n = some (.ref C) → F d = some (.xd fs) → RpF K mg rho F fs gs → RpX ⟨n, gs⟩ (.ref C) (some d)
def RpEnv (σ : L2.St) (env : List (Option D)) : Prop := σ.length = env.length ∧ ∀ (i : Nat) d, env[i]? = some (some d) → ∃ v, σ[i]? = some (some v) ∧ Rp K mg rho F v d
end

/-- from one state to a later one -/
structure Step (rho : List Addr) (F H : Hp) (rho' : List Addr) (F' H' : Hp) : Prop where
  pre : ∃ r1, rho' = rho ++ r1 ∧ ∀ a ∈ r1, H a = none
  ex : Same F F'
  dom : ∀ a o, H a = some o → ∃ o', H' a = some o'
  old : ∀ a o, H a = some o → a ∉ rho → H' a = some o ∧ F' a = F a

section
variable {K : PySem.W.Frag} {mg : Str → Option Value} {rho rho' rho2 : List Addr} {F F' F2 H H' H2 : Hp}
theorem Step.refl : Step rho F H rho F H := ⟨⟨[], by simp, by simp⟩, Same.refl F, fun _ o h => ⟨o, h⟩, fun _ _ h _ => ⟨h, rfl⟩⟩
theorem Step.trans (a : Step rho F H rho' F' H') (b : Step rho' F' H' rho2 F2 H2) : Step rho F H rho2 F2 H2 := by
  obtain ⟨r1, e1, h1⟩ := a.pre
  obtain ⟨r2, e2, h2⟩ := b.pre
  have nn : ∀ c o, H c = some o → c ∉ rho → c ∉ rho' := fun c o hc hn hm => by
    rw [e1] at hm
    rcases List.mem_append.mp hm with z | z
    · exact hn z
    · rw [h1 c z] at hc; cases hc
  refine ⟨⟨r1 ++ r2, by rw [e2, e1, List.append_assoc], fun c hc => ?_⟩, a.ex.trans b.ex, fun c o hc => ?_, fun c o hc hn => ?_⟩
  · rcases List.mem_append.mp hc with z | z
    · exact h1 c z
    · have q := h2 c z
      cases e : H c with
      | none => rfl
      | some o =>
        obtain ⟨o', e'⟩ := a.dom c o e
        rw [e'] at q; cases q
  · obtain ⟨o', q1⟩ := a.dom c o hc
    exact b.dom c o' q1
  · obtain ⟨q1, q2⟩ := a.old c o hc hn
    obtain ⟨q3, q4⟩ := b.old c o q1 (nn c o hc hn)
    exact ⟨q3, q4.trans q2⟩
theorem Step.ix (a : Step rho F H rho' F' H') {i : Nat} {x : Addr} (h : rho[i]? = some x) : rho'[i]? = some x := by
  obtain ⟨r1, e1, _⟩ := a.pre
  rw [e1, List.getElem?_append_left (List.getElem?_eq_some_iff.mp h).1]
  exact h
theorem sqT_mono {a : Addr} {xs : List V} (e : Same F F') (h : SqT K F a xs) : SqT K F' a xs := by
  rcases h with (h | ⟨o, h⟩) | h
  · exact .inl (.inl (e _ _ h))
  · exact .inl (.inr ⟨o, e _ _ h⟩)
  · exact .inr h
/-- a representation goes on: more owned objects, more that stands still -/
structure Onto (rho : List Addr) (F : Hp) (rho' : List Addr) (F' : Hp) : Prop where
  ix : ∀ {i : Nat} {x : Addr}, rho[i]? = some x → rho'[i]? = some x
  ex : Same F F'
theorem Step.onto (a : Step rho F H rho' F' H') : Onto rho F rho' F' := ⟨a.ix, a.ex⟩
mutual
theorem Rp.mono (s : Onto rho F rho' F') : ∀ {v : V} {d : D}, Rp K mg rho F v d → Rp K mg rho' F' v d
  | _, _, .non => .non
  | _, _, .bl => .bl
  | _, _, .int => .int
  | _, _, .str => .str
  | _, _, .tup h r => .tup (sqT_mono s.ex h) (RpL.mono s r)
  | _, _, .lst h r => .lst (s.ex _ _ h) (RpL.mono s r)
  | _, _, .dK h r => .dK (s.ex _ _ h) (RpK.mono s r)
  | _, _, .obj h c r => .obj (s.ex _ _ h) c (RpF.mono s r)
  | _, _, .xv0 h c => .xv0 (s.ex _ _ h) c
  | _, _, .xv h c q r => .xv (s.ex _ _ h) c (s.ex _ _ q) (RpF.mono s r)
  | _, _, .ref h => .ref (s.ix h)
  | _, _, .scr h => .scr (s.ex.seq h)
theorem RpL.mono (s : Onto rho F rho' F') : ∀ {v : List V} {d : List D}, RpL K mg rho F v d → RpL K mg rho' F' v d
  | _, _, .nil => .nil
  | _, _, .cons h r => .cons (Rp.mono s h) (RpL.mono s r)
theorem RpF.mono (s : Onto rho F rho' F') : ∀ {v : List (Str × V)} {d : List (Str × D)}, RpF K mg rho F v d → RpF K mg rho' F' v d
  | _, _, .nil => .nil
  | _, _, .cons h r => .cons (Rp.mono s h) (RpF.mono s r)
theorem RpK.mono (s : Onto rho F rho' F') : ∀ {v : List (Key × V)} {d : List (D × D)}, RpK K mg rho F v d → RpK K mg rho' F' v d
  | _, _, .nil => .nil
  | _, _, .cons h r => .cons (Rp.mono s h) (RpK.mono s r)
theorem RpT.mono (s : Onto rho F rho' F') : ∀ {v : List (List Key × V)} {d : List (D × D)}, RpT K mg rho F v d → RpT K mg rho' F' v d
  | _, _, .nil => .nil
  | _, _, .cons h r => .cons (Rp.mono s h) (RpT.mono s r)
end
theorem RpEnv.mono (s : Onto rho F rho' F') {σ : L2.St} {env : List (Option D)} (h : RpEnv K mg rho F σ env) : RpEnv K mg rho' F' σ env :=
  ⟨h.1, fun i d e => let ⟨v, q, r⟩ := h.2 i d e; ⟨v, q, r.mono s⟩⟩
theorem RpEnv.set {σ : L2.St} {env : List (Option D)} (h : RpEnv K mg rho F σ env) {v : V} {d : D} (r : Rp K mg rho F v d) (i : Nat) : RpEnv K mg rho F (σ.set i (some v)) (env.set i (some d)) := by
  refine ⟨by simp [h.1], fun j e hj => ?_⟩
  by_cases q : i = j
  · subst q
    by_cases hi : i < env.length
    · rw [List.getElem?_set_self hi] at hj
      cases hj
      exact ⟨v, List.getElem?_set_self (by rw [h.1]; exact hi), r⟩
    · rw [List.getElem?_eq_none (by simpa using hi)] at hj; cases hj
  · rw [List.getElem?_set_ne q] at hj ⊢
    exact h.2 j e hj
theorem RpEnv.unset {σ : L2.St} {env : List (Option D)} (h : RpEnv K mg rho F σ env) (i : Nat) : RpEnv K mg rho F (σ.set i none) (env.set i none) := by
  refine ⟨by simp [h.1], fun j e hj => ?_⟩
  by_cases q : i = j
  · subst q
    by_cases hi : i < env.length
    · rw [List.getElem?_set_self hi] at hj
      cases hj
    · rw [List.getElem?_eq_none (by simpa using hi)] at hj; cases hj
  · rw [List.getElem?_set_ne q] at hj ⊢
    exact h.2 j e hj
def wipeD (env : List (Option D)) : List Nat → List (Option D)
  | [] => env
  | v :: vs => (wipeD env vs).set v none
theorem RpEnv.wipe {σ : L2.St} {env : List (Option D)} (h : RpEnv K mg rho F σ env) : ∀ vs : List Nat, RpEnv K mg rho F (L2.wipe σ vs) (wipeD env vs)
  | [] => h
  | v :: vs => (RpEnv.wipe h vs).unset v

/-! ### what is allotted -/
/-- a new object that stands still -/
theorem Abs.fresh {m : M} {p : Addr} {o : HO} (A : Abs K mg rho F H m) (np : H p = none) :
    Step rho F H rho (upd F p o) (upd H p o) ∧ Abs K mg rho (upd F p o) (upd H p o) m := by
  have nF : F p = none := by
    cases e : F p with
    | none => rfl
    | some u => rw [A.ex p u e] at np; cases np
  have sF : Same F (upd F p o) := fun b u h => by rw [upd_ne (ne_of_none h nF)]; exact h
  have st : Step rho F H rho (upd F p o) (upd H p o) := by
    refine ⟨⟨[], by simp, by simp⟩, sF, fun a u h => ⟨u, ?_⟩, fun a u h _ => ?_⟩
    · rw [upd_ne (ne_of_none h np)]; exact h
    · have ne : a ≠ p := ne_of_none h np
      rw [upd_ne ne, upd_ne ne]; exact ⟨h, rfl⟩
  refine ⟨st, ⟨fun b u h => ?_, A.len, A.nd, fun i a x hi hm => ?_, fun a ha => let ⟨u, hu⟩ := A.all a ha; st.dom a u hu⟩⟩
  · by_cases e : b = p
    · subst e; rw [upd_same] at h ⊢; exact h
    · rw [upd_ne e] at h ⊢; exact A.ex b u h
  · have q := A.own i a x hi hm
    cases x with
    | gone => trivial
    | lst ds =>
      obtain ⟨f0, vs, h0, r⟩ := q
      have ne : a ≠ p := ne_of_none h0 np
      exact ⟨by rw [upd_ne ne]; exact f0, vs, by rw [upd_ne ne]; exact h0, r.mono st.onto⟩
    | dct kvs =>
      obtain ⟨f0, ks, h0, r⟩ := q
      have ne : a ≠ p := ne_of_none h0 np
      exact ⟨by rw [upd_ne ne]; exact f0, ks, by rw [upd_ne ne]; exact h0, r.mono st.onto⟩
    | ins c gs =>
      obtain ⟨f0, C, dx, fs, h0, hc, r⟩ := q
      have ne : a ≠ p := ne_of_none h0 np
      exact ⟨by rw [upd_ne ne]; exact f0, C, dx, fs, by rw [upd_ne ne]; exact h0, hc, r.mono st.onto⟩
    | itr ds =>
      obtain ⟨f0, t, vs, h0, hs, r⟩ := q
      have ne : a ≠ p := ne_of_none h0 np
      exact ⟨by rw [upd_ne ne]; exact f0, t, vs, by rw [upd_ne ne]; exact h0, sqT_mono st.onto.2 hs, r.mono st.onto⟩
theorem RpM.mono {a : Addr} {x : MO} (s : Onto rho F rho' F') (h : RpM K mg rho F H a x) (hf : F' a = F a) (hh : ∀ o, H a = some o → H' a = some o) : RpM K mg rho' F' H' a x := by
  cases x with
  | gone => trivial
  | lst ds =>
    obtain ⟨f0, vs, h0, r⟩ := h
    exact ⟨hf.trans f0, vs, hh _ h0, r.mono s⟩
  | dct kvs =>
    obtain ⟨f0, ks, h0, r⟩ := h
    exact ⟨hf.trans f0, ks, hh _ h0, r.mono s⟩
  | ins c gs =>
    obtain ⟨f0, C, dx, fs, h0, hc, r⟩ := h
    exact ⟨hf.trans f0, C, dx, fs, hh _ h0, hc, r.mono s⟩
  | itr ds =>
    obtain ⟨f0, p, vs, h0, hs, r⟩ := h
    exact ⟨hf.trans f0, p, vs, hh _ h0, sqT_mono s.2 hs, r.mono s⟩
/-- a new object of our own -/
theorem Abs.notmem {m : M} {p : Addr} (A : Abs K mg rho F H m) (np : H p = none) : p ∉ rho := fun hm => by
  obtain ⟨o, h⟩ := A.all p hm
  rw [np] at h; cases h
theorem Abs.alloc {m : M} {p : Addr} {o : HO} {x : MO} (A : Abs K mg rho F H m) (np : H p = none)
    (hx : RpM K mg (rho ++ [p]) F (upd H p o) p x) :
    Step rho F H (rho ++ [p]) F (upd H p o) ∧ Abs K mg (rho ++ [p]) F (upd H p o) (m ++ [x]) := by
  have st : Step rho F H (rho ++ [p]) F (upd H p o) := by
    refine ⟨⟨[p], rfl, fun a h => by rw [List.mem_singleton.mp h]; exact np⟩, Same.refl F, fun a u h => ⟨u, ?_⟩, fun a u h _ => ⟨?_, rfl⟩⟩
    · rw [upd_ne (ne_of_none h np)]; exact h
    · rw [upd_ne (ne_of_none h np)]; exact h
  have nr : p ∉ rho := A.notmem np
  refine ⟨st, ⟨fun b u h => ?_, by simp [A.len], ?_, fun i a y hi hm => ?_, fun a ha => ?_⟩⟩
  · rw [upd_ne (ne_of_none (A.ex b u h) np)]; exact A.ex b u h
  · rw [List.nodup_append]
    refine ⟨A.nd, by simp, fun a ha b hb => ?_⟩
    rw [List.mem_singleton.mp hb]
    intro e; subst e; exact nr ha
  · by_cases hl : i < rho.length
    · rw [List.getElem?_append_left hl] at hi
      rw [List.getElem?_append_left (by rw [← A.len]; exact hl)] at hm
      refine (A.own i a y hi hm).mono st.onto rfl fun u h => ?_
      rw [upd_ne (ne_of_none h np)]; exact h
    · have hl' : i = rho.length := by
        have := (List.getElem?_eq_some_iff.mp hi).1
        simp at this; omega
      subst hl'
      rw [List.getElem?_append_right (Nat.le_refl _)] at hi
      rw [A.len, List.getElem?_append_right (Nat.le_refl _)] at hm
      simp at hi hm
      subst hi; subst hm
      exact hx
  · rcases List.mem_append.mp ha with z | z
    · obtain ⟨u, hu⟩ := A.all a z
      exact st.dom a u hu
    · rw [List.mem_singleton.mp z]
      exact ⟨o, upd_same⟩
/-- one of our own objects changes -/
theorem Abs.write {m : M} {i : Nat} {p : Addr} {o : HO} {x y : MO} (A : Abs K mg rho F H m) (hi : rho[i]? = some p) (hm : m[i]? = some x) (nF : F p = none) (hp : ∃ u, H p = some u)
    (hy : RpM K mg rho F (upd H p o) p y) : Step rho F H rho F (upd H p o) ∧ Abs K mg rho F (upd H p o) (m.set i y) := by
  have hmem : p ∈ rho := List.mem_of_getElem? hi
  have st : Step rho F H rho F (upd H p o) := by
    refine ⟨⟨[], by simp, by simp⟩, Same.refl F, fun a u h => ?_, fun a u h hn => ⟨?_, rfl⟩⟩
    · by_cases e : a = p
      · subst e; exact ⟨o, upd_same⟩
      · exact ⟨u, by rw [upd_ne e]; exact h⟩
    · rw [upd_ne (fun (e : a = p) => hn (by rw [e]; exact hmem))]; exact h
  refine ⟨st, ⟨fun b u h => ?_, by simp [A.len], A.nd, fun j a z hj hz => ?_, fun a ha => let ⟨u, hu⟩ := A.all a ha; st.dom a u hu⟩⟩
  · rw [upd_ne (ne_of_none h nF)]; exact A.ex b u h
  · by_cases e : i = j
    · subst e
      rw [hi] at hj; cases hj
      have hl : i < m.length := (List.getElem?_eq_some_iff.mp hm).1
      rw [List.getElem?_set_self hl] at hz; cases hz
      exact hy
    · rw [List.getElem?_set_ne e] at hz
      have ne : a ≠ p := fun q => by
        subst q
        have h1 := List.getElem?_eq_some_iff.mp hi
        have h2 := List.getElem?_eq_some_iff.mp hj
        exact e ((List.getElem_inj A.nd).mp (h1.2.trans h2.2.symm))
      refine (A.own j a z hj hz).mono ⟨fun h => h, Same.refl F⟩ rfl fun u h => ?_
      rw [upd_ne ne]; exact h
/-- one of our own objects stands still from now on -/
theorem Abs.freeze {m : M} {i : Nat} {p : Addr} {o : HO} {x : MO} (A : Abs K mg rho F H m) (hi : rho[i]? = some p) (hm : m[i]? = some x) (nF : F p = none) (hp : H p = some o) :
    Step rho F H rho (upd F p o) H ∧ Abs K mg rho (upd F p o) H (m.set i .gone) := by
  have hmem : p ∈ rho := List.mem_of_getElem? hi
  have sF : Same F (upd F p o) := fun b u h => by rw [upd_ne (ne_of_none h nF)]; exact h
  have st : Step rho F H rho (upd F p o) H := by
    refine ⟨⟨[], by simp, by simp⟩, sF, fun a u h => ⟨u, h⟩, fun a u h hn => ⟨h, ?_⟩⟩
    rw [upd_ne (fun (e : a = p) => hn (by rw [e]; exact hmem))]
  refine ⟨st, ⟨fun b u h => ?_, by simp [A.len], A.nd, fun j a z hj hz => ?_, fun a ha => let ⟨u, hu⟩ := A.all a ha; st.dom a u hu⟩⟩
  · by_cases e : b = p
    · subst e; rw [upd_same] at h; rw [← h]; exact hp
    · rw [upd_ne e] at h; exact A.ex b u h
  · by_cases e : i = j
    · subst e
      have hl : i < m.length := (List.getElem?_eq_some_iff.mp hm).1
      rw [List.getElem?_set_self hl] at hz; cases hz
      trivial
    · rw [List.getElem?_set_ne e] at hz
      have ne : a ≠ p := fun q => by
        subst q
        have h1 := List.getElem?_eq_some_iff.mp hi
        have h2 := List.getElem?_eq_some_iff.mp hj
        exact e ((List.getElem_inj A.nd).mp (h1.2.trans h2.2.symm))
      exact (A.own j a z hj hz).mono st.onto (upd_ne ne) fun u h => h
end

/-! ### readings: what a result asks -/
section
variable (K : PySem.W.Frag) (mg : Str → Option Value) (W : WX) (σ : L2.St)
def RdE {α β : Type} (rel : List Addr → Hp → β → α → Prop) (rho : List Addr) (F H : Hp) (Q : β → Hp → Prop) : R α → Prop
  | .ok d m => ∀ v rho' F' H', Step rho F H rho' F' H' → Abs K mg rho' F' H' m → rel rho' F' v d → Q v H'
  | .ex c m => ∀ cls dx rho' F' H', Step rho F H rho' F' H' → Abs K mg rho' F' H' m → RpX K mg rho' F' c cls dx → W cls dx σ H'
  | .no => False
end
section
variable {K : PySem.W.Frag} {mg : Str → Option Value} {W : WX} {σ : L2.St} {rho rho' rho2 : List Addr} {F F' F2 H H' H2 : Hp} {α β γ δ : Type} {rel : List Addr → Hp → β → α → Prop} {rel2 : List Addr → Hp → δ → γ → Prop}
theorem RdE.step {Q : β → Hp → Prop} {r : R α} (h : RdE K mg W σ rel rho F H Q r) (s : Step rho F H rho' F' H') : RdE K mg W σ rel rho' F' H' Q r := by
  cases r with
  | ok d m => exact fun v r2 F2 H2 s2 => h v r2 F2 H2 (s.trans s2)
  | ex c m => exact fun cls dx r2 F2 H2 s2 => h cls dx r2 F2 H2 (s.trans s2)
  | no => exact h
theorem RdE.bind {Q : β → Hp → Prop} {Q' : δ → Hp → Prop} {r : R γ} {k : γ → M → R α} (h : RdE K mg W σ rel rho F H Q (r.bind k))
    (f : ∀ d m v rho' F' H', Step rho F H rho' F' H' → Abs K mg rho' F' H' m → rel2 rho' F' v d → RdE K mg W σ rel rho' F' H' Q (k d m) → Q' v H') : RdE K mg W σ rel2 rho F H Q' r := by
  cases r with
  | ok d m => exact fun v r2 F2 H2 s A r => f d m v r2 F2 H2 s A r (RdE.step (show RdE K mg W σ rel rho F H Q (k d m) from h) s)
  | ex c m => exact h
  | no => exact h
theorem RdE.mono {Q Q' : β → Hp → Prop} {r : R α} (h : RdE K mg W σ rel rho F H Q r) (f : ∀ v H, Q v H → Q' v H) : RdE K mg W σ rel rho F H Q' r := by
  cases r with
  | ok d m => exact fun v r2 F2 H2 s A r => f _ _ (h v r2 F2 H2 s A r)
  | ex c m => exact h
  | no => exact h
end
abbrev Env := List (Option D)
abbrev SE := Env → M → R D
abbrev SB := Env → M → R Bool
abbrev SA := Env → M → R (List D)
section
variable (X : Cx) (W : WX)
abbrev relD (K : PySem.W.Frag) (mg : Str → Option Value) : List Addr → Hp → V → D → Prop := fun rho F v d => Rp K mg rho F v d
abbrev relB : List Addr → Hp → Bool → Bool → Prop := fun _ _ v d => v = d
abbrev relL (K : PySem.W.Frag) (mg : Str → Option Value) : List Addr → Hp → List V → List D → Prop := fun rho F v d => RpL K mg rho F v d
def tE (se : SE) : TE := fun σ H Q => ∃ rho F env m, Abs X.K X.mg rho F H m ∧ RpEnv X.K X.mg rho F σ env ∧ RdE X.K X.mg W σ (relD X.K X.mg) rho F H Q (se env m)
def tT (se : SB) : TT := fun σ H Q => ∃ rho F env m, Abs X.K X.mg rho F H m ∧ RpEnv X.K X.mg rho F σ env ∧ RdE X.K X.mg W σ relB rho F H Q (se env m)
def tA (se : SA) : TA := fun σ H Q => ∃ rho F env m, Abs X.K X.mg rho F H m ∧ RpEnv X.K X.mg rho F σ env ∧ RdE X.K X.mg W σ (relL X.K X.mg) rho F H Q (se env m)
end
theorem PE.imp {X : Cx} {e : Expr} {t t' : TE} (h : PE X e t) (f : ∀ σ H Q, t' σ H Q → t σ H Q) : PE X e t' := ⟨fun pins s σ H Q I q => h.run pins s σ H Q I (f σ H Q q)⟩
theorem PT.imp {X : Cx} {e : Expr} {t t' : TT} (h : PT X e t) (f : ∀ σ H Q, t' σ H Q → t σ H Q) : PT X e t' := ⟨fun pins s σ H Q I q => h.run pins s σ H Q I (f σ H Q q)⟩
theorem PA.imp {X : Cx} {e : List Expr} {t t' : TA} (h : PA X e t) (f : ∀ σ H Q, t' σ H Q → t σ H Q) : PA X e t' := ⟨fun pos pins s σ H Q I q => h.run pos pins s σ H Q I (f σ H Q q)⟩
end HB
namespace HB
open PySem L2

/-! ### looking at data -/
def viewL (d : D) (m : M) : Option (List D) := match d with
  | .lst ds => some ds
  | .ref i => match m[i]? with
    | some (.lst ds) => some ds
    | _ => none
  | _ => none
/-- any list that may be read -/
def viewS (d : D) (m : M) : Option (List D) := match d with
  | .scr ns => some (ns.map D.int)
  | d => viewL d m
def viewQ (d : D) (m : M) : Option (List D) := match d with
  | .tup ds => some ds
  | d => viewS d m
section
variable {K : PySem.W.Frag} {mg : Str → Option Value} {rho : List Addr} {F H : Hp} {m : M} {x : V} {d : D} {ds : List D}
theorem Rp.viewL (A : Abs K mg rho F H m) (r : Rp K mg rho F x d) (h : viewL d m = some ds) : ∃ p vs, x = .ref p ∧ H p = some (.lst vs) ∧ RpL K mg rho F vs ds := by
  unfold HB.viewL at h
  split at h
  · cases h
    cases r with
    | lst hp hr => exact ⟨_, _, rfl, A.ex _ _ hp, hr⟩
  · split at h
    · rename_i hm
      cases h
      cases r with
      | ref hi =>
        obtain ⟨_, vs, h0, r⟩ := A.own _ _ _ hi hm
        exact ⟨_, vs, rfl, h0, r⟩
    · cases h
  · cases h
theorem RpL.ints (ns : List Int) : RpL K mg rho F (ns.map V.int) (ns.map D.int) := by
  induction ns with
  | nil => exact .nil
  | cons a r ih => exact .cons .int ih
theorem Rp.viewS (A : Abs K mg rho F H m) (r : Rp K mg rho F x d) (h : viewS d m = some ds) : ∃ p vs, x = .ref p ∧ SqL K H p vs ∧ RpL K mg rho F vs ds := by
  unfold HB.viewS at h
  split at h
  · cases h
    cases r with
    | scr hs => exact ⟨_, _, rfl, A.ex.seq hs, RpL.ints _⟩
  · obtain ⟨p, vs, e, hp, hr⟩ := r.viewL A h
    exact ⟨p, vs, e, SqL.of hp, hr⟩
theorem Rp.tupH (A : Abs K mg rho F H m) (r : Rp K mg rho F x (.tup ds)) : ∃ p vs, x = .ref p ∧ SqT K H p vs ∧ RpL K mg rho F vs ds := by
  cases r with
  | tup hs hr => exact ⟨_, _, rfl, sqT_mono A.ex hs, hr⟩
theorem Rp.viewQ (A : Abs K mg rho F H m) (r : Rp K mg rho F x d) (h : viewQ d m = some ds) : ∃ p vs, x = .ref p ∧ (SqL K H p vs ∨ SqT K H p vs) ∧ RpL K mg rho F vs ds := by
  unfold HB.viewQ at h
  split at h
  · cases h
    obtain ⟨p, vs, e, hp, hr⟩ := r.tupH A
    exact ⟨p, vs, e, .inr hp, hr⟩
  · obtain ⟨p, vs, e, hp, hr⟩ := r.viewS A h
    exact ⟨p, vs, e, .inl hp, hr⟩
theorem RpL.length {vs : List V} {ds : List D} (r : RpL K mg rho F vs ds) : vs.length = ds.length := by
  induction ds generalizing vs with
  | nil => cases r; rfl
  | cons d ds ih => cases r with | cons h t => simp [ih t]
theorem RpL.append {vs ws : List V} {ds es : List D} (r : RpL K mg rho F vs ds) (q : RpL K mg rho F ws es) : RpL K mg rho F (vs ++ ws) (ds ++ es) := by
  induction ds generalizing vs with
  | nil => cases r; exact q
  | cons d ds ih => cases r with | cons h t => exact .cons h (ih t)
theorem RpL.get {vs : List V} {ds : List D} (r : RpL K mg rho F vs ds) : ∀ {i : Nat} {d : D}, ds[i]? = some d → ∃ v, vs[i]? = some v ∧ Rp K mg rho F v d := by
  induction ds generalizing vs with
  | nil => intro i d h; simp at h
  | cons e ds ih =>
    cases r with
    | cons h t =>
      intro i d hd
      cases i with
      | zero => simp at hd; subst hd; exact ⟨_, rfl, h⟩
      | succ i => obtain ⟨v, q1, q2⟩ := ih t (i := i) (d := d) (by simpa using hd); exact ⟨v, by simpa using q1, q2⟩
theorem RpL.get' {vs : List V} {ds : List D} (r : RpL K mg rho F vs ds) : ∀ {i : Nat} {v : V}, vs[i]? = some v → ∃ d, ds[i]? = some d ∧ Rp K mg rho F v d := by
  induction ds generalizing vs with
  | nil => cases r; intro i d h; simp at h
  | cons e ds ih =>
    cases r with
    | cons h t =>
      intro i d hd
      cases i with
      | zero => simp at hd; subst hd; exact ⟨_, rfl, h⟩
      | succ i => obtain ⟨v, q1, q2⟩ := ih t (i := i) (v := d) (by simpa using hd); exact ⟨v, by simpa using q1, q2⟩
theorem RpL.set {vs : List V} {ds : List D} (r : RpL K mg rho F vs ds) {v : V} {d : D} (h : Rp K mg rho F v d) : ∀ i : Nat, RpL K mg rho F (vs.set i v) (ds.set i d) := by
  induction ds generalizing vs with
  | nil => cases r; intro i; exact .nil
  | cons e ds ih =>
    cases r with
    | cons h0 t =>
      intro i
      cases i with
      | zero => exact .cons h t
      | succ i => exact .cons h0 (ih t i)
theorem RpL.take {vs : List V} {ds : List D} (r : RpL K mg rho F vs ds) : ∀ n : Nat, RpL K mg rho F (vs.take n) (ds.take n) := by
  induction ds generalizing vs with
  | nil => cases r; intro n; simp; exact .nil
  | cons e ds ih =>
    cases r with
    | cons h0 t =>
      intro n
      cases n with
      | zero => exact .nil
      | succ n => exact .cons h0 (ih t n)
theorem RpL.drop {vs : List V} {ds : List D} (r : RpL K mg rho F vs ds) : ∀ n : Nat, RpL K mg rho F (vs.drop n) (ds.drop n) := by
  induction ds generalizing vs with
  | nil => cases r; intro n; simp; exact .nil
  | cons e ds ih =>
    cases r with
    | cons h0 t =>
      intro n
      cases n with
      | zero => exact .cons h0 t
      | succ n => exact ih t n
theorem RpL.eraseIdx {vs : List V} {ds : List D} (r : RpL K mg rho F vs ds) : ∀ n : Nat, RpL K mg rho F (vs.eraseIdx n) (ds.eraseIdx n) := by
  induction ds generalizing vs with
  | nil => cases r; intro n; exact .nil
  | cons e ds ih =>
    cases r with
    | cons h0 t =>
      intro n
      cases n with
      | zero => exact t
      | succ n => exact .cons h0 (ih t n)
theorem RpL.strs {vs : List V} {xs : List Str} (r : RpL K mg rho F vs (xs.map D.str)) : vs = xs.map V.str := by
  induction xs generalizing vs with
  | nil => cases r; rfl
  | cons x xs ih => cases r with | cons h t => cases h; rw [ih t]; rfl
theorem RpL.intsE {vs : List V} {xs : List Int} (r : RpL K mg rho F vs (xs.map D.int)) : vs = xs.map V.int := by
  induction xs generalizing vs with
  | nil => cases r; rfl
  | cons x xs ih => cases r with | cons h t => cases h; rw [ih t]; rfl
theorem RpL.bls {vs : List V} {xs : List Bool} (r : RpL K mg rho F vs (xs.map D.bl)) : vs = xs.map V.bl := by
  induction xs generalizing vs with
  | nil => cases r; rfl
  | cons x xs ih => cases r with | cons h t => cases h; rw [ih t]; rfl
end
/-- all ints, all texts, all bools -/
def asInts : List D → Option (List Int)
  | [] => some []
  | .int i :: r => (asInts r).map (i :: ·)
  | _ :: _ => none
def asStrs : List D → Option (List Str)
  | [] => some []
  | .str i :: r => (asStrs r).map (i :: ·)
  | _ :: _ => none
def asBls : List D → Option (List Bool)
  | [] => some []
  | .bl i :: r => (asBls r).map (i :: ·)
  | _ :: _ => none
theorem asInts_eq : ∀ {ds : List D} {ns : List Int}, asInts ds = some ns → ds = ns.map D.int
  | [], _, h => by simp [asInts] at h; subst h; rfl
  | .int i :: r, ns, h => by
    simp only [asInts, Option.map_eq_some_iff] at h
    obtain ⟨a, h1, rfl⟩ := h
    rw [asInts_eq h1]; rfl
theorem asStrs_eq : ∀ {ds : List D} {ns : List Str}, asStrs ds = some ns → ds = ns.map D.str
  | [], _, h => by simp [asStrs] at h; subst h; rfl
  | .str i :: r, ns, h => by
    simp only [asStrs, Option.map_eq_some_iff] at h
    obtain ⟨a, h1, rfl⟩ := h
    rw [asStrs_eq h1]; rfl
theorem asBls_eq : ∀ {ds : List D} {ns : List Bool}, asBls ds = some ns → ds = ns.map D.bl
  | [], _, h => by simp [asBls] at h; subst h; rfl
  | .bl i :: r, ns, h => by
    simp only [asBls, Option.map_eq_some_iff] at h
    obtain ⟨a, h1, rfl⟩ := h
    rw [asBls_eq h1]; rfl
theorem asInts_map (ns : List Int) : asInts (ns.map D.int) = some ns := by
  induction ns with
  | nil => rfl
  | cons a r ih => simp [asInts, ih]
theorem asStrs_map (ns : List Str) : asStrs (ns.map D.str) = some ns := by
  induction ns with
  | nil => rfl
  | cons a r ih => simp [asStrs, ih]
theorem asBls_map (ns : List Bool) : asBls (ns.map D.bl) = some ns := by
  induction ns with
  | nil => rfl
  | cons a r ih => simp [asBls, ih]

/-! ### operators by data -/
/-- no exception comes of it -/
abbrev RdO (K : PySem.W.Frag) (mg : Str → Option Value) (rho : List Addr) (F H : Hp) (Q : VK) (r : R D) : Prop := RdE K mg (fun _ _ _ _ => False) [] (relD K mg) rho F H Q r
def OpD (X : Cx) (f : Value → Value → Sem Value) (g : D → D → M → R D) : Prop :=
  OpR X f (fun x y H Q => ∃ rho F m d e, Abs X.K X.mg rho F H m ∧ Rp X.K X.mg rho F x d ∧ Rp X.K X.mg rho F y e ∧ RdO X.K X.mg rho F H Q (g d e m))
theorem OpR.imp {X : Cx} {f : Value → Value → Sem Value} {r r' : R2} (h : OpR X f r) (k : ∀ x y H Q, r' x y H Q → r x y H Q) : OpR X f r' := fun pins s σ H x y v u Q I r1 r2 q => h pins s σ H x y v u Q I r1 r2 (k _ _ _ _ q)
section
variable {K : PySem.W.Frag} {mg : Str → Option Value} {rho : List Addr} {F H : Hp} {m : M} {Q : VK}
/-- a value that is no object: it is there -/
theorem RdO.here {d : D} {v : V} (h : RdO K mg rho F H Q (.ok d m)) (A : Abs K mg rho F H m) (r : Rp K mg rho F v d) : Q v H := h v rho F H Step.refl A r
theorem RdO.newT {ds : List D} {vs : List V} {p : Addr} (h : RdO K mg rho F H Q (.ok (.tup ds) m)) (A : Abs K mg rho F H m) (r : RpL K mg rho F vs ds) (np : H p = none) : Q (.ref p) (upd H p (.tup vs)) := by
  obtain ⟨st, A'⟩ := A.fresh (o := .tup vs) np
  exact h _ _ _ _ st A' (.tup (SqT.of upd_same) (r.mono st.onto))
theorem RdO.newL {ds : List D} {vs : List V} {p : Addr} (h : RdO K mg rho F H Q (.ok (.lst ds) m)) (A : Abs K mg rho F H m) (r : RpL K mg rho F vs ds) (np : H p = none) : Q (.ref p) (upd H p (.lst vs)) := by
  obtain ⟨st, A'⟩ := A.fresh (o := .lst vs) np
  exact h _ _ _ _ st A' (.lst upd_same (r.mono st.onto))
end
def addD (d e : D) (m : M) : R D := match d, e with
  | .int i, .int j => .ok (.int (i + j)) m
  | .str x, .str y => if x.length + y.length ≤ sizeLine then .ok (.str (x ++ y)) m else .no
  | .tup xs, .tup ys => if xs.length + ys.length ≤ sizeLine then .ok (.tup (xs ++ ys)) m else .no
  | d, e => match viewL d m, viewL e m with
    | some xs, some ys => if xs.length + ys.length ≤ sizeLine then .ok (.lst (xs ++ ys)) m else .no
    | _, _ => .no
def subD (d e : D) (m : M) : R D := match d, e with
  | .int i, .int j => .ok (.int (i - j)) m
  | _, _ => .no
def mulD (d e : D) (m : M) : R D := match d, e with
  | .int i, .int j => if i.natAbs.log2 + j.natAbs.log2 < 1000000 then .ok (.int (i * j)) m else .no
  | _, _ => .no
def fdivD (d e : D) (m : M) : R D := match d, e with
  | .int i, .int j => if j ≠ 0 ∧ j.natAbs.log2 < 9000 then .ok (.int (i.fdiv j)) m else .no
  | _, _ => .no
def modD (d e : D) (m : M) : R D := match d, e with
  | .int i, .int j => if j ≠ 0 then .ok (.int (i.fmod j)) m else .no
  | _, _ => .no
def powD (d e : D) (m : M) : R D := match d, e with
  | .int i, .int j => if 0 ≤ j ∧ (Builtin.Int.intBits i : Int) * j ≤ 2 ^ 27 then .ok (.int (i ^ j.toNat)) m else .no
  | _, _ => .no
section
variable {X : Cx}
theorem op_fdivA : OpR X (binaryOp .FloorDiv) (rI (fun _ j => j ≠ 0 ∧ j.natAbs.log2 < 9000) fun i j => .int (i.fdiv j)) :=
  opI fun _ _ _ _ _ _ _ hc q => PyProof.Rows.floordiv_int hc.1 q (.inl (PyProof.noPylong_of_log2 hc.2))
theorem op_powA : OpR X (binaryOp .Pow) (rI (fun i j => 0 ≤ j ∧ (Builtin.Int.intBits i : Int) * j ≤ 2 ^ 27) fun i j => .int (i ^ j.toNat)) :=
  opI fun _ _ _ _ _ _ _ hc q => PyProof.Rows.pow_int hc.1 hc.2 q
theorem od_sub : OpD X (binaryOp .Sub) subD := OpR.imp op_sub (by
  rintro x y H Q ⟨rho, F, m, d, e, A, r1, r2, h⟩
  unfold subD at h
  split at h
  · cases r1; cases r2; exact ⟨_, _, rfl, rfl, h.here A .int⟩
  · exact h.elim)
theorem od_mul : OpD X (binaryOp .Mult) mulD := OpR.imp op_mulW (by
  rintro x y H Q ⟨rho, F, m, d, e, A, r1, r2, h⟩
  unfold mulD at h
  split at h
  · split at h
    · rename_i hc
      cases r1; cases r2; exact ⟨_, _, rfl, rfl, hc, h.here A .int⟩
    · exact h.elim
  · exact h.elim)
theorem od_fdiv : OpD X (binaryOp .FloorDiv) fdivD := OpR.imp op_fdivA (by
  rintro x y H Q ⟨rho, F, m, d, e, A, r1, r2, h⟩
  unfold fdivD at h
  split at h
  · split at h
    · rename_i hc
      cases r1; cases r2; exact ⟨_, _, rfl, rfl, hc, h.here A .int⟩
    · exact h.elim
  · exact h.elim)
theorem od_mod : OpD X (binaryOp .Mod) modD := OpR.imp op_modN (by
  rintro x y H Q ⟨rho, F, m, d, e, A, r1, r2, h⟩
  unfold modD at h
  split at h
  · split at h
    · rename_i hc
      cases r1; cases r2; exact ⟨_, _, rfl, rfl, hc, h.here A .int⟩
    · exact h.elim
  · exact h.elim)
theorem od_pow : OpD X (binaryOp .Pow) powD := OpR.imp op_powA (by
  rintro x y H Q ⟨rho, F, m, d, e, A, r1, r2, h⟩
  unfold powD at h
  split at h
  · split at h
    · rename_i hc
      cases r1; cases r2; exact ⟨_, _, rfl, rfl, hc, h.here A .int⟩
    · exact h.elim
  · exact h.elim)
theorem od_add : OpD X (binaryOp .Add) addD := OpR.imp (op_add.or (op_add_str.or (op_catA.or op_cat))) (by
  rintro x y H Q ⟨rho, F, m, d, e, A, r1, r2, h⟩
  unfold addD at h
  split at h
  · cases r1; cases r2; exact .inl ⟨_, _, rfl, rfl, h.here A .int⟩
  · split at h
    · rename_i hc
      cases r1; cases r2; exact .inr (.inl ⟨_, _, rfl, rfl, hc, h.here A .str⟩)
    · exact h.elim
  · split at h
    · rename_i hc
      obtain ⟨p, vs, rfl, hp, q1⟩ := r1.tupH A
      obtain ⟨q, ws, rfl, hq, q2⟩ := r2.tupH A
      refine .inr (.inr (.inl ⟨p, q, vs, ws, rfl, rfl, hp, hq, by rw [q1.length, q2.length]; exact hc, fun e => ?_, fun e1 e2 => ?_, fun e1 e2 r nr => h.newT A (q1.append q2) nr⟩))
      · subst e; cases q1; exact h.here A r2
      · subst e2; cases q2; rw [List.append_nil] at h; exact h.here A r1
    · exact h.elim
  · split at h
    · split at h
      · rename_i h1 h2 hc
        obtain ⟨p, vs, rfl, hp, q1⟩ := r1.viewL A h1
        obtain ⟨q, ws, rfl, hq, q2⟩ := r2.viewL A h2
        exact .inr (.inr (.inr ⟨p, q, vs, ws, rfl, rfl, hp, hq, by rw [q1.length, q2.length]; exact hc, fun r nr => h.newL A (q1.append q2) nr⟩))
      · exact h.elim
    · exact h.elim)
end
end HB
namespace HB
open PySem L2
/-- the keys that a dict may have here -/
def keyOf : D → Option Key
  | .int i => some (.inl i)
  | .str x => some (.inr x)
  | _ => none
def isDct : D → Bool
  | .dct _ => true
  | _ => false
def keysOf : List (D × D) → Option (List (Key × D))
  | [] => some []
  | (k, d) :: r => match keyOf k, keysOf r with
    | some k, some r => some ((k, d) :: r)
    | _, _ => none
def findK (kvs : List (Key × D)) (k : Key) : Option D := (kvs.find? fun kv => decide (kv.1 = k)).map (·.2)
def putD (kvs : List (Key × D)) (k : Key) (v : D) : List (Key × D) := if kvs.any (fun kv => decide (kv.1 = k)) then kvs.map fun kv => if kv.1 = k then (kv.1, v) else kv else kvs ++ [(k, v)]
def dctOf (kvs : List (Key × D)) : D := .dct (kvs.map fun kv => (keyD kv.1, kv.2))
/-! ### dicts with plain keys -/
section
variable {K : PySem.W.Frag} {mg : Str → Option Value} {rho rho' : List Addr} {F F' H : Hp}
inductive KVr (K : PySem.W.Frag) (mg : Str → Option Value) (rho : List Addr) (F : Hp) : List (Key × V) → List (Key × D) → Prop
  | nil : KVr K mg rho F [] []
  | cons {k v d vs ds} : Rp K mg rho F v d → KVr K mg rho F vs ds → KVr K mg rho F ((k, v) :: vs) ((k, d) :: ds)
theorem key_keyD (k : Key) : keyOf (keyD k) = some k := by cases k <;> rfl
theorem keyOf_eq {d : D} {k : Key} (h : keyOf d = some k) : d = keyD k := by
  cases d <;> simp [keyOf] at h <;> (subst h; rfl)
theorem RpK.kvr : ∀ {kvs : List (Key × V)} {ds : List (D × D)}, RpK K mg rho F kvs ds → ∃ es, keysOf ds = some es ∧ KVr K mg rho F kvs es ∧ ds = es.map fun kv => (keyD kv.1, kv.2)
  | _, _, .nil => ⟨[], rfl, .nil, rfl⟩
  | _, _, .cons (k := k) r rs => by
    obtain ⟨es, h1, h2, h3⟩ := RpK.kvr rs
    exact ⟨(k, _) :: es, by simp [keysOf, key_keyD, h1], .cons r h2, by simp [h3]⟩
theorem KVr.rpk : ∀ {kvs : List (Key × V)} {es : List (Key × D)}, KVr K mg rho F kvs es → RpK K mg rho F kvs (es.map fun kv => (keyD kv.1, kv.2))
  | _, _, .nil => .nil
  | _, _, .cons r rs => .cons r rs.rpk
theorem KVr.mono (s : Onto rho F rho' F') : ∀ {kvs : List (Key × V)} {es : List (Key × D)}, KVr K mg rho F kvs es → KVr K mg rho' F' kvs es
  | _, _, .nil => .nil
  | _, _, .cons r rs => .cons (r.mono s) (rs.mono s)
theorem KVr.length : ∀ {kvs : List (Key × V)} {es : List (Key × D)}, KVr K mg rho F kvs es → kvs.length = es.length
  | _, _, .nil => rfl
  | _, _, .cons _ rs => by simp [rs.length]
theorem KVr.find (k : Key) : ∀ {kvs : List (Key × V)} {es : List (Key × D)}, KVr K mg rho F kvs es → (∃ v d, valV kvs k = some v ∧ findK es k = some d ∧ Rp K mg rho F v d) ∨ (valV kvs k = none ∧ findK es k = none)
  | _, _, .nil => .inr ⟨rfl, rfl⟩
  | _, _, .cons (k := j) (v := v) (d := d) r rs => by
    by_cases e : j = k
    · exact .inl ⟨v, d, by simp [valV, e], by simp [findK, e], r⟩
    · rcases KVr.find k rs with ⟨v', d', h1, h2, h3⟩ | ⟨h1, h2⟩
      · exact .inl ⟨v', d', by simpa [valV, e] using h1, by simpa [findK, e] using h2, h3⟩
      · exact .inr ⟨by simpa [valV, e] using h1, by simpa [findK, e] using h2⟩
theorem KVr.any (k : Key) : ∀ {kvs : List (Key × V)} {es : List (Key × D)}, KVr K mg rho F kvs es → (kvs.any fun kv => decide (kv.1 = k)) = es.any fun kv => decide (kv.1 = k)
  | _, _, .nil => rfl
  | _, _, .cons r rs => by simp [KVr.any k rs]
theorem KVr.repl (k : Key) {v : V} {d : D} (r : Rp K mg rho F v d) : ∀ {kvs : List (Key × V)} {es : List (Key × D)}, KVr K mg rho F kvs es → KVr K mg rho F (kvs.map fun kv => if kv.1 = k then (kv.1, v) else kv) (es.map fun kv => if kv.1 = k then (kv.1, d) else kv)
  | _, _, .nil => .nil
  | _, _, .cons (k := j) r0 rs => by
    simp only [List.map_cons]
    by_cases e : j = k
    · rw [if_pos e, if_pos e]; exact .cons r (KVr.repl k r rs)
    · rw [if_neg e, if_neg e]; exact .cons r0 (KVr.repl k r rs)
theorem KVr.snoc {k : Key} {v : V} {d : D} (r : Rp K mg rho F v d) : ∀ {kvs : List (Key × V)} {es : List (Key × D)}, KVr K mg rho F kvs es → KVr K mg rho F (kvs ++ [(k, v)]) (es ++ [(k, d)])
  | _, _, .nil => .cons r .nil
  | _, _, .cons r0 rs => .cons r0 (rs.snoc r)
theorem KVr.put (k : Key) {v : V} {d : D} (r : Rp K mg rho F v d) {kvs : List (Key × V)} {es : List (Key × D)} (h : KVr K mg rho F kvs es) : KVr K mg rho F (putK kvs k v) (putD es k d) := by
  unfold putK putD
  rw [h.any k]
  split
  · exact h.repl k r
  · exact h.snoc r
theorem KVr.merge {more : List (Key × V)} {ms : List (Key × D)} (h1 : KVr K mg rho F more ms) : ∀ {kvs : List (Key × V)} {es : List (Key × D)}, KVr K mg rho F kvs es → KVr K mg rho F (mergeK kvs more) (ms.foldl (fun acc kv => putD acc kv.1 kv.2) es) := by
  induction h1 with
  | nil => intro kvs es h; exact h
  | @cons k v d vs ds r rs ih => intro kvs es h; exact ih (h.put k r)
theorem Rp.keyV {v : V} {d : D} {k : Key} (h : keyOf d = some k) (r : Rp K mg rho F v d) : v = kV k := by
  rw [keyOf_eq h] at r
  cases k <;> (cases r; rfl)
/-- what a dict holds -/
def viewD (d : D) (m : M) : Option (List (Key × D)) := match d with
  | .dct kvs => keysOf kvs
  | .ref i => match m[i]? with
    | some (.dct kvs) => keysOf kvs
    | _ => none
  | _ => none
theorem Rp.viewD {m : M} {x : V} {d : D} {es : List (Key × D)} (A : Abs K mg rho F H m) (r : Rp K mg rho F x d) (h : viewD d m = some es) : ∃ p kvs, x = .ref p ∧ Rd H p (.dK kvs) ∧ KVr K mg rho F kvs es := by
  unfold HB.viewD at h
  split at h
  · cases r with
    | dK hp hr =>
      obtain ⟨es', w1, w2, _⟩ := hr.kvr
      rw [w1] at h
      cases h
      exact ⟨_, _, rfl, .inr ⟨_, A.ex _ _ hp⟩, w2⟩
  · split at h
    · rename_i hm
      cases r with
      | ref hi =>
        obtain ⟨_, ks, h0, rr⟩ := A.own _ _ _ hi hm
        obtain ⟨es', w1, w2, _⟩ := rr.kvr
        rw [w1] at h
        cases h
        exact ⟨_, _, rfl, .inl h0, w2⟩
    · cases h
  · cases h
/-- a frozen one -/
theorem Rp.frzD {x : V} {kvs : List (D × D)} (e : Same F H) (r : Rp K mg rho F x (.dct kvs)) : ∃ p o ks es, x = .ref p ∧ F p = some (.frz o (.dK ks)) ∧ keysOf kvs = some es ∧ KVr K mg rho F ks es ∧ kvs = es.map fun kv => (keyD kv.1, kv.2) := by
  cases r with
  | dK hp hr =>
    obtain ⟨es', w1, w2, w3⟩ := hr.kvr
    exact ⟨_, _, _, es', rfl, hp, w1, w2, w3⟩
end
/-! ### a new dict is locked at once -/
theorem pe_lockD {X : Cx} {e : Expr} {t : TE} (h : PE X e t) : PE X e (fun σ H Q => t σ H fun v H1 => ∃ p kvs, v = .ref p ∧ H1 p = some (.dK kvs) ∧ ∀ o, Q v (upd H1 p (.frz o (.dK kvs)))) := by
  refine ⟨fun pins s σ H Q I q => wpAny_mono (h.run pins s σ H _ I q) ?_ fun _ _ z => z⟩
  rintro u s' ⟨v, H1, I1, rv, p, kvs, rfl, hp, k⟩
  obtain ⟨od, J⟩ := I1.lock hp trivial
  exact ⟨_, _, J, rv, k od⟩
theorem call_lockD {X : Cx} {f : Value} {r : List V → Hp → VK → Prop} (h : CallR X f r) : CallR X f (fun xs H Q => r xs H fun v H1 => ∃ p kvs, v = .ref p ∧ H1 p = some (.dK kvs) ∧ ∀ o, Q v (upd H1 p (.frz o (.dK kvs)))) := by
  intro pins s σ H xs us Q I rr q
  refine wpAny_mono (h pins s σ H xs us _ I rr q) ?_ fun _ _ z => z
  rintro u s' ⟨v, H1, I1, rv, p, kvs, rfl, hp, k⟩
  obtain ⟨od, J⟩ := I1.lock hp trivial
  exact ⟨_, _, J, rv, k od⟩
section
variable {K : PySem.W.Frag} {mg : Str → Option Value} {rho : List Addr} {F H : Hp} {m : M} {Q : VK}
theorem upd_twice {p : Addr} {a b : HO} : upd (upd H p a) p b = upd H p b := by
  funext x
  by_cases e : x = p
  · subst e; rw [upd_same, upd_same]
  · rw [upd_ne e, upd_ne e, upd_ne e]
/-- a new dict, that stands still -/
theorem RdO.newD {es : List (Key × D)} {ks : List (Key × V)} {p : Addr} (h : RdO K mg rho F H Q (.ok (dctOf es) m)) (A : Abs K mg rho F H m) (r : KVr K mg rho F ks es) (np : H p = none) (o : Obj) : Q (.ref p) (upd (upd H p (.dK ks)) p (.frz o (.dK ks))) := by
  rw [upd_twice]
  obtain ⟨st, A'⟩ := A.fresh (o := .frz o (.dK ks)) np
  exact h _ _ _ _ st A' (.dK upd_same ((r.mono st.onto).rpk))
/-- a new dict of our own -/
theorem RdO.newDM {es : List (Key × D)} {ks : List (Key × V)} {p : Addr} (h : RdO K mg rho F H Q (.ok (.ref m.length) (m ++ [.dct (es.map fun kv => (keyD kv.1, kv.2))]))) (A : Abs K mg rho F H m) (r : KVr K mg rho F ks es) (np : H p = none) : Q (.ref p) (upd H p (.dK ks)) := by
  have nF : F p = none := by
    cases e : F p with
    | none => rfl
    | some u => rw [A.ex p u e] at np; cases np
  have on : Onto rho F (rho ++ [p]) F := ⟨fun h => by rw [List.getElem?_append_left (List.getElem?_eq_some_iff.mp h).1]; exact h, Same.refl F⟩
  obtain ⟨st, A'⟩ := A.alloc (o := .dK ks) (x := .dct (es.map fun kv => (keyD kv.1, kv.2))) np ⟨nF, ks, upd_same, (r.mono on).rpk⟩
  refine h _ _ _ _ st A' (.ref ?_)
  rw [← A.len, List.getElem?_append_right (Nat.le_refl _)]
  simp
end
/-! ### texts in order -/
def leS (a b : Str) : Bool := !decide (b.cps.toList < a.cps.toList)
def insS (x : Str) : List Str → List Str
  | [] => [x]
  | y :: ys => if leS x y then x :: y :: ys else y :: insS x ys
def sortS : List Str → List Str
  | [] => []
  | x :: xs => insS x (sortS xs)
theorem leS_iff {a b : Str} : leS a b = true ↔ a.cps.toList ≤ b.cps.toList := by
  unfold leS
  rw [Bool.not_eq_true', decide_eq_false_iff_not]
  exact List.not_lt
theorem leS_trans {a b c : Str} (h1 : leS a b = true) (h2 : leS b c = true) : leS a c = true := by
  rw [leS_iff] at *
  exact List.le_trans h1 h2
theorem leS_total (a b : Str) : leS a b = true ∨ leS b a = true := by
  rw [leS_iff, leS_iff]
  exact List.le_total _ _
theorem str_ext {a b : Str} (h : a.cps.toList = b.cps.toList) : a = b := by
  cases a; cases b
  simp only at h
  congr 1
  exact Array.ext' h
theorem leS_anti {a b : Str} (h1 : leS a b = true) (h2 : leS b a = true) : a = b := by
  rw [leS_iff] at *
  exact str_ext (List.le_antisymm h1 h2)
theorem insS_perm (x : Str) : ∀ ys : List Str, (insS x ys).Perm (x :: ys)
  | [] => .refl _
  | y :: ys => by
    unfold insS
    split
    · exact .refl _
    · exact (List.Perm.cons y (insS_perm x ys)).trans (List.Perm.swap x y ys)
theorem sortS_perm : ∀ xs : List Str, (sortS xs).Perm xs
  | [] => .refl _
  | x :: xs => (insS_perm x _).trans (List.Perm.cons x (sortS_perm xs))
theorem insS_pw (x : Str) : ∀ {ys : List Str}, ys.Pairwise (fun a b => leS a b = true) → (insS x ys).Pairwise (fun a b => leS a b = true)
  | [], _ => by simp [insS]
  | y :: ys, h => by
    unfold insS
    split
    · rename_i hx
      refine List.Pairwise.cons (fun z hz => ?_) h
      rcases List.mem_cons.mp hz with rfl | hz
      · exact hx
      · exact leS_trans hx ((List.pairwise_cons.mp h).1 z hz)
    · rename_i hx
      have hy : leS y x = true := (leS_total x y).resolve_left hx
      refine List.Pairwise.cons (fun z hz => ?_) (insS_pw x (List.pairwise_cons.mp h).2)
      rcases List.mem_cons.mp ((insS_perm x ys).mem_iff.mp hz) with rfl | hz
      · exact hy
      · exact (List.pairwise_cons.mp h).1 z hz
theorem sortS_pw : ∀ xs : List Str, (sortS xs).Pairwise (fun a b => leS a b = true)
  | [] => .nil
  | x :: xs => insS_pw x (sortS_pw xs)
theorem sortS_uniq {xs ys : List Str} (h : ys.Perm xs) (hp : ys.Pairwise (fun a b => leS a b = true)) : ys = sortS xs :=
  List.Perm.eq_of_pairwise (fun a b _ _ h1 h2 => leS_anti h1 h2) hp (sortS_pw xs) (h.trans (sortS_perm xs).symm)
theorem rising_pw : ∀ (ss : List Str) (p : Str), PyProof.Rows.risingS p ss = true → (p :: ss).Pairwise (fun a b => leS a b = true)
  | [], p, _ => by simp
  | x :: r, p, h => by
    simp only [PyProof.Rows.risingS, Bool.and_eq_true] at h
    have ih := rising_pw r x h.2
    have hx : leS p x = true := by
      have z := h.1
      rw [PyProof.Rows.ltCps_eq] at z
      exact z
    refine List.Pairwise.cons (fun z hz => ?_) ih
    rcases List.mem_cons.mp hz with rfl | hz
    · exact hx
    · exact leS_trans hx ((List.pairwise_cons.mp ih).1 z hz)
theorem sortedS_eq {xs ys : List Str} (h : ys.Perm xs) (hs : PyProof.Rows.sortedS ys = true) : ys = sortS xs := by
  refine sortS_uniq h ?_
  cases ys with
  | nil => exact .nil
  | cons y r => exact rising_pw r y hs
end HB
/-! != of two lists whose items are all equal, for this program and this world -/
namespace PySem.SeqAt
open AutoSeq1 (wpAny_loadPart')
open MeetsSeq MeetsSeq2 MeetsSeq3 SeqRoads2
section
variable {prog : Program} {w : World}
theorem hb_ne_loop (l b : Addr) (items items2 : Array Value) (n n2 : Nat) (dd dd2 : Option Addr) (sl sl2 : Array (Option Value)) (hsz : items.size = items2.size) (k : Nat) :
    ∀ i : Nat, items.size - i = k → MeetsIn prog w (Builtin.«list.__eq__.loop» ⟨[.ref l, .ref b, rawInt i, rawInt 3], []⟩)
      (fun A R s => s.heap.get? l = some { cls := .type "list", dict := dd, data := .seq items n, slots := sl } ∧ s.heap.get? b = some { cls := .type "list", dict := dd2, data := .seq items2 n2, slots := sl2 } ∧
        (∀ j (h1 : j < items.size) (h2 : j < items2.size), EqIn prog w A.in1 s items[j] items2[j] true) ∧ R (.ok (.ret (.bool false))) s) := by
  induction k with
  | zero =>
    intro i hk A R s h
    obtain ⟨hp, g, d, tk, os⟩ := s
    obtain ⟨hl, hb, he, h⟩ := h
    wp_walk using wpAny_loadPart' hl, wpAny_loadPart' hb
    have hi1 : items[((i : Nat) : Int).toNat]? = none := by simp; omega
    have hi2 : items2[((i : Nat) : Int).toNat]? = none := by simp; omega
    rw [hi1, hi2]
    wp_walk using wpAny_loadPart' hl, wpAny_loadPart' hb
    show R (.ok (.ret (.bool (items.size != items2.size)))) _
    rw [hsz]
    simpa using h
  | succ k ih =>
    intro i hk A R s h
    obtain ⟨hp, g, d, tk, os⟩ := s
    obtain ⟨hl, hb, he, h⟩ := h
    wp_walk using wpAny_loadPart' hl, wpAny_loadPart' hb
    have hlt : i < items.size := by omega
    have hlt2 : i < items2.size := by omega
    have hi1 : items[((i : Nat) : Int).toNat]? = some items[i] := by simp [hlt]
    have hi2 : items2[((i : Nat) : Int).toNat]? = some items2[i] := by simp [hlt2]
    have hc : ((i : Int) + 1) = ((i + 1 : Nat) : Int) := by push_cast; rfl
    rw [hi1, hi2]
    refine wpAny_bind (he i hlt hlt2 _ _ ?_)
    wp_walk
    rw [hc]
    exact ⟨plainId_quiet plain_eq_loop _, codeAny_builtin entry_eq_loop (by
      rw [Around.under_plainId plain_eq_loop _]
      exact ih (i + 1) (by omega) A R _ ⟨hl, hb, he, h⟩)⟩
theorem hb_list_ne (l b : Addr) (items items2 : Array Value) (n n2 : Nat) (dd dd2 : Option Addr) (sl sl2 : Array (Option Value)) (hsz : items.size = items2.size) :
    MeetsIn prog w (Builtin.«list.__ne__» ⟨[.ref l, .ref b], []⟩)
      (fun A R s => s.heap.get? l = some { cls := .type "list", dict := dd, data := .seq items n, slots := sl } ∧ s.heap.get? b = some { cls := .type "list", dict := dd2, data := .seq items2 n2, slots := sl2 } ∧
        (∀ j (h1 : j < items.size) (h2 : j < items2.size), EqIn prog w A.in1 s items[j] items2[j] true) ∧ R (.ok (.ret (.bool false))) s) := by
  intro A R s h
  obtain ⟨hp, g, d, tk, os⟩ := s
  obtain ⟨hl, hb, he, h⟩ := h
  have f3 := AutoSeq1.sub_list_list
  have hne : ¬ (items.size != items2.size) = true := by simp [hsz]
  wp_walk using wpAny_loadPart' hl, wpAny_loadPart' hb
  exact ⟨plainId_quiet plain_eq_loop _, codeAny_builtin entry_eq_loop (by
    rw [Around.under_plainId plain_eq_loop _]
    exact hb_ne_loop l b items items2 n n2 dd dd2 sl sl2 hsz _ 0 rfl A R _ ⟨hl, hb, he, h⟩)⟩
theorem hb_rcNe {A : Around} {s : Shared} {E : Value → Shared → Prop} {l b : Addr} {items items2 : Array Value} {Q : Value → Shared → Prop} (hl : s.heap.IsList l items) (hb : s.heap.IsList b items2) (hsz : items.size = items2.size) (hu : A.units < cLine)
    (he : ∀ j (h1 : j < items.size) (h2 : j < items2.size), EqIn prog w A.in1 s items[j] items2[j] true) (h : Q (.bool false) s) : wpAny (model prog w) A (richCompare .NotEq (.ref l) (.ref b)) Q E s := by
  obtain ⟨⟨cls, dd, data, sl⟩, ho, hc, n, hd⟩ := id hl
  obtain ⟨⟨cls2, dd2, data2, sl2⟩, ho2, hc2, n2, hd2⟩ := id hb
  simp only at hc hd hc2 hd2
  subst hc hd hc2 hd2
  exact wpAny_richCompare_same_room (T := "list") (op := .NotEq) ⟨_, ho, rfl⟩ ⟨_, ho2, rfl⟩ F.slot_list_ne (call_meetsIn F.slot_list_ne ⟨_, ho, rfl⟩ F.entry_list_ne (F.args_list_ne_2 _ _) (hb_list_ne l b items items2 n n2 dd dd2 sl sl2 hsz)
    ⟨ho, ho2, he, show Value.bool false ≠ Value.notImplemented ∧ Q (.bool false) s from ⟨(fun x => nomatch x), h⟩⟩) hu
end
end PySem.SeqAt
namespace HB
open PySem L2

/-! ### data without objects, as the library's -/
mutual
def py : D → Option PyData
  | .non => some .none
  | .bl b => some (.bool b)
  | .int i => some (.int i)
  | .str x => some (.str x)
  | .tup ds => (pyL ds).map .tuple
  | .lst ds => (pyL ds).map .list
  | .dct _ => none
  | .obj _ _ => none
  | .exv _ _ => none
  | .ref _ => none
  | .scr _ => none
def pyL : List D → Option (List PyData)
  | [] => some []
  | d :: ds => match py d, pyL ds with
    | some p, some q => some (p :: q)
    | _, _ => none
end
/-- the same, a list of our own at the top -/
def pyT (d : D) (m : M) : Option PyData := match d with
  | .ref i => match m[i]? with
    | some (.lst ds) => (pyL ds).map .list
    | _ => none
  | d => py d
section
variable {K : PySem.W.Frag} {mg : Str → Option Value} {rho : List Addr} {F H : Hp}
mutual
theorem dp_of (e : Same F H) : ∀ (d : D) {x : V} {p : PyData}, Rp K mg rho F x d → py d = some p → Dp K H x p
  | .non, _, _, r, h => by cases r; simp [py] at h; subst h; exact .non
  | .bl b, _, _, r, h => by cases r; simp [py] at h; subst h; exact .bl b
  | .int i, _, _, r, h => by cases r; simp [py] at h; subst h; exact .int i
  | .str x, _, _, r, h => by cases r; simp [py] at h; subst h; exact .str x
  | .tup ds, _, _, r, h => by
    simp only [py, Option.map_eq_some_iff] at h
    obtain ⟨ps, h1, rfl⟩ := h
    cases r with
    | tup hs hr => exact .tup (sqT_mono e hs) (dpL_of e ds hr h1)
  | .lst ds, _, _, r, h => by
    simp only [py, Option.map_eq_some_iff] at h
    obtain ⟨ps, h1, rfl⟩ := h
    cases r with
    | lst hs hr => exact .lst (SqL.of (e _ _ hs)) (dpL_of e ds hr h1)
  | .dct _, _, _, _, h => by simp [py] at h
  | .obj _ _, _, _, _, h => by simp [py] at h
  | .exv _ _, _, _, _, h => by simp [py] at h
  | .ref _, _, _, _, h => by simp [py] at h
  | .scr _, _, _, _, h => by simp [py] at h
theorem dpL_of (e : Same F H) : ∀ (ds : List D) {xs : List V} {ps : List PyData}, RpL K mg rho F xs ds → pyL ds = some ps → DpAll K H xs ps
  | [], _, _, r, h => by cases r; simp [pyL] at h; subst h; exact .nil
  | d :: ds, _, _, r, h => by
    simp only [pyL] at h
    split at h
    · rename_i p q h1 h2
      cases h
      cases r with
      | cons r1 r2 => exact .cons (dp_of e d r1 h1) (dpL_of e ds r2 h2)
    · cases h
end
theorem dp_top {m : M} {d : D} {x : V} {p : PyData} (A : Abs K mg rho F H m) (r : Rp K mg rho F x d) (h : pyT d m = some p) : Dp K H x p := by
  unfold pyT at h
  split at h
  · split at h
    · rename_i hm
      simp only [Option.map_eq_some_iff] at h
      obtain ⟨ps, h1, rfl⟩ := h
      cases r with
      | ref hi =>
        obtain ⟨_, vs, h0, r⟩ := A.own _ _ _ hi hm
        exact .lst (SqL.of h0) (dpL_of A.ex _ r h1)
    · cases h
  · exact dp_of A.ex d r h
end

/-! ### == of dicts -/
def shp (d : D) : Bool := match py d with
  | some p => SeqAt.shaped p
  | none => false
def eqP (d e : D) : Bool := match py d, py e with
  | some p, some q => PyData.eqv p q
  | _, _ => false
def hitsB (fs : List (Key × D)) : List (Key × D) → Bool
  | [] => true
  | (k, d) :: r => match findK fs k with
    | some e => eqP d e && hitsB fs r
    | none => false
def eqK (es fs : List (Key × D)) : Bool := es.length == fs.length && hitsB fs es
theorem eqAt_D {X : Cx} {pins : List (Addr × Obj)} {σ : L2.St} {H : Hp} {s : Shared} {mg : Str → Option Value} {rho : List Addr} {F : Hp} {A : Around} {x y : V} {d e : D} {v u : Value} (I : Inv X pins σ H s) (ex : Same F H) (rx : Rp X.K mg rho F x d) (ry : Rp X.K mg rho F y e) (hd : shp d = true) (he : shp e = true)
    (rv : RelV x v) (ru : RelV y u) (hu : A.units + 64 < cLine) : SeqAt.EqAt A s v u (eqP d e) := by
  unfold shp at hd he
  cases pd : py d with
  | none => rw [pd] at hd; cases hd
  | some p =>
    cases pe : py e with
    | none => rw [pe] at he; cases he
    | some q =>
      rw [pd] at hd
      rw [pe] at he
      obtain ⟨as, r1⟩ := Dp.reads I p x v (dp_of ex d rx pd) rv
      obtain ⟨bs, r2⟩ := Dp.reads I q y u (dp_of ex e ry pe) ru
      have := SeqAt.eqAt_reads p q A s v u as bs r1 r2 (SeqAt.canLay_of_shaped hd) (SeqAt.canLay_of_shaped he) (SeqAt.room_of_shaped hd hu)
      unfold eqP
      rw [pd, pe]
      exact this
theorem findK_mem {k : Key} {e : D} : ∀ {fs : List (Key × D)}, findK fs k = some e → (k, e) ∈ fs := by
  intro fs h
  unfold findK at h
  rw [Option.map_eq_some_iff] at h
  obtain ⟨p, h1, rfl⟩ := h
  have h2 := List.find?_some h1
  have h3 := List.mem_of_find?_eq_some h1
  simp only [decide_eq_true_eq] at h2
  obtain ⟨a, b⟩ := p
  simp only at h2
  subst h2
  exact h3
theorem hits_D {X : Cx} {pins : List (Addr × Obj)} {σ : L2.St} {H : Hp} {s : Shared} {mg : Str → Option Value} {rho : List Addr} {F : Hp} {A : Around} (I : Inv X pins σ H s) (ex : Same F H) (hu : A.units + 64 < cLine) {ls : List (Key × V)} {fs : List (Key × D)} {vb : List (Key × Value)} (rl : KVr X.K mg rho F ls fs) (kl : KV ls vb) (hf : fs.all (fun p => shp p.2) = true)
    {ks : List (Key × V)} {es : List (Key × D)} (rk : KVr X.K mg rho F ks es) : ∀ {va : List (Key × Value)}, KV ks va → es.all (fun p => shp p.2) = true → PySem.W.KeqHits A s vb va (hitsB fs es) := by
  induction rk with
  | nil => intro va kv _; cases kv; exact .nil
  | @cons k v d vs ds r rs ih =>
    intro va kv he
    cases kv with
    | cons h t =>
      rename_i q qs
      obtain ⟨h1, h2⟩ := h
      obtain ⟨key, w⟩ := q
      have e1 : k = key := h1
      subst e1
      simp only [List.all_cons, Bool.and_eq_true] at he
      have rr := kl.val k
      simp only [hitsB]
      rcases rl.find k with ⟨v', d', f1, f2, f3⟩ | ⟨f1, f2⟩
      · rw [f1] at rr
        obtain ⟨y, hy, ry⟩ := rr.some_of
        rw [f2]
        have hd' : shp d' = true := List.all_eq_true.mp hf _ (findK_mem f2)
        exact .hit hy (eqAt_D I ex r f3 he.1 hd' h2 ry hu) (ih t he.2)
      · rw [f1] at rr
        rw [f2]
        refine .miss ?_
        cases hz : valueAt vb k with
        | none => rfl
        | some z => rw [hz] at rr; exact rr.elim
/-- the same, also lists with dicts in them -/
def sameP (d e : D) : Bool := match d, e with
  | .dct k1, .dct k2 => match keysOf k1, keysOf k2 with
    | some es, some fs => es.all (fun p => shp p.2) && fs.all (fun p => shp p.2) && eqK es fs
    | _, _ => false
  | d, e => shp d && shp e && eqP d e
def sameL : List D → List D → Bool
  | [], [] => true
  | d :: ds, e :: es => sameP d e && sameL ds es
  | _, _ => false
theorem same_at {X : Cx} {pins : List (Addr × Obj)} {σ : L2.St} {H : Hp} {s : Shared} {rho : List Addr} {F : Hp} {m : M} {A : Around} {x y : V} {d e : D} {v u : Value} (I : Inv X pins σ H s) (AA : Abs X.K X.mg rho F H m) (rx : Rp X.K X.mg rho F x d) (ry : Rp X.K X.mg rho F y e) (h : sameP d e = true)
    (rv : RelV x v) (ru : RelV y u) (hu : A.units + 65 < cLine) : SeqAt.EqIn X.prog X.w A s v u true := by
  unfold sameP at h
  split at h
  · rename_i k1 k2
    split at h
    · rename_i es fs e1 e2
      simp only [Bool.and_eq_true] at h
      obtain ⟨⟨s1, s2⟩, hq⟩ := h
      obtain ⟨a, ks, rfl, ha, ka⟩ := rx.viewD AA (show viewD (.dct k1) m = some es from e1)
      obtain ⟨b, ls, rfl, hb, kb⟩ := ry.viewD AA (show viewD (.dct k2) m = some fs from e2)
      obtain rfl : v = Value.ref a := rv
      obtain rfl : u = Value.ref b := ru
      by_cases hab : a = b
      · subst hab
        exact (SeqAt.EqAt.same _).inModel _ _
      · obtain ⟨_, ya, va, ra, da⟩ := dk_rd I.hok ha
        obtain ⟨_, yb, vb, rb, db⟩ := dk_rd I.hok hb
        have la : va.length = es.length := by rw [← ra.length]; exact ka.length
        have lb : vb.length = fs.length := by rw [← rb.length]; exact kb.length
        refine SeqAt.EqIn.of_refs hab fun E Q q => ?_
        refine PySem.W.keq_eq (knd := mixKind X.prog X.w) (r := hitsB fs es) ya yb da db (by omega) (fun _ => hits_D I AA.ex (show A.units + 1 + 64 < cLine by omega) kb rb s2 ka ra s1) ?_
        have : (va.length == vb.length && hitsB fs es) = true := by rw [la, lb]; exact hq
        rw [this]
        exact q
    · cases h
  · simp only [Bool.and_eq_true] at h
    have := eqAt_D (A := A) I AA.ex rx ry h.1.1 h.1.2 rv ru (by omega)
    rw [h.2] at this
    exact this.inModel _ _
theorem sameL_at {X : Cx} {pins : List (Addr × Obj)} {σ : L2.St} {H : Hp} {s : Shared} {rho : List Addr} {F : Hp} {m : M} {A : Around} (I : Inv X pins σ H s) (AA : Abs X.K X.mg rho F H m) (hu : A.units + 65 < cLine) : ∀ {xs ys : List V} {ds es : List D} {vs us : List Value},
    RpL X.K X.mg rho F xs ds → RpL X.K X.mg rho F ys es → sameL ds es = true → Vals xs vs → Vals ys us → vs.length = us.length ∧ ∀ (j : Nat) v u, vs[j]? = some v → us[j]? = some u → SeqAt.EqIn X.prog X.w A s v u true
  | _, _, [], [], _, _, .nil, .nil, _, .nil, .nil => ⟨rfl, fun j v u h _ => by simp at h⟩
  | _, _, _ :: _, [], _, _, _, _, h, _, _ => by simp [sameL] at h
  | _, _, [], _ :: _, _, _, _, _, h, _, _ => by simp [sameL] at h
  | _, _, d :: ds, e :: es, _, _, .cons r1 r2, .cons q1 q2, h, .cons w1 w2, .cons z1 z2 => by
    simp only [sameL, Bool.and_eq_true] at h
    obtain ⟨l, ih⟩ := sameL_at I AA hu r2 q2 h.2 w2 z2
    refine ⟨by simp [l], fun j v u hv hu' => ?_⟩
    cases j with
    | zero =>
      simp only [List.getElem?_cons_zero, Option.some.injEq] at hv hu'
      subst hv; subst hu'
      exact same_at I AA r1 q1 h.1 w1 z1 hu
    | succ j => exact ih j v u (by simpa using hv) (by simpa using hu')
/-- == -/
def eqB (d e : D) (m : M) : R Bool := match viewD d m, viewD e m with
  | some es, some fs => if es.all (fun p => shp p.2) = true ∧ fs.all (fun p => shp p.2) = true then .ok (eqK es fs) m else .no
  | _, _ => match d, e with
    | .int i, .int j => .ok (decide (i = j)) m
    | .str x, .str y => .ok (decide (x = y)) m
    | .bl x, .bl y => .ok (decide (x = y)) m
    | d, e => match pyT d m, pyT e m with
      | some p, some q => if SeqAt.shaped p = true ∧ SeqAt.shaped q = true then .ok (PyData.eqv p q) m else .no
      | _, _ => match d, e with
        | .lst ds, .lst es => if sameL ds es then .ok true m else .no
        | _, _ => .no
def blR (r : R Bool) : R D := match r with
  | .ok b m => .ok (.bl b) m
  | .ex c m => .ex c m
  | .no => .no
def notR (r : R Bool) : R Bool := match r with
  | .ok b m => .ok (!b) m
  | .ex c m => .ex c m
  | .no => .no
def eqD (d e : D) (m : M) : R D := blR (eqB d e m)
def neD (d e : D) (m : M) : R D := blR (notR (eqB d e m))
section
variable {X : Cx}
theorem rp_bl {K : PySem.W.Frag} {mg : Str → Option Value} {rho : List Addr} {F : Hp} {b c : Bool} (h : b = c) : Rp K mg rho F (.bl b) (.bl c) := by subst h; exact .bl
theorem od_eqK (hu : X.A.units + 65 < cLine) : OpR X (compareOp .Eq) (fun x y H Q => ∃ rho F m d e es fs, Abs X.K X.mg rho F H m ∧ Rp X.K X.mg rho F x d ∧ Rp X.K X.mg rho F y e ∧ viewD d m = some es ∧ viewD e m = some fs ∧ es.all (fun p => shp p.2) = true ∧ fs.all (fun p => shp p.2) = true ∧ Q (.bl (eqK es fs)) H) := by
  intro pins s σ H x y v u Q I rx ry h
  obtain ⟨rho, F, m, d, e, es, fs, A, r1, r2, v1, v2, s1, s2, q⟩ := h
  obtain ⟨a, ks, rfl, ha, ka⟩ := r1.viewD A v1
  obtain ⟨b, ls, rfl, hb, kb⟩ := r2.viewD A v2
  obtain rfl : v = Value.ref a := rx
  obtain rfl : u = Value.ref b := ry
  obtain ⟨_, ya, va, ra, da⟩ := dk_rd I.hok ha
  obtain ⟨_, yb, vb, rb, db⟩ := dk_rd I.hok hb
  have la : va.length = es.length := by rw [← ra.length]; exact ka.length
  have lb : vb.length = fs.length := by rw [← rb.length]; exact kb.length
  exact PySem.W.keq_eq (knd := mixKind X.prog X.w) (r := hitsB fs es) ya yb da db (by omega) (fun _ => hits_D I A.ex (show X.A.units + 1 + 64 < cLine by omega) kb rb s2 ka ra s1) (fin_bl I q (by unfold eqK; rw [la, lb]))
theorem lists_at {pins : List (Addr × Obj)} {σ : L2.St} {H : Hp} {s : Shared} {rho : List Addr} {F : Hp} {m : M} {x y : V} {ds es : List D} {v u : Value} (I : Inv X pins σ H s) (A : Abs X.K X.mg rho F H m) (r1 : Rp X.K X.mg rho F x (.lst ds)) (r2 : Rp X.K X.mg rho F y (.lst es)) (h : sameL ds es = true) (rx : RelV x v) (ry : RelV y u) (hu : X.A.units + 66 < cLine) :
    ∃ l b items items2, v = .ref l ∧ u = .ref b ∧ s.heap.IsList l items ∧ s.heap.IsList b items2 ∧ items.size = items2.size ∧ ∀ j (h1 : j < items.size) (h2 : j < items2.size), SeqAt.EqIn X.prog X.w X.A.in1 s items[j] items2[j] true := by
  cases r1 with
  | lst f1 q1 =>
    cases r2 with
    | lst f2 q2 =>
      rename_i a vs b us
      obtain rfl : v = Value.ref a := rx
      obtain rfl : u = Value.ref b := ry
      obtain ⟨its, rv, pl, _⟩ := I.list (SqL.of (A.ex _ _ f1))
      obtain ⟨its2, rv2, pl2, _⟩ := I.list (SqL.of (A.ex _ _ f2))
      obtain ⟨hl, hh⟩ := sameL_at (A := X.A.in1) I A (show X.A.units + 1 + 65 < cLine by omega) q1 q2 h rv rv2
      refine ⟨a, b, its.toArray, its2.toArray, rfl, rfl, pl.isList, pl2.isList, by simpa using hl, fun j h1 h2 => ?_⟩
      exact hh j _ _ (by simp) (by simp)
theorem od_eqL (hu : X.A.units + 66 < cLine) : OpR X (compareOp .Eq) (fun x y H Q => ∃ rho F m ds es, Abs X.K X.mg rho F H m ∧ Rp X.K X.mg rho F x (.lst ds) ∧ Rp X.K X.mg rho F y (.lst es) ∧ sameL ds es = true ∧ Q (.bl true) H) := by
  intro pins s σ H x y v u Q I rx ry h
  obtain ⟨rho, F, m, ds, es, A, r1, r2, h, q⟩ := h
  obtain ⟨l, b, i1, i2, rfl, rfl, w1, w2, hs, he⟩ := lists_at I A r1 r2 h rx ry hu
  exact SeqAt.rcIn_lists (e := fun _ => true) w1 w2 hs (by omega) he (fin_bl I q (by simp))
theorem od_neL (hu : X.A.units + 66 < cLine) : OpR X (compareOp .NotEq) (fun x y H Q => ∃ rho F m ds es, Abs X.K X.mg rho F H m ∧ Rp X.K X.mg rho F x (.lst ds) ∧ Rp X.K X.mg rho F y (.lst es) ∧ sameL ds es = true ∧ Q (.bl false) H) := by
  intro pins s σ H x y v u Q I rx ry h
  obtain ⟨rho, F, m, ds, es, A, r1, r2, h, q⟩ := h
  obtain ⟨l, b, i1, i2, rfl, rfl, w1, w2, hs, he⟩ := lists_at I A r1 r2 h rx ry hu
  exact SeqAt.hb_rcNe w1 w2 hs (by omega) he (fin_bl I q rfl)
theorem od_eq (hu : X.A.units + 66 < cLine) : OpD X (compareOp .Eq) eqD := OpR.imp (((op_eq.or (op_eqD (by omega))).or (od_eqK (by omega))).or (od_eqL hu)) (by
  rintro x y H Q ⟨rho, F, m, d, e, A, r1, r2, h⟩
  unfold eqD eqB at h
  split at h
  · rename_i es fs v1 v2
    split at h
    · rename_i hc
      exact .inl (.inr ⟨rho, F, m, d, e, es, fs, A, r1, r2, v1, v2, hc.1, hc.2, h.here A (rp_bl rfl)⟩)
    · exact h.elim
  · split at h
    · cases r1; cases r2; exact .inl (.inl (.inl ⟨rfl, h.here A (rp_bl (by simp))⟩))
    · cases r1; cases r2; exact .inl (.inl (.inl ⟨rfl, h.here A (rp_bl (by simp))⟩))
    · cases r1; cases r2; exact .inl (.inl (.inl ⟨rfl, h.here A (rp_bl (by simp))⟩))
    · split at h
      · split at h
        · rename_i h1 h2 hc
          exact .inl (.inl (.inr ⟨_, _, dp_top A r1 h1, dp_top A r2 h2, hc.1, hc.2, h.here A .bl⟩))
        · exact h.elim
      · split at h
        · split at h
          · rename_i hc
            exact .inr ⟨rho, F, m, _, _, A, r1, r2, hc, h.here A .bl⟩
          · exact h.elim
        · exact h.elim)
theorem od_neK (hu : X.A.units + 65 < cLine) : OpR X (compareOp .NotEq) (fun x y H Q => ∃ rho F m d e es fs, Abs X.K X.mg rho F H m ∧ Rp X.K X.mg rho F x d ∧ Rp X.K X.mg rho F y e ∧ viewD d m = some es ∧ viewD e m = some fs ∧ es.all (fun p => shp p.2) = true ∧ fs.all (fun p => shp p.2) = true ∧ Q (.bl (!eqK es fs)) H) := by
  intro pins s σ H x y v u Q I rx ry h
  obtain ⟨rho, F, m, d, e, es, fs, A, r1, r2, v1, v2, s1, s2, q⟩ := h
  obtain ⟨a, ks, rfl, ha, ka⟩ := r1.viewD A v1
  obtain ⟨b, ls, rfl, hb, kb⟩ := r2.viewD A v2
  obtain rfl : v = Value.ref a := rx
  obtain rfl : u = Value.ref b := ry
  obtain ⟨_, ya, va, ra, da⟩ := dk_rd I.hok ha
  obtain ⟨_, yb, vb, rb, db⟩ := dk_rd I.hok hb
  have la : va.length = es.length := by rw [← ra.length]; exact ka.length
  have lb : vb.length = fs.length := by rw [← rb.length]; exact kb.length
  exact PySem.W.keq_ne (knd := mixKind X.prog X.w) (r := hitsB fs es) ya yb da db (by omega) (fun _ => hits_D I A.ex (show X.A.units + 1 + 64 < cLine by omega) kb rb s2 ka ra s1) (fin_bl I q (by unfold eqK; rw [la, lb]))
theorem od_ne (hu : X.A.units + 66 < cLine) : OpD X (compareOp .NotEq) neD := OpR.imp (((op_ne.or (op_neD (by omega))).or (od_neK (by omega))).or (od_neL hu)) (by
  rintro x y H Q ⟨rho, F, m, d, e, A, r1, r2, h⟩
  unfold neD eqB at h
  split at h
  · rename_i es fs v1 v2
    split at h
    · rename_i hc
      exact .inl (.inr ⟨rho, F, m, d, e, es, fs, A, r1, r2, v1, v2, hc.1, hc.2, h.here A (rp_bl rfl)⟩)
    · exact h.elim
  · split at h
    · cases r1; cases r2; exact .inl (.inl (.inl ⟨rfl, h.here A (rp_bl (by simp))⟩))
    · cases r1; cases r2; exact .inl (.inl (.inl ⟨rfl, h.here A (rp_bl (by simp))⟩))
    · cases r1; cases r2; exact .inl (.inl (.inl ⟨rfl, h.here A (rp_bl (by simp))⟩))
    · split at h
      · split at h
        · rename_i h1 h2 hc
          exact .inl (.inl (.inr ⟨_, _, dp_top A r1 h1, dp_top A r2 h2, hc.1, hc.2, h.here A .bl⟩))
        · exact h.elim
      · split at h
        · split at h
          · rename_i hc
            exact .inr ⟨rho, F, m, _, _, A, r1, r2, hc, h.here A .bl⟩
          · exact h.elim
        · exact h.elim)
/-! ### < <= > >= -/
def ltD (d e : D) (m : M) : R D := match d, e with
  | .int i, .int j => .ok (.bl (decide (i < j))) m
  | .str x, .str y => .ok (.bl (decide (x.cps.toList < y.cps.toList))) m
  | _, _ => .no
def leD (d e : D) (m : M) : R D := match d, e with
  | .int i, .int j => .ok (.bl (decide (i ≤ j))) m
  | .str x, .str y => .ok (.bl (!decide (y.cps.toList < x.cps.toList))) m
  | _, _ => .no
def gtD (d e : D) (m : M) : R D := ltD e d m
def geD (d e : D) (m : M) : R D := leD e d m
theorem od_lt : OpD X (compareOp .Lt) ltD := OpR.imp (op_lt.or op_lt_str) (by
  rintro x y H Q ⟨rho, F, m, d, e, A, r1, r2, h⟩
  unfold ltD at h
  split at h
  · cases r1; cases r2; exact .inl ⟨_, _, rfl, rfl, h.here A .bl⟩
  · cases r1; cases r2; exact .inr ⟨_, _, rfl, rfl, h.here A .bl⟩
  · exact h.elim)
theorem od_le : OpD X (compareOp .LtE) leD := OpR.imp (op_le.or op_le_str) (by
  rintro x y H Q ⟨rho, F, m, d, e, A, r1, r2, h⟩
  unfold leD at h
  split at h
  · cases r1; cases r2; exact .inl ⟨_, _, rfl, rfl, h.here A .bl⟩
  · cases r1; cases r2; exact .inr ⟨_, _, rfl, rfl, h.here A .bl⟩
  · exact h.elim)
theorem od_gt : OpD X (compareOp .Gt) gtD := OpR.imp (op_gt.or op_gt_str) (by
  rintro x y H Q ⟨rho, F, m, d, e, A, r1, r2, h⟩
  unfold gtD ltD at h
  split at h
  · cases r1; cases r2; exact .inl ⟨_, _, rfl, rfl, h.here A .bl⟩
  · cases r1; cases r2; exact .inr ⟨_, _, rfl, rfl, h.here A .bl⟩
  · exact h.elim)
theorem od_ge : OpD X (compareOp .GtE) geD := OpR.imp (op_ge.or op_ge_str) (by
  rintro x y H Q ⟨rho, F, m, d, e, A, r1, r2, h⟩
  unfold geD leD at h
  split at h
  · cases r1; cases r2; exact .inl ⟨_, _, rfl, rfl, h.here A .bl⟩
  · cases r1; cases r2; exact .inr ⟨_, _, rfl, rfl, h.here A .bl⟩
  · exact h.elim)
/-! ### is None -/
def isND (d e : D) (m : M) : R D := match e with
  | .non => match d with
    | .non => .ok (.bl true) m
    | _ => .ok (.bl false) m
  | _ => .no
def notND (d e : D) (m : M) : R D := match e with
  | .non => match d with
    | .non => .ok (.bl false) m
    | _ => .ok (.bl true) m
  | _ => .no
theorem rp_non {K : PySem.W.Frag} {mg : Str → Option Value} {rho : List Addr} {F : Hp} {x : V} {d : D} (r : Rp K mg rho F x d) (h : d ≠ .non) : x ≠ .non := by
  cases r <;> first | exact absurd rfl h | (intro z; cases z)
theorem od_isN : OpD X (compareOp .Is) isND := OpR.imp op_isN (by
  rintro x y H Q ⟨rho, F, m, d, e, A, r1, r2, h⟩
  unfold isND at h
  split at h
  · cases r2
    split at h
    · cases r1; exact ⟨rfl, h.here A (rp_bl (by simp))⟩
    · rename_i hd
      exact ⟨rfl, h.here A (rp_bl (decide_eq_false (rp_non r1 hd)))⟩
  · exact h.elim)
theorem od_notN : OpD X (compareOp .IsNot) notND := OpR.imp op_notN (by
  rintro x y H Q ⟨rho, F, m, d, e, A, r1, r2, h⟩
  unfold notND at h
  split at h
  · cases r2
    split at h
    · cases r1; exact ⟨rfl, h.here A (rp_bl (by simp))⟩
    · rename_i hd
      exact ⟨rfl, h.here A (rp_bl (by rw [decide_eq_false (rp_non r1 hd)]; rfl))⟩
  · exact h.elim)
end
/-! ### in -/
def flatD : D → Bool
  | .non => true | .bl _ => true | .int _ => true | .str _ => true | _ => false
def eqF : D → D → Bool
  | .non, .non => true
  | .bl a, .bl b => a == b
  | .bl a, .int b => (if a then 1 else 0) == b
  | .int a, .bl b => a == (if b then 1 else 0)
  | .int a, .int b => a == b
  | .str a, .str b => a == b
  | _, _ => false
def inB (d e : D) (m : M) : R Bool := match viewD e m with
  | some es => match keyOf d with
    | some k => .ok (findK es k).isSome m
    | none => .no
  | none => match e with
  | .str y => match d with
    | .str x => .ok (!(Builtin.Str.occurrences y x 0 y.length 1).isEmpty) m
    | _ => .no
  | e => match viewQ e m with
    | some ds => if flatD d && ds.all flatD then .ok (ds.any fun y => eqF y d) m else
      match pyT d m, pyT e m with
      | some p, some (.list q) => if SeqAt.shaped p = true ∧ SeqAt.shaped (.list q) = true then .ok (q.any fun z => PyData.eqv z p) m else .no
      | _, _ => .no
    | none => .no
def inD (d e : D) (m : M) : R D := blR (inB d e m)
def notInD (d e : D) (m : M) : R D := blR (notR (inB d e m))
section
variable {K : PySem.W.Frag} {mg : Str → Option Value} {rho : List Addr} {F H : Hp}
theorem flat_of {x : V} {d : D} (r : Rp K mg rho F x d) (h : flatD d = true) : flatV x = true := by
  cases r <;> first | rfl | cases h
theorem eqF_of {x y : V} {d e : D} (r : Rp K mg rho F x d) (q : Rp K mg rho F y e) (h : flatD d = true) (h' : flatD e = true) : eqV x y = eqF d e := by
  cases r <;> cases q <;> first | rfl | (simp [flatD] at h; done) | (simp [flatD] at h'; done)
theorem flatL_of {xs : List V} {ds : List D} (r : RpL K mg rho F xs ds) (h : ds.all flatD = true) : xs.all flatV = true := by
  induction ds generalizing xs with
  | nil => cases r; rfl
  | cons d ds ih =>
    simp only [List.all_cons, Bool.and_eq_true] at h
    cases r with
    | cons r1 r2 => simp only [List.all_cons, Bool.and_eq_true]; exact ⟨flat_of r1 h.1, ih r2 h.2⟩
theorem inV_of {x : V} {d : D} {xs : List V} {ds : List D} (r : Rp K mg rho F x d) (rs : RpL K mg rho F xs ds) (h : flatD d = true) (hs : ds.all flatD = true) : inV x xs = ds.any fun y => eqF y d := by
  unfold inV
  induction ds generalizing xs with
  | nil => cases rs; rfl
  | cons e ds ih =>
    simp only [List.all_cons, Bool.and_eq_true] at hs
    cases rs with
    | cons r1 r2 => simp only [List.any_cons]; rw [eqF_of r1 r hs.1 h, ih r2 hs.2]
end
section
variable {X : Cx}
theorem od_inK (hu : X.A.units + 1 < cLine) : OpR X (compareOp .In) (fun x y H Q => ∃ a o, y = .ref a ∧ DGet H a x o ∧ Q (.bl (o.isSome)) H) := by
  intro pins s σ H x y v u Q I rx ry h
  obtain ⟨a, o, rfl, g, q⟩ := h
  obtain rfl : u = Value.ref a := ry
  exact d_in hu I g rx fun s3 I3 => ⟨.bl _, H, I3, rfl, q⟩
theorem od_in (hu : X.A.units + 65 < cLine) : OpD X (compareOp .In) inD := OpR.imp ((op_in_str.or (op_in_seq.or (op_inD hu))).or (od_inK (by omega))) (by
  rintro x y H Q ⟨rho, F, m, d, e, A, r1, r2, h⟩
  unfold inD inB at h
  split at h
  · rename_i es hv
    split at h
    · rename_i k hk
      obtain ⟨p, kvs, rfl, hp, kr⟩ := r2.viewD A hv
      have ek := r1.keyV hk
      subst ek
      refine .inr ⟨p, _, rfl, .inl ⟨kvs, k, hp, rfl, rfl⟩, h.here A (rp_bl ?_)⟩
      rcases kr.find k with ⟨v', d', f1, f2, f3⟩ | ⟨f1, f2⟩
      · rw [f1, f2]; rfl
      · rw [f1, f2]; rfl
    · exact h.elim
  refine .inl ?_
  split at h
  · split at h
    · cases r1; cases r2; exact .inl ⟨_, _, rfl, rfl, h.here A .bl⟩
    · exact h.elim
  · split at h
    · rename_i ds hv
      obtain ⟨p, vs, rfl, hp, q1⟩ := r2.viewQ A hv
      split at h
      · rename_i hc
        simp only [Bool.and_eq_true] at hc
        refine .inr (.inl ⟨p, vs, rfl, hp, flat_of r1 hc.1, flatL_of q1 hc.2, ?_⟩)
        exact h.here A (rp_bl (by rw [if_neg Bool.false_ne_true]; exact inV_of r1 q1 hc.1 hc.2))
      · split at h
        · split at h
          · rename_i h1 h2 hc
            exact .inr (.inr ⟨_, _, dp_top A r1 h1, dp_top A r2 h2, hc.1, hc.2, h.here A .bl⟩)
          · exact h.elim
        · exact h.elim
    · exact h.elim)
theorem od_notInK (hu : X.A.units + 1 < cLine) : OpR X (compareOp .NotIn) (fun x y H Q => ∃ a o, y = .ref a ∧ DGet H a x o ∧ Q (.bl (!o.isSome)) H) := by
  intro pins s σ H x y v u Q I rx ry h
  obtain ⟨a, o, rfl, g, q⟩ := h
  obtain rfl : u = Value.ref a := ry
  exact d_notIn hu I g rx fun s3 I3 => ⟨.bl _, H, I3, rfl, q⟩
theorem od_notIn (hu : X.A.units + 65 < cLine) : OpD X (compareOp .NotIn) notInD := OpR.imp ((op_notin_str.or (op_notIn_seq.or (op_notInD hu))).or (od_notInK (by omega))) (by
  rintro x y H Q ⟨rho, F, m, d, e, A, r1, r2, h⟩
  unfold notInD inB at h
  split at h
  · rename_i es hv
    split at h
    · rename_i k hk
      obtain ⟨p, kvs, rfl, hp, kr⟩ := r2.viewD A hv
      have ek := r1.keyV hk
      subst ek
      refine .inr ⟨p, _, rfl, .inl ⟨kvs, k, hp, rfl, rfl⟩, h.here A (rp_bl ?_)⟩
      rcases kr.find k with ⟨v', d', f1, f2, f3⟩ | ⟨f1, f2⟩
      · rw [f1, f2]; rfl
      · rw [f1, f2]; rfl
    · exact h.elim
  refine .inl ?_
  split at h
  · split at h
    · cases r1; cases r2; exact .inl ⟨_, _, rfl, rfl, h.here A .bl⟩
    · exact h.elim
  · split at h
    · rename_i ds hv
      obtain ⟨p, vs, rfl, hp, q1⟩ := r2.viewQ A hv
      split at h
      · rename_i hc
        simp only [Bool.and_eq_true] at hc
        refine .inr (.inl ⟨p, vs, rfl, hp, flat_of r1 hc.1, flatL_of q1 hc.2, ?_⟩)
        exact h.here A (rp_bl (by rw [if_pos rfl, inV_of r1 q1 hc.1 hc.2]))
      · split at h
        · split at h
          · rename_i h1 h2 hc
            exact .inr (.inr ⟨_, _, dp_top A r1 h1, dp_top A r2 h2, hc.1, hc.2, h.here A .bl⟩)
          · exact h.elim
        · exact h.elim
    · exact h.elim)
end
end HB
namespace HB
open PySem L2

/-! ### repr -/
mutual
def pyR : D → Option PyData
  | .non => some .none
  | .bl b => some (.bool b)
  | .int i => some (.int i)
  | .str x => some (.str x)
  | .tup ds => (pyRL ds).map .tuple
  | .lst ds => (pyRL ds).map .list
  | .dct kvs => (pyRK kvs).map .dict
  | .obj _ _ => none
  | .exv _ _ => none
  | .ref _ => none
  | .scr _ => none
def pyRL : List D → Option (List PyData)
  | [] => some []
  | d :: ds => match pyR d, pyRL ds with
    | some p, some q => some (p :: q)
    | _, _ => none
def pyRK : List (D × D) → Option (List (PyData × PyData))
  | [] => some []
  | (k, d) :: ds => match pyR k, pyR d, pyRK ds with
    | some p, some q, some r => some ((p, q) :: r)
    | _, _, _ => none
end
def pyRT (d : D) (m : M) : Option PyData := match d with
  | .ref i => match m[i]? with
    | some (.lst ds) => (pyRL ds).map .list
    | some (.dct ds) => (pyRK ds).map .dict
    | _ => none
  | d => pyR d
def keyP : Key → PyData
  | .inl i => .int i
  | .inr x => .str x
theorem pyR_key (k : Key) : pyR (keyD k) = some (keyP k) := by cases k <;> rfl
theorem pyRL_keys : ∀ ks : List Key, pyRL (ks.map keyD) = some (ks.map keyP)
  | [] => rfl
  | k :: ks => by simp [pyRL, pyR_key, pyRL_keys ks]
section
variable {X : Cx} {pins : List (Addr × Obj)} {σ : L2.St} {H : Hp} {s : Shared} {K : PySem.W.Frag} {mg : Str → Option Value} {rho : List Addr} {F : Hp}
theorem reads_key {h : Heap} {k : Key} {v : Value} (e : keyIs k v = true) : Reads h v (keyP k) [] := by
  rcases keyIs_shape e with ⟨i, t, rfl, rfl⟩ | ⟨x, t, rfl, rfl⟩
  · exact .int i t
  · exact .str x t
theorem reads_tkey (I : Inv X pins σ H s) {a : Addr} {k : List Key} (h : H a = some (.tup (k.map kV))) : Reads s.heap (.ref a) (.tuple (k.map keyP)) [] := by
  obtain ⟨its, rv, ⟨o, ho, hc, n, hd⟩, _⟩ := I.tuple (SqT.of h)
  refine .tuple ho hc hd ?_
  have all : ∀ (k : List Key) (us : List Value), Vals (k.map kV) us → ReadsAll s.heap us (k.map keyP) [] := by
    intro k
    induction k with
    | nil => intro us r; cases r; exact .nil
    | cons x k ih =>
      intro us r
      cases r with
      | cons r1 r2 =>
        refine ReadsAll.cons (as := []) (bs := []) ?_ (ih _ r2)
        cases x with
        | inl i => obtain ⟨t, rfl⟩ := r1; exact .int i t
        | inr x => obtain ⟨t, rfl⟩ := r1; exact .str x t
  exact all k its (by simpa using rv)
/-- the addresses of what was read are tracked -/
def Trk (H : Hp) (as : List Addr) : Prop := ∀ b ∈ as, ∃ o, H b = some o
theorem Trk.app {as bs : List Addr} (h : Trk H as) (h' : Trk H bs) : Trk H (as ++ bs) := fun b hb => by
  rcases List.mem_append.mp hb with z | z
  · exact h b z
  · exact h' b z
mutual
theorem reads_of (I : Inv X pins σ H s) (e : Same F H) : ∀ (d : D) {x : V} {p : PyData} {u : Value}, Rp X.K mg rho F x d → pyR d = some p → RelV x u → ∃ as, Reads s.heap u p as ∧ Trk H as
  | .non, _, _, _, r, h, q => by cases r; cases h; cases q; exact ⟨_, .none, nofun⟩
  | .bl b, _, _, _, r, h, q => by cases r; cases h; cases q; exact ⟨_, .bool b, nofun⟩
  | .int i, _, _, _, r, h, q => by cases r; cases h; obtain ⟨t, rfl⟩ := q; exact ⟨_, .int i t, nofun⟩
  | .str x, _, _, _, r, h, q => by cases r; cases h; obtain ⟨t, rfl⟩ := q; exact ⟨_, .str x t, nofun⟩
  | .tup ds, _, _, _, r, h, q => by
    simp only [pyR, Option.map_eq_some_iff] at h
    obtain ⟨ps, h1, rfl⟩ := h
    cases r with
    | tup hs hr =>
      cases q
      obtain ⟨its, rv, ⟨o, ho, hc, n, hd⟩, _⟩ := I.tuple (sqT_mono e hs)
      obtain ⟨as, hr, ha⟩ := readsL_of I e ds hr h1 rv
      exact ⟨_, .tuple ho hc hd hr, ha⟩
  | .lst ds, _, _, _, r, h, q => by
    simp only [pyR, Option.map_eq_some_iff] at h
    obtain ⟨ps, h1, rfl⟩ := h
    cases r with
    | lst hs hr =>
      cases q
      obtain ⟨its, rv, ⟨o, n, ho, hc, _, hd⟩, _⟩ := I.list (SqL.of (e _ _ hs))
      obtain ⟨as, hr, ha⟩ := readsL_of I e ds hr h1 rv
      refine ⟨_, .list ho hc hd hr, fun b hb => ?_⟩
      rcases List.mem_cons.mp hb with z | z
      · rw [z]; exact ⟨_, e _ _ hs⟩
      · exact ha b z
  | .dct kvs, _, _, _, r, h, q => by
    simp only [pyR, Option.map_eq_some_iff] at h
    obtain ⟨ps, h1, rfl⟩ := h
    cases r with
    | dK hs hr =>
      cases q
      obtain ⟨_, _, vs, kv, o, es, ep, ho, hx, hd, _, hp, _⟩ := (show ObjOk X.prog X.w H s.heap _ (.dK _) from Rd.ok (.inr ⟨_, e _ _ hs⟩) I.hok)
      obtain ⟨as, q1, q2, ha⟩ := readsK_of I e kvs hr h1 kv hp
      refine ⟨_, .dict ho hx.1 hd q1 q2, fun b hb => ?_⟩
      simp only [List.append_nil, List.cons_append, List.mem_cons, List.nil_append] at hb
      rcases hb with z | z
      · rw [z]; exact ⟨_, e _ _ hs⟩
      · exact ha b z
  | .obj _ _, _, _, _, _, h, _ => by cases h
  | .exv _ _, _, _, _, _, h, _ => by cases h
  | .ref _, _, _, _, _, h, _ => by cases h
  | .scr _, _, _, _, _, h, _ => by cases h
theorem readsL_of (I : Inv X pins σ H s) (e : Same F H) : ∀ (ds : List D) {xs : List V} {ps : List PyData} {us : List Value}, RpL X.K mg rho F xs ds → pyRL ds = some ps → Vals xs us → ∃ as, ReadsAll s.heap us ps as ∧ Trk H as
  | [], _, _, _, r, h, q => by cases r; cases h; cases q; exact ⟨_, .nil, nofun⟩
  | d :: ds, _, _, _, r, h, q => by
    simp only [pyRL] at h
    split at h
    · rename_i h1 h2
      cases h
      cases r with
      | cons r1 r2 =>
        cases q with
        | cons q1 q2 =>
          obtain ⟨as, a1, t1⟩ := reads_of I e d r1 h1 q1
          obtain ⟨bs, a2, t2⟩ := readsL_of I e ds r2 h2 q2
          exact ⟨_, .cons a1 a2, t1.app t2⟩
    · cases h
theorem readsK_of (I : Inv X pins σ H s) (e : Same F H) : ∀ (ds : List (D × D)) {xs : List (Key × V)} {ps : List (PyData × PyData)} {us : List (Key × Value)} {es : List DictEntry}, RpK X.K mg rho F xs ds → pyRK ds = some ps → KV xs us → Pairs (mixKind X.prog X.w) es us →
    ∃ as, ReadsAll s.heap (es.map (·.key)) (ps.map (·.1)) [] ∧ ReadsAll s.heap (es.map (·.val)) (ps.map (·.2)) as ∧ Trk H as
  | [], _, _, _, _, r, h, q, z => by cases r; cases h; cases q; cases z; exact ⟨_, .nil, .nil, nofun⟩
  | (k, d) :: ds, _, _, _, _, r, h, q, z => by
    simp only [pyRK] at h
    split at h
    · rename_i h0 h1 h2
      cases h
      cases r with
      | cons r1 r2 =>
        rw [pyR_key] at h0
        cases h0
        cases q with
        | cons q1 q2 =>
          cases z with
          | cons z1 z2 z3 =>
            obtain ⟨e1, e2⟩ := q1
            rename_i ent _
            rw [← z2] at e2
            obtain ⟨as, a1, t1⟩ := reads_of I e d r1 h1 e2
            obtain ⟨bs, b0, b1, t2⟩ := readsK_of I e ds r2 h2 q2 z3
            refine ⟨_, ReadsAll.cons (as := []) (bs := []) (reads_key ?_) b0, .cons a1 b1, t1.app t2⟩
            rw [mixKind_is, ← e1] at z1
            exact z1
    · cases h
theorem readsT_of (I : Inv X pins σ H s) (e : Same F H) : ∀ (ds : List (D × D)) {xs : List (List Key × V)} {ps : List (PyData × PyData)} {us : List (List Key × Addr × Value)} {es : List DictEntry}, RpT X.K mg rho F xs ds → pyRK ds = some ps →
    Paired (fun (p : List Key × V) (q : List Key × Addr × Value) => p.1 = q.1 ∧ H q.2.1 = some (.tup (p.1.map kV)) ∧ RelV p.2 q.2.2) xs us → es = us.map (entryOfKey (tupleKind (mixKind X.prog X.w))) →
    ∃ as, ReadsAll s.heap (es.map (·.key)) (ps.map (·.1)) [] ∧ ReadsAll s.heap (es.map (·.val)) (ps.map (·.2)) as ∧ Trk H as
  | [], _, _, _, _, r, h, q, z => by cases r; cases h; cases q; subst z; exact ⟨_, .nil, .nil, nofun⟩
  | (k, d) :: ds, _, _, _, _, r, h, q, z => by
    simp only [pyRK] at h
    split at h
    · rename_i h0 h1 h2
      cases h
      cases r with
      | cons r1 r2 =>
        simp only [pyR, pyRL_keys, Option.map_some, Option.some.injEq] at h0
        subst h0
        cases q with
        | cons q1 q2 =>
          subst z
          obtain ⟨e1, e2, e3⟩ := q1
          obtain ⟨as, a1, t1⟩ := reads_of I e d r1 h1 e3
          obtain ⟨bs, b0, b1, t2⟩ := readsT_of I e ds r2 h2 q2 rfl
          exact ⟨_, ReadsAll.cons (as := []) (bs := []) (reads_tkey I e2) b0, .cons a1 b1, t1.app t2⟩
    · cases h
end
theorem reads_top (I : Inv X pins σ H s) {m : M} {d : D} {x : V} {p : PyData} {u : Value} (A : Abs X.K mg rho F H m) (r : Rp X.K mg rho F x d) (h : pyRT d m = some p) (q : RelV x u) : ∃ as, Reads s.heap u p as ∧ Trk H as := by
  unfold pyRT at h
  split at h
  · split at h
    · rename_i hm
      simp only [Option.map_eq_some_iff] at h
      obtain ⟨ps, h1, rfl⟩ := h
      cases r with
      | ref hi =>
        obtain ⟨_, vs, h0, r⟩ := A.own _ _ _ hi hm
        cases q
        obtain ⟨its, rv, ⟨o, n, ho, hc, _, hd⟩, _⟩ := I.list (SqL.of h0)
        obtain ⟨as, hr, ha⟩ := readsL_of I A.ex _ r h1 rv
        refine ⟨_, .list ho hc hd hr, fun b hb => ?_⟩
        rcases List.mem_cons.mp hb with z | z
        · rw [z]; exact ⟨_, h0⟩
        · exact ha b z
    · rename_i hm
      simp only [Option.map_eq_some_iff] at h
      obtain ⟨ps, h1, rfl⟩ := h
      cases r with
      | ref hi =>
        obtain ⟨_, ks, h0, r⟩ := A.own _ _ _ hi hm
        cases q
        obtain ⟨_, _, vs, kv, o, es, ep, ho, hx, hd, _, hp, _⟩ := (show ObjOk X.prog X.w H s.heap _ (.dK _) from I.hok _ _ h0)
        obtain ⟨as, q1, q2, ha⟩ := readsK_of I A.ex _ r h1 kv hp
        refine ⟨_, .dict ho hx.1 hd q1 q2, fun b hb => ?_⟩
        simp only [List.append_nil, List.cons_append, List.mem_cons, List.nil_append] at hb
        rcases hb with z | z
        · rw [z]; exact ⟨_, h0⟩
        · exact ha b z
    · cases h
  · exact reads_of I A.ex d r h q
end
/-! ### calls of built-ins by data -/
def CallD (X : Cx) (f : Value) (g : List D → M → R D) : Prop :=
  CallR X f (fun xs H Q => ∃ rho F m ds, Abs X.K X.mg rho F H m ∧ RpL X.K X.mg rho F xs ds ∧ RdO X.K X.mg rho F H Q (g ds m))
def reprD (ds : List D) (m : M) : R D := match ds with
  | [d] => match pyRT d m with
    | some p => if p.showable = true ∧ p.depth ≤ 64 ∧ p.shown.length ≤ sizeLine then .ok (.str p.shown) m else .no
    | none => .no
  | _ => .no
section
variable {X : Cx}
theorem cd_repr (hg : X.A.guards = some []) (hu : X.A.units + 130 < cLine) (hb : ∃ o, X.base.get? sysModules = some o) : CallD X (.builtin "repr") reprD := by
  rintro pins s σ H xs us Q I r ⟨rho, F, m, ds, A, rr, h⟩
  unfold reprD at h
  split at h
  · split at h
    · split at h
      · rename_i d p hp hc
        obtain ⟨h1, h2, h3⟩ := hc
        cases rr with
        | cons rr1 rr2 =>
          cases rr2
          obtain ⟨u, rfl, ru⟩ := Vals.one r
          obtain ⟨as, rd, tk⟩ := reads_top I A rr1 hp ru
          have sm : sysModules ∉ as := fun z => by
            obtain ⟨o, q⟩ := tk _ z
            obtain ⟨ob, hob⟩ := hb
            rw [(I.bs _ _ hob).2] at q; cases q
          have fin : ∀ (h' : Heap) (u : Tok) (tk : Nat), (∀ b o, s.heap.get? b = some o → h'.get? b = some o) → EP X pins σ Q (.str p.shown u) { s with heap := h', toks := tk } := fun h' u tk k =>
            ⟨.str _, H, I.kept (t' := tk) k, ⟨_, rfl⟩, h.here A .str⟩
          cases rd with
          | none => exact PySem.P.repr_of_none (fin s.heap _ _ fun _ _ e => e)
          | bool b => exact PySem.P.repr_of_bool (fin s.heap _ _ fun _ _ e => e)
          | int i t => exact PySem.P.repr_of_int (by simpa [PyData.showable] using h1) (fin s.heap _ _ fun _ _ e => e)
          | str x t => exact PySem.P.repr_of_str (fin s.heap _ _ fun _ _ e => e) h3
          | list a1 a2 a3 a4 => exact repr_of_reads' (.list a1 a2 a3 a4) h1 (fun _ => sm) hg (by omega) (fun _ _ e => e) fin h3
          | tuple a1 a2 a3 a4 => exact repr_of_reads' (.tuple a1 a2 a3 a4) h1 (fun _ => sm) hg (by omega) (fun _ _ e => e) fin h3
          | dict a1 a2 a3 a4 a5 => exact repr_of_reads' (.dict a1 a2 a3 a4 a5) h1 (fun _ => sm) hg (by omega) (fun _ _ e => e) fin h3
      · exact h.elim
    · exact h.elim
  · exact h.elim
end
end HB
namespace HB
open PySem L2

theorem CallR.imp {X : Cx} {f : Value} {r r' : List V → Hp → VK → Prop} (h : CallR X f r) (k : ∀ xs H Q, r' xs H Q → r xs H Q) : CallR X f r' := fun pins s σ H xs us Q I r1 q => h pins s σ H xs us Q I r1 (k _ _ _ q)
section
variable {K : PySem.W.Frag} {mg : Str → Option Value} {rho : List Addr} {F H : Hp} {m : M} {Q : VK}
theorem RdO.newLM {ds : List D} {vs : List V} {p : Addr} (h : RdO K mg rho F H Q (.ok (.ref m.length) (m ++ [.lst ds]))) (A : Abs K mg rho F H m) (r : RpL K mg rho F vs ds) (np : H p = none) : Q (.ref p) (upd H p (.lst vs)) := by
  have on : Onto rho F (rho ++ [p]) F := ⟨fun {i x} h => by rw [List.getElem?_append_left (List.getElem?_eq_some_iff.mp h).1]; exact h, Same.refl F⟩
  have nF : F p = none := by
    cases e : F p with
    | none => rfl
    | some u => rw [A.ex p u e] at np; cases np
  obtain ⟨st, A'⟩ := A.alloc (o := .lst vs) (x := .lst ds) np ⟨nF, vs, upd_same, r.mono on⟩
  refine h _ _ _ _ st A' (.ref ?_)
  rw [← A.len, List.getElem?_append_right (Nat.le_refl _)]
  simp
end
/-! ### truth -/
def truthB (d : D) (m : M) : R Bool := match d with
  | .non => .ok false m
  | .bl b => .ok b m
  | .int i => .ok (i != 0) m
  | .str y => if y.length ≤ sizeLine then .ok ((y.length : Int) != 0) m else .no
  | d => match viewQ d m with
    | some ds => .ok (!ds.isEmpty) m
    | none => .no
section
variable {K : PySem.W.Frag} {mg : Str → Option Value} {rho : List Addr} {F H : Hp} {m : M}
theorem RpL.isEmpty {vs : List V} {ds : List D} (r : RpL K mg rho F vs ds) : vs.isEmpty = ds.isEmpty := by cases r <;> rfl
theorem truth_of {x : V} {d : D} {b : Bool} {m' : M} (A : Abs K mg rho F H m) (r : Rp K mg rho F x d) (h : truthB d m = .ok b m') : TruV K x H b ∧ m' = m := by
  unfold truthB at h
  split at h
  · cases r; cases h; exact ⟨rfl, rfl⟩
  · cases r; cases h; exact ⟨rfl, rfl⟩
  · cases r; cases h; exact ⟨rfl, rfl⟩
  · split at h
    · rename_i hc
      cases r; cases h; exact ⟨⟨hc, rfl⟩, rfl⟩
    · cases h
  · split at h
    · rename_i ds hv
      obtain ⟨p, vs, rfl, hp, q1⟩ := r.viewQ A hv
      cases h
      refine ⟨?_, rfl⟩
      rcases hp with hp | hp
      · exact .inl ⟨vs, hp, by rw [q1.isEmpty]⟩
      · exact .inr (.inl ⟨vs, hp, by rw [q1.isEmpty]⟩)
    · cases h
theorem truth_noex {d : D} {m m' : M} {c : Exc} : truthB d m ≠ .ex c m' := by
  unfold truthB
  intro h
  split at h <;> (try split at h) <;> cases h
end
/-! ### built-in functions -/
def absD (ds : List D) (m : M) : R D := match ds with
  | [.int i] => .ok (.int (if i < 0 then -i else i)) m
  | _ => .no
def maxI : List Int → Int
  | [] => 0
  | [a] => a
  | a :: r => let b := maxI r; if b > a then b else a
def minI : List Int → Int
  | [] => 0
  | [a] => a
  | a :: r => let b := minI r; if b < a then b else a
theorem maxI_spec : ∀ {ns : List Int}, ns ≠ [] → maxI ns ∈ ns ∧ ∀ y ∈ ns, y ≤ maxI ns
  | [], h => absurd rfl h
  | [a], _ => by simp [maxI]
  | a :: b :: r, _ => by
    obtain ⟨h1, h2⟩ := maxI_spec (ns := b :: r) (by simp)
    simp only [maxI]
    split
    · refine ⟨List.mem_cons_of_mem _ h1, fun y hy => ?_⟩
      rcases List.mem_cons.mp hy with e | e
      · subst e; omega
      · exact h2 y e
    · refine ⟨List.mem_cons_self, fun y hy => ?_⟩
      rcases List.mem_cons.mp hy with e | e
      · subst e; omega
      · have := h2 y e; omega
theorem minI_spec : ∀ {ns : List Int}, ns ≠ [] → minI ns ∈ ns ∧ ∀ y ∈ ns, minI ns ≤ y
  | [], h => absurd rfl h
  | [a], _ => by simp [minI]
  | a :: b :: r, _ => by
    obtain ⟨h1, h2⟩ := minI_spec (ns := b :: r) (by simp)
    simp only [minI]
    split
    · refine ⟨List.mem_cons_of_mem _ h1, fun y hy => ?_⟩
      rcases List.mem_cons.mp hy with e | e
      · subst e; omega
      · exact h2 y e
    · refine ⟨List.mem_cons_self, fun y hy => ?_⟩
      rcases List.mem_cons.mp hy with e | e
      · subst e; omega
      · have := h2 y e; omega
def maxD (ds : List D) (m : M) : R D := match ds with
  | [.int i, .int j] => .ok (.int (if j > i then j else i)) m
  | [d] => match (viewS d m).bind asInts with
    | some (n :: ns) => .ok (.int (maxI (n :: ns))) m
    | _ => .no
  | _ => .no
def minD (ds : List D) (m : M) : R D := match ds with
  | [.int i, .int j] => .ok (.int (if j < i then j else i)) m
  | [d] => match (viewS d m).bind asInts with
    | some (n :: ns) => .ok (.int (minI (n :: ns))) m
    | _ => .no
  | _ => .no
def sumD (ds : List D) (m : M) : R D := match ds with
  | [d] => match (viewS d m).bind asInts with
    | some ns => .ok (.int ns.sum) m
    | _ => .no
  | _ => .no
def intD (ds : List D) (m : M) : R D := match ds with
  | [.int i] => .ok (.int i) m
  | [.bl b] => .ok (.int (if b then 1 else 0)) m
  | _ => .no
def strD (ds : List D) (m : M) : R D := match ds with
  | [.int i] => if i.natAbs.log2 < 1920 then .ok (.str (toString i)) m else .no
  | [.str x] => .ok (.str x) m
  | _ => .no
def lenD (ds : List D) (m : M) : R D := match ds with
  | [.str x] => if x.length ≤ sizeLine then .ok (.int x.length) m else .no
  | [d] => match viewQ d m with
    | some xs => .ok (.int xs.length) m
    | none => match viewD d m with
      | some es => .ok (.int es.length) m
      | none => .no
  | _ => .no
def allD (ds : List D) (m : M) : R D := match ds with
  | [d] => match (viewS d m).bind asBls with
    | some bs => .ok (.bl (bs.all id)) m
    | _ => .no
  | _ => .no
def anyD (ds : List D) (m : M) : R D := match ds with
  | [d] => match (viewS d m).bind asBls with
    | some bs => .ok (.bl (bs.any id)) m
    | _ => .no
  | _ => .no
def tupleD (ds : List D) (m : M) : R D := match ds with
  | [.tup xs] => .ok (.tup xs) m
  | [d] => match viewS d m with
    | some xs => .ok (.tup xs) m
    | none => .no
  | _ => .no
def keysL (es : List (Key × D)) : List D := es.map fun kv => keyD kv.1
def listD (ds : List D) (m : M) : R D := match ds with
  | [d] => match viewQ d m with
    | some xs => .ok (.lst xs) m
    | none => match viewD d m with
      | some es => .ok (.lst (keysL es)) m
      | none => .no
  | _ => .no
/-- texts alone -/
def strKeys : List (Key × D) → Option (List Str)
  | [] => some []
  | (.inr x, _) :: r => (strKeys r).map (x :: ·)
  | _ :: _ => none
def sortedD (ds : List D) (m : M) : R D := match ds with
  | [d] => match (viewS d m).bind asStrs with
    | some xs => if xs.length < 64 then .ok (.lst ((sortS xs).map D.str)) m else .no
    | none => match (viewD d m).bind strKeys with
      | some xs => if xs.length < 64 then .ok (.lst ((sortS xs).map D.str)) m else .no
      | none => .no
  | _ => .no
/-- pairs for a dict -/
def prsD : List D → Option (List (Key × D))
  | [] => some []
  | .tup [k, v] :: r => match keyOf k, prsD r with
    | some k, some r => some ((k, v) :: r)
    | _, _ => none
  | _ => none
def mrgD (kvs : List (Key × D)) : List (Key × D) := kvs.foldl (fun acc kv => putD acc kv.1 kv.2) []
def dictV (d : D) (m : M) : Option (List (Key × D)) := match viewD d m with
  | some es => some es
  | none => match (viewL d m).bind prsD with
    | some es => some (mrgD es)
    | none => none
def dictD (ds : List D) (m : M) : R D := match ds with
  | [d] => match dictV d m with
    | some es => .ok (dctOf es) m
    | none => .no
  | _ => .no
/-- a dict of our own -/
def dictMD (ds : List D) (m : M) : R D := match ds with
  | [d] => match dictV d m with
    | some es => .ok (.ref m.length) (m ++ [.dct (es.map fun kv => (keyD kv.1, kv.2))])
    | none => .no
  | _ => .no
/-- a list of our own -/
def listMD (ds : List D) (m : M) : R D := match ds with
  | [d] => match viewQ d m with
    | some xs => .ok (.ref m.length) (m ++ [.lst xs])
    | none => .no
  | _ => .no
section
variable {X : Cx}
theorem bind_view {α : Type} {d : D} {m : M} {f : List D → Option α} {a : α} (h : (viewS d m).bind f = some a) : ∃ ds, viewS d m = some ds ∧ f ds = some a := by
  cases e : viewS d m with
  | none => rw [e] at h; cases h
  | some ds => rw [e] at h; exact ⟨ds, rfl, h⟩
theorem cd_abs : CallD X (.builtin "abs") absD := CallR.imp call_abs (by
  rintro xs H Q ⟨rho, F, m, ds, A, r, h⟩
  unfold absD at h
  split at h
  · cases r with | cons r1 r2 => cases r1; cases r2; exact ⟨_, rfl, h.here A .int⟩
  · exact h.elim)
theorem cd_max (hc : X.calm = true) : CallD X (.builtin "max") maxD := CallR.imp ((call_max2 hc).or (cr_max hc)) (by
  rintro xs H Q ⟨rho, F, m, ds, A, r, h⟩
  unfold maxD at h
  split at h
  · cases r with | cons r1 r2 => cases r2 with | cons r2 r3 => cases r1; cases r2; cases r3; exact .inl ⟨_, _, rfl, h.here A .int⟩
  · split at h
    · rename_i d n ns hv
      obtain ⟨ds, h1, h2⟩ := bind_view hv
      have e := asInts_eq h2
      subst e
      cases r with
      | cons r1 r2 =>
        cases r2
        obtain ⟨p, vs, rfl, hp, q1⟩ := r1.viewS A h1
        have e := q1.intsE
        subst e
        refine .inr ⟨p, _, rfl, hp, by simp, fun k hk hle => ?_⟩
        obtain ⟨g1, g2⟩ := maxI_spec (ns := n :: ns) (by simp)
        have : k = maxI (n :: ns) := by have := hle _ g1; have := g2 _ hk; omega
        rw [this]
        exact h.here A .int
    · exact h.elim
  · exact h.elim)
theorem cd_min (hc : X.calm = true) : CallD X (.builtin "min") minD := CallR.imp ((call_min2 hc).or (cr_min hc)) (by
  rintro xs H Q ⟨rho, F, m, ds, A, r, h⟩
  unfold minD at h
  split at h
  · cases r with | cons r1 r2 => cases r2 with | cons r2 r3 => cases r1; cases r2; cases r3; exact .inl ⟨_, _, rfl, h.here A .int⟩
  · split at h
    · rename_i d n ns hv
      obtain ⟨ds, h1, h2⟩ := bind_view hv
      have e := asInts_eq h2
      subst e
      cases r with
      | cons r1 r2 =>
        cases r2
        obtain ⟨p, vs, rfl, hp, q1⟩ := r1.viewS A h1
        have e := q1.intsE
        subst e
        refine .inr ⟨p, _, rfl, hp, by simp, fun k hk hle => ?_⟩
        obtain ⟨g1, g2⟩ := minI_spec (ns := n :: ns) (by simp)
        have : k = minI (n :: ns) := by have := hle _ g1; have := g2 _ hk; omega
        rw [this]
        exact h.here A .int
    · exact h.elim
  · exact h.elim)
theorem cd_sum (hc : X.calm = true) : CallD X (.builtin "sum") sumD := CallR.imp (cr_sum hc) (by
  rintro xs H Q ⟨rho, F, m, ds, A, r, h⟩
  unfold sumD at h
  split at h
  · split at h
    · rename_i d ns hv
      obtain ⟨ds, h1, h2⟩ := bind_view hv
      have e := asInts_eq h2
      subst e
      cases r with
      | cons r1 r2 =>
        cases r2
        obtain ⟨p, vs, rfl, hp, q1⟩ := r1.viewS A h1
        have e := q1.intsE
        subst e
        exact ⟨p, _, rfl, hp, h.here A .int⟩
    · exact h.elim
  · exact h.elim)
theorem cd_int : CallD X (.type "int") intD := CallR.imp call_int1 (by
  rintro xs H Q ⟨rho, F, m, ds, A, r, h⟩
  unfold intD at h
  split at h
  · cases r with | cons r1 r2 => cases r1; cases r2; exact .inl ⟨_, rfl, h.here A .int⟩
  · cases r with | cons r1 r2 => cases r1; cases r2; exact .inr ⟨_, rfl, h.here A .int⟩
  · exact h.elim)
theorem cd_str : CallD X (.type "str") strD := CallR.imp (call_str_int.or SkE.call_str_str) (by
  rintro xs H Q ⟨rho, F, m, ds, A, r, h⟩
  unfold strD at h
  split at h
  · split at h
    · rename_i hc
      cases r with | cons r1 r2 => cases r1; cases r2; exact .inl ⟨_, rfl, hc, h.here A .str⟩
    · exact h.elim
  · cases r with | cons r1 r2 => cases r1; cases r2; exact .inr ⟨_, rfl, h.here A .str⟩
  · exact h.elim)
theorem call_lenK : CallR X (.builtin "len") (fun xs H Q => ∃ a kvs, xs = [V.ref a] ∧ Rd H a (.dK kvs) ∧ Q (.int (kvs.length : Nat)) H) := by
  intro pins s σ H xs us Q I r h
  obtain ⟨a, kvs, rfl, hd, q⟩ := h
  obtain ⟨u, rfl, rx⟩ := vals1 r
  obtain rfl : u = Value.ref a := rx
  exact d_len I hd fun t s' I' => ⟨.int _, H, I', ⟨t, rfl⟩, q⟩
theorem cd_len : CallD X (.builtin "len") lenD := CallR.imp (call_len.or call_lenK) (by
  rintro xs H Q ⟨rho, F, m, ds, A, r, h⟩
  unfold lenD at h
  split at h
  · split at h
    · rename_i hc
      cases r with | cons r1 r2 => cases r1; cases r2; exact .inl ⟨_, _, rfl, ⟨hc, rfl⟩, h.here A .int⟩
    · exact h.elim
  · split at h
    · rename_i d _ xs hv
      cases r with
      | cons r1 r2 =>
        cases r2
        obtain ⟨p, vs, rfl, hp, q1⟩ := r1.viewQ A hv
        refine .inl ⟨_, vs.length, rfl, ?_, ?_⟩
        · rcases hp with hp | hp
          · exact .inl ⟨vs, hp, rfl⟩
          · exact .inr ⟨vs, hp, rfl⟩
        · rw [q1.length]; exact h.here A .int
    · split at h
      · rename_i d _ _ es hv
        cases r with
        | cons r1 r2 =>
          cases r2
          obtain ⟨p, kvs, rfl, hp, kr⟩ := r1.viewD A hv
          refine .inr ⟨p, kvs, rfl, hp, ?_⟩
          rw [kr.length]; exact h.here A .int
      · exact h.elim
  · exact h.elim)
theorem cd_all (hc : X.calm = true) : CallD X (.builtin "all") allD := CallR.imp (cr_all hc) (by
  rintro xs H Q ⟨rho, F, m, ds, A, r, h⟩
  unfold allD at h
  split at h
  · split at h
    · rename_i d ns hv
      obtain ⟨ds, h1, h2⟩ := bind_view hv
      have e := asBls_eq h2
      subst e
      cases r with
      | cons r1 r2 =>
        cases r2
        obtain ⟨p, vs, rfl, hp, q1⟩ := r1.viewS A h1
        have e := q1.bls
        subst e
        exact ⟨p, _, rfl, hp, h.here A .bl⟩
    · exact h.elim
  · exact h.elim)
theorem cd_any (hc : X.calm = true) : CallD X (.builtin "any") anyD := CallR.imp (cr_any hc) (by
  rintro xs H Q ⟨rho, F, m, ds, A, r, h⟩
  unfold anyD at h
  split at h
  · split at h
    · rename_i d ns hv
      obtain ⟨ds, h1, h2⟩ := bind_view hv
      have e := asBls_eq h2
      subst e
      cases r with
      | cons r1 r2 =>
        cases r2
        obtain ⟨p, vs, rfl, hp, q1⟩ := r1.viewS A h1
        have e := q1.bls
        subst e
        exact ⟨p, _, rfl, hp, h.here A .bl⟩
    · exact h.elim
  · exact h.elim)
theorem cd_tuple : CallD X (.type "tuple") tupleD := CallR.imp call_tuple_of (by
  rintro xs H Q ⟨rho, F, m, ds, A, r, h⟩
  unfold tupleD at h
  split at h
  · cases r with
    | cons r1 r2 =>
      cases r2
      obtain ⟨p, vs, rfl, hp, q1⟩ := r1.tupH A
      exact ⟨p, vs, rfl, .inr ⟨hp, h.here A r1⟩⟩
  · split at h
    · rename_i d _ xs hv
      cases r with
      | cons r1 r2 =>
        cases r2
        obtain ⟨p, vs, rfl, hp, q1⟩ := r1.viewS A hv
        exact ⟨p, vs, rfl, .inl ⟨hp, fun l nl => h.newT A q1 nl⟩⟩
    · exact h.elim
  · exact h.elim)
theorem keys_rp {K : PySem.W.Frag} {mg : Str → Option Value} {rho : List Addr} {F : Hp} : ∀ {kvs : List (Key × V)} {es : List (Key × D)}, KVr K mg rho F kvs es → RpL K mg rho F (kvs.map fun kv => kV kv.1) (keysL es)
  | _, _, .nil => .nil
  | _, _, .cons (k := k) r rs => .cons (by cases k <;> first | exact .int | exact .str) (keys_rp rs)
theorem cd_list (hc : X.calm = true) : CallD X (.type "list") listD := CallR.imp (call_list_of.or (call_listD hc)) (by
  rintro xs H Q ⟨rho, F, m, ds, A, r, h⟩
  unfold listD at h
  split at h
  · split at h
    · rename_i d xs hv
      cases r with
      | cons r1 r2 =>
        cases r2
        obtain ⟨p, vs, rfl, hp, q1⟩ := r1.viewQ A hv
        exact .inl ⟨p, vs, rfl, hp, fun l nl => h.newL A q1 nl⟩
    · split at h
      · rename_i d _ es hv
        cases r with
        | cons r1 r2 =>
          cases r2
          obtain ⟨p, kvs, rfl, hp, kr⟩ := r1.viewD A hv
          exact .inr ⟨p, kvs, rfl, hp, fun l nl => h.newL A (keys_rp kr) nl⟩
      · exact h.elim
  · exact h.elim)
theorem strKeys_eq {K : PySem.W.Frag} {mg : Str → Option Value} {rho : List Addr} {F : Hp} : ∀ {kvs : List (Key × V)} {es : List (Key × D)} {xs : List Str}, KVr K mg rho F kvs es → strKeys es = some xs → kvs.map (·.1) = xs.map Sum.inr
  | _, _, xs, .nil, h => by simp only [strKeys] at h; cases h; rfl
  | _, _, xs, .cons (k := .inl i) r rs, h => by simp [strKeys] at h
  | _, _, xs, .cons (k := .inr x) r rs, h => by
    simp only [strKeys, Option.map_eq_some_iff] at h
    obtain ⟨ys, h1, rfl⟩ := h
    simp [strKeys_eq rs h1]
theorem strs_rp {K : PySem.W.Frag} {mg : Str → Option Value} {rho : List Addr} {F : Hp} : ∀ xs : List Str, RpL K mg rho F (xs.map V.str) (xs.map D.str)
  | [] => .nil
  | _ :: xs => .cons .str (strs_rp xs)
theorem bindV {α β : Type} {o : Option α} {f : α → Option β} {b : β} (h : o.bind f = some b) : ∃ a, o = some a ∧ f a = some b := by
  cases o with
  | none => cases h
  | some a => exact ⟨a, rfl, h⟩
theorem cd_sorted (hc : X.calm = true) : CallD X (.builtin "sorted") sortedD := CallR.imp (cr_sortedS.or (call_sortedD hc)) (by
  rintro xs H Q ⟨rho, F, m, ds, A, r, h⟩
  unfold sortedD at h
  split at h
  · split at h
    · rename_i d ys hy
      split at h
      · rename_i h64
        obtain ⟨es, hv, hs⟩ := bindV hy
        cases r with
        | cons r1 r2 =>
          cases r2
          obtain ⟨p, vs, rfl, hp, q1⟩ := r1.viewS A hv
          have e1 := asStrs_eq hs
          subst e1
          have e2 := q1.strs
          subst e2
          refine .inl ⟨p, ys, rfl, hp, h64, fun zs l pm st nl => ?_⟩
          rw [sortedS_eq pm st]
          exact h.newL A (strs_rp _) nl
      · exact h.elim
    · split at h
      · rename_i d _ ys hy
        split at h
        · rename_i h64
          obtain ⟨es, hv, hs⟩ := bindV hy
          cases r with
          | cons r1 r2 =>
            cases r2
            obtain ⟨p, kvs, rfl, hp, kr⟩ := r1.viewD A hv
            refine .inr ⟨p, kvs, ys, rfl, hp, strKeys_eq kr hs, h64, fun zs l pm st nl => ?_⟩
            rw [sortedS_eq pm st]
            exact h.newL A (strs_rp _) nl
        · exact h.elim
      · exact h.elim
  · exact h.elim)
theorem prs_rp {K : PySem.W.Frag} {mg : Str → Option Value} {rho : List Addr} {F H : Hp} (ex : Same F H) : ∀ {vs : List V} {ds : List D} {es : List (Key × D)}, RpL K mg rho F vs ds → prsD ds = some es → ∃ (ps : List Addr) (kvs : List (Key × V)), vs = ps.map V.ref ∧ Paired (fun p kv => SqT K H p [kV kv.1, kv.2]) ps kvs ∧ KVr K mg rho F kvs es
  | _, [], es, r, h => by
    cases r
    simp only [prsD] at h
    cases h
    exact ⟨[], [], rfl, .nil, .nil⟩
  | _, d :: ds, es, r, h => by
    cases r with
    | cons r1 r2 =>
      unfold prsD at h
      split at h
      · rename_i h1; cases h1
      · rename_i k v rest h1
        cases h1
        split at h
        · rename_i kk rr hk hr
          cases h
          obtain ⟨ps, kvs, w1, w2, w3⟩ := prs_rp ex r2 hr
          cases r1 with
          | tup hs ht =>
            rename_i a vs0
            cases ht with
            | cons q1 ht =>
              cases ht with
              | cons q2 ht =>
                cases ht
                have ek := q1.keyV hk
                subst ek
                exact ⟨a :: ps, (kk, _) :: kvs, by rw [w1]; rfl, .cons (sqT_mono ex hs) w2, .cons q2 w3⟩
        · cases h
      · cases h
theorem merge_nil {K : PySem.W.Frag} {mg : Str → Option Value} {rho : List Addr} {F : Hp} {kvs : List (Key × V)} {es : List (Key × D)} (h : KVr K mg rho F kvs es) : KVr K mg rho F (mergeK [] kvs) (mrgD es) := h.merge .nil
theorem dict_of {xs : List V} {H : Hp} {rho : List Addr} {F : Hp} {m : M} {d : D} {es : List (Key × D)} {Q : VK} (A : Abs X.K X.mg rho F H m) (r : RpL X.K X.mg rho F xs [d]) (h : dictV d m = some es) (k : ∀ ks p, KVr X.K X.mg rho F ks es → H p = none → Q (.ref p) (upd H p (.dK ks))) :
    (∃ (a : Addr) (kvs : List (Key × V)), xs = [.ref a] ∧ Rd H a (.dK kvs) ∧ ∀ p, H p = none → Q (.ref p) (upd H p (.dK kvs))) ∨
    ∃ (a : Addr) (ps : List Addr) (kvs : List (Key × V)), xs = [.ref a] ∧ SqL X.K H a (ps.map V.ref) ∧ Paired (fun p kv => SqT X.K H p [kV kv.1, kv.2]) ps kvs ∧ ∀ p, H p = none → Q (.ref p) (upd H p (.dK (mergeK [] kvs))) := by
  unfold dictV at h
  split at h
  · rename_i es' hv
    cases h
    cases r with
    | cons r1 r2 =>
      cases r2
      obtain ⟨p, kvs, rfl, hp, kr⟩ := r1.viewD A hv
      exact .inl ⟨p, kvs, rfl, hp, fun l nl => k _ _ kr nl⟩
  · split at h
    · rename_i es' hb
      cases h
      obtain ⟨ds, hv, hs⟩ := bindV hb
      cases r with
      | cons r1 r2 =>
        cases r2
        obtain ⟨p, vs, rfl, hp, q1⟩ := r1.viewL A hv
        obtain ⟨ps, kvs, rfl, w2, w3⟩ := prs_rp A.ex q1 hs
        exact .inr ⟨p, ps, kvs, rfl, SqL.of hp, w2, fun l nl => k _ _ (merge_nil w3) nl⟩
    · cases h
theorem cd_dict (hc : X.calm = true) : CallD X (.type "dict") dictD := CallR.imp (call_lockD (call_dictD.or (call_dictP hc))) (by
  rintro xs H Q ⟨rho, F, m, ds, A, r, h⟩
  unfold dictD at h
  split at h
  · split at h
    · rename_i d es hv
      exact dict_of (Q := fun v H1 => ∃ p kvs, v = .ref p ∧ H1 p = some (.dK kvs) ∧ ∀ o, Q v (upd H1 p (.frz o (.dK kvs)))) A r hv fun ks p kr np => ⟨p, ks, rfl, upd_same, fun o => h.newD A kr np o⟩
    · exact h.elim
  · exact h.elim)
theorem cd_dictM (hc : X.calm = true) : CallD X (.type "dict") dictMD := CallR.imp (call_dictD.or (call_dictP hc)) (by
  rintro xs H Q ⟨rho, F, m, ds, A, r, h⟩
  unfold dictMD at h
  split at h
  · split at h
    · rename_i d es hv
      exact dict_of A r hv fun ks p kr np => h.newDM A kr np
    · exact h.elim
  · exact h.elim)
theorem cd_listM : CallD X (.type "list") listMD := CallR.imp call_list_of (by
  rintro xs H Q ⟨rho, F, m, ds, A, r, h⟩
  unfold listMD at h
  split at h
  · split at h
    · rename_i d xs hv
      cases r with
      | cons r1 r2 =>
        cases r2
        obtain ⟨p, vs, rfl, hp, q1⟩ := r1.viewQ A hv
        exact ⟨p, vs, rfl, hp, fun l nl => h.newLM A q1 nl⟩
    · exact h.elim
  · exact h.elim)
end
/-! ### iter(t), t a tuple -/
def iterD (ds : List D) (m : M) : R D := match ds with
  | [.tup ds] => .ok (.ref m.length) (m ++ [.itr ds])
  | _ => .no
theorem call_iterT {X : Cx} : CallR X (.builtin "iter") (fun xs H Q => ∃ (p : Addr) (vs : List V), xs = [V.ref p] ∧ SqT X.K H p vs ∧ ∀ it, H it = none → Q (.ref it) (upd H it (ItT p it 0))) := by
  intro pins s σ H xs us Q I r h
  obtain ⟨p, vs, rfl, hq, q⟩ := h
  obtain rfl := Vals.ref1 r
  obtain ⟨its, rv, pl, hz⟩ := I.tuple hq
  refine Calls.call_function_entry (by decide +kernel) (by decide +kernel) PySem.W.kdk_entry_iter (PySem.W.kdk_args_iter _) ?_
  unfold Builtin.«iter»
  refine wpAny_bind (m := someArgs "iter" 1 2 _) (wpAny_of_eq (a := [Value.ref p]) (by first | rfl | kernel_rfl!) ?_)
  show wpAny _ _ (pyIter (.ref p) >>= _) _ _ _
  refine wpAny_bind (wpAny_pyIter_tuple (items := its.toArray) pl ?_)
  exact wpAny_pure ⟨_, rfl, .ref s.heap.objs.size, _, I.laid (t' := s.toks) (fun b u e => Heap.get?_push_of_some _ e) (Nat.le_refl _) (itT_ok ⟨_, Heap.get?_push_size _ rfl, rfl, rfl⟩), rfl, q _ (I.hok.fresh (Nat.le_refl _))⟩
theorem cd_iter {X : Cx} : CallD X (.builtin "iter") iterD := CallR.imp call_iterT (by
  rintro xs H Q ⟨rho, F, m, ds, A, r, h⟩
  unfold iterD at h
  split at h
  · cases r with
    | cons r1 r2 =>
      cases r2
      cases r1 with
      | tup hs hr =>
        refine ⟨_, _, rfl, sqT_mono A.ex hs, fun p np => ?_⟩
        have on : Onto rho F (rho ++ [p]) F := ⟨fun {i x} h => by rw [List.getElem?_append_left (List.getElem?_eq_some_iff.mp h).1]; exact h, Same.refl F⟩
        have nF : F p = none := by
          cases e : F p with
          | none => rfl
          | some u => rw [A.ex p u e] at np; cases np
        obtain ⟨st, A'⟩ := A.alloc (o := ItT _ p 0) (x := .itr _) np ⟨nF, _, _, upd_same, hs, hr.mono on⟩
        refine h _ _ _ _ st A' (.ref ?_)
        rw [← A.len, List.getElem?_append_right (Nat.le_refl _)]
        simp
  · exact h.elim)
/-! ### isinstance -/
def tyD (d : D) (m : M) : Option String := match d with
  | .non => some "NoneType"
  | .bl _ => some "bool"
  | .int _ => some "int"
  | .str _ => some "str"
  | .tup _ => some "tuple"
  | .lst _ => some "list"
  | .dct _ => some "dict"
  | .ref i => match m[i]? with
    | some (.lst _) => some "list"
    | some (.dct _) => some "dict"
    | _ => none
  | _ => none
theorem ty_of {K : PySem.W.Frag} {mg : Str → Option Value} {rho : List Addr} {F H : Hp} {m : M} {x : V} {d : D} {t : String} (A : Abs K mg rho F H m) (r : Rp K mg rho F x d) (h : tyD d m = some t) : TyX K H x (.type t) := by
  unfold tyD at h
  split at h
  · cases r; cases h; exact .base .non
  · cases r; cases h; exact .base (.bl _)
  · cases r; cases h; exact .base (.int _)
  · cases r; cases h; exact .base (.str _)
  · cases h
    cases r with
    | tup hs hr =>
      rcases sqT_mono A.ex hs with (q | ⟨o, q⟩) | ⟨o, its, n, q, c, _⟩
      · exact .base (.tup q)
      · exact .fTuple q
      · exact .kTuple q c
  · cases h
    cases r with
    | lst hs hr => exact .base (.lst (A.ex _ _ hs))
  · cases h
    cases r with
    | dK hs hr => exact .fDict (A.ex _ _ hs)
  · split at h
    · rename_i hm
      cases h
      cases r with
      | ref hi => obtain ⟨_, vs, h0, _⟩ := A.own _ _ _ hi hm; exact .base (.lst h0)
    · rename_i hm
      cases h
      cases r with
      | ref hi => obtain ⟨_, vs, h0, _⟩ := A.own _ _ _ hi hm; exact .base (.dK h0)
    · cases h
  · cases h
/-- the built-in classes that are asked for, and what is of them -/
def isiB (t c : String) : Bool := t == c || (t == "bool" && c == "int")
end HB
namespace HB
open PySem L2

/-! ### data that tells of no owned object -/
mutual
def noref : D → Bool
  | .non => true
  | .bl _ => true
  | .int _ => true
  | .str _ => true
  | .tup ds => norefL ds
  | .lst ds => norefL ds
  | .dct kvs => norefK kvs
  | .obj _ fs => norefF fs
  | .exv _ fs => norefF fs
  | .ref _ => false
  | .scr _ => true
def norefL : List D → Bool
  | [] => true
  | d :: ds => noref d && norefL ds
def norefK : List (D × D) → Bool
  | [] => true
  | (k, d) :: ds => noref k && noref d && norefK ds
def norefF : List (Str × D) → Bool
  | [] => true
  | (_, d) :: ds => noref d && norefF ds
end
def norefM : MO → Bool
  | .lst ds => norefL ds
  | .dct kvs => norefK kvs
  | .ins _ fs => norefF fs
  | .itr ds => norefL ds
  | .gone => false
section
variable {K : PySem.W.Frag} {mg : Str → Option Value} {rho rho' : List Addr} {F F' H : Hp}
mutual
theorem Rp.free (e : Same F F') : ∀ {d : D} {v : V}, noref d = true → Rp K mg rho F v d → Rp K mg rho' F' v d
  | .non, _, _, r => by cases r; exact .non
  | .bl _, _, _, r => by cases r; exact .bl
  | .int _, _, _, r => by cases r; exact .int
  | .str _, _, _, r => by cases r; exact .str
  | .tup ds, _, h, r => by
    cases r with | tup hs hr => exact .tup (sqT_mono e hs) (RpL.free e (ds := ds) (by simpa [noref] using h) hr)
  | .lst ds, _, h, r => by
    cases r with | lst hs hr => exact .lst (e _ _ hs) (RpL.free e (ds := ds) (by simpa [noref] using h) hr)
  | .dct kvs, _, h, r => by
    cases r with
    | dK hs hr => exact .dK (e _ _ hs) (RpK.free e (ds := kvs) (by simpa [noref] using h) hr)
  | .obj c fs, _, h, r => by
    cases r with | obj hs hc hr => exact .obj (e _ _ hs) hc (RpF.free e (ds := fs) (by simpa [noref] using h) hr)
  | .exv c fs, _, h, r => by
    cases r with
    | xv0 hs hc => exact .xv0 (e _ _ hs) hc
    | xv hs hc hd hr => exact .xv (e _ _ hs) hc (e _ _ hd) (RpF.free e (ds := fs) (by simpa [noref] using h) hr)
  | .ref _, _, h, _ => by simp [noref] at h
  | .scr _, _, _, r => by cases r with | scr hs => exact .scr (e.seq hs)
theorem RpL.free (e : Same F F') : ∀ {ds : List D} {vs : List V}, norefL ds = true → RpL K mg rho F vs ds → RpL K mg rho' F' vs ds
  | [], _, _, r => by cases r; exact .nil
  | d :: ds, _, h, r => by
    simp only [norefL, Bool.and_eq_true] at h
    cases r with | cons r1 r2 => exact .cons (Rp.free e h.1 r1) (RpL.free e h.2 r2)
theorem RpK.free (e : Same F F') : ∀ {ds : List (D × D)} {vs : List (Key × V)}, norefK ds = true → RpK K mg rho F vs ds → RpK K mg rho' F' vs ds
  | [], _, _, r => by cases r; exact .nil
  | (k, d) :: ds, _, h, r => by
    simp only [norefK, Bool.and_eq_true] at h
    cases r with | cons r1 r2 => exact .cons (Rp.free e h.1.2 r1) (RpK.free e h.2 r2)
theorem RpT.free (e : Same F F') : ∀ {ds : List (D × D)} {vs : List (List Key × V)}, norefK ds = true → RpT K mg rho F vs ds → RpT K mg rho' F' vs ds
  | [], _, _, r => by cases r; exact .nil
  | (k, d) :: ds, _, h, r => by
    simp only [norefK, Bool.and_eq_true] at h
    cases r with | cons r1 r2 => exact .cons (Rp.free e h.1.2 r1) (RpT.free e h.2 r2)
theorem RpF.free (e : Same F F') : ∀ {ds : List (Str × D)} {vs : List (Str × V)}, norefF ds = true → RpF K mg rho F vs ds → RpF K mg rho' F' vs ds
  | [], _, _, r => by cases r; exact .nil
  | (k, d) :: ds, _, h, r => by
    simp only [norefF, Bool.and_eq_true] at h
    cases r with | cons r1 r2 => exact .cons (Rp.free e h.1 r1) (RpF.free e h.2 r2)
end
theorem RpM.free {H' : Hp} {a : Addr} {x : MO} (h : RpM K mg rho F H a x) (n : norefM x = true) (e : Same F F') (hf : F' a = F a) (hh : ∀ o, H a = some o → H' a = some o) : RpM K mg rho' F' H' a x := by
  cases x with
  | gone => trivial
  | lst ds =>
    obtain ⟨f0, vs, h0, r⟩ := h
    exact ⟨hf.trans f0, vs, hh _ h0, r.free e n⟩
  | dct kvs =>
    obtain ⟨f0, ks, h0, r⟩ := h
    exact ⟨hf.trans f0, ks, hh _ h0, r.free e n⟩
  | ins c gs =>
    obtain ⟨f0, C, dx, fs, h0, hc, r⟩ := h
    exact ⟨hf.trans f0, C, dx, fs, hh _ h0, hc, r.free e n⟩
  | itr ds =>
    obtain ⟨f0, p, vs, h0, hs, r⟩ := h
    exact ⟨hf.trans f0, p, vs, hh _ h0, sqT_mono e hs, r.free e n⟩
end

/-! ### calling a def: only the owned objects that are handed over go with it -/
abbrev Sem := List D → M → R D
/-- the owned objects among the arguments, in order -/
def refsOf : List D → List Nat
  | [] => []
  | .ref i :: ds => i :: refsOf ds
  | _ :: ds => refsOf ds
/-- the arguments as the callee sees them, from its k-th owned object on -/
def seen (k : Nat) : List D → List D
  | [] => []
  | .ref _ :: ds => .ref k :: seen (k + 1) ds
  | d :: ds => d :: seen k ds
def isRef : D → Bool
  | .ref _ => true
  | _ => false
/-- what is handed over -/
def hand (m : M) : List Nat → Option M
  | [] => some []
  | i :: is => match m[i]?, hand m is with
    | some o, some r => if norefM o then some (o :: r) else none
    | _, _ => none
/-- what comes back -/
def back (m : M) : List Nat → M → Option M
  | [], _ => some m
  | i :: is, o :: r => if norefM o then (back m is r).map (·.set i o) else none
  | _ :: _, [] => none
def nodupB : List Nat → Bool
  | [] => true
  | a :: r => !r.contains a && nodupB r
def callD (sem : Sem) (ds : List D) (m : M) : R D :=
  if ds.all (fun d => isRef d || noref d) && nodupB (refsOf ds) then
    match hand m (refsOf ds) with
    | some mc => match sem (seen 0 ds) mc with
      | .ok d m2 => match back m (refsOf ds) m2 with
        | some m' => match d with
          | .ref j => match (refsOf ds)[j]? with
            | some i => .ok (.ref i) m'
            | none => match m2[j]? with
              | some o => if norefM o then .ok (.ref m'.length) (m' ++ [o]) else .no
              | none => .no
          | d => if noref d then .ok d m' else .no
        | none => .no
      | .ex c m2 => match back m (refsOf ds) m2 with
        | some m' => if norefF c.fs then .ex c m' else .no
        | none => .no
      | .no => .no
    | none => .no
  else .no
section
variable {K : PySem.W.Frag} {mg : Str → Option Value} {rho rho' : List Addr} {F F' H H' : Hp} {m m2 m' mc : M}
theorem nodup_of : ∀ {is : List Nat}, nodupB is = true → is.Nodup
  | [], _ => .nil
  | a :: r, h => by
    simp only [nodupB, Bool.and_eq_true, Bool.not_eq_true', List.contains_eq_mem, decide_eq_false_iff_not] at h
    exact List.nodup_cons.mpr ⟨h.1, nodup_of h.2⟩
theorem hand_spec : ∀ {is : List Nat} {mc : M}, hand m is = some mc → mc.length = is.length ∧ ∀ (k i : Nat), is[k]? = some i → ∃ o, m[i]? = some o ∧ mc[k]? = some o ∧ norefM o = true
  | [], _, h => by cases h; exact ⟨rfl, fun k i e => by simp at e⟩
  | i :: is, mc, h => by
    simp only [hand] at h
    split at h
    · rename_i o r h1 h2
      split at h
      · rename_i hn
        cases h
        obtain ⟨l, f⟩ := hand_spec h2
        refine ⟨by simp [l], fun k j e => ?_⟩
        cases k with
        | zero => simp at e; subst e; exact ⟨o, h1, rfl, hn⟩
        | succ k => exact f k j (by simpa using e)
      · cases h
    · cases h
theorem back_spec : ∀ {is : List Nat} {m2 m' : M}, back m is m2 = some m' → is.Nodup → m'.length = m.length ∧ (∀ (i : Nat), i ∉ is → m'[i]? = m[i]?) ∧ ∀ (k i : Nat), is[k]? = some i → i < m.length → ∃ o, m2[k]? = some o ∧ m'[i]? = some o ∧ norefM o = true
  | [], _, _, h, _ => by cases h; exact ⟨rfl, fun _ _ => rfl, fun k i e => by simp at e⟩
  | i :: is, o :: r, m', h, nd => by
    simp only [back] at h
    split at h
    · rename_i hn
      simp only [Option.map_eq_some_iff] at h
      obtain ⟨m1, h1, rfl⟩ := h
      obtain ⟨n1, n2⟩ := List.nodup_cons.mp nd
      obtain ⟨l, f, g⟩ := back_spec h1 n2
      refine ⟨by simp [l], fun j hj => ?_, fun k j e hl => ?_⟩
      · rw [List.getElem?_set_ne (fun e => hj (by rw [e]; exact List.mem_cons_self))]
        exact f j fun z => hj (List.mem_cons_of_mem _ z)
      · cases k with
        | zero =>
          simp at e; subst e
          exact ⟨o, rfl, List.getElem?_set_self (by rw [l]; exact hl), hn⟩
        | succ k =>
          have e' : is[k]? = some j := by simpa using e
          obtain ⟨o', a1, a2, a3⟩ := g k j e' hl
          refine ⟨o', by simpa using a1, ?_, a3⟩
          rw [List.getElem?_set_ne (fun z => n1 (by rw [z]; exact List.mem_of_getElem? e'))]
          exact a2
    · cases h
  | _ :: _, [], _, h, _ => by simp [back] at h
/-- the addresses that are handed over -/
def handR (rho : List Addr) (is : List Nat) : List Addr := is.map fun i => rho.getD i 0
theorem handR_get {is : List Nat} {k i : Nat} {a : Addr} (e : is[k]? = some i) (h : rho[i]? = some a) : (handR rho is)[k]? = some a := by
  unfold handR
  rw [List.getElem?_map, e]
  simp [List.getD, h]
theorem Abs.hand {is : List Nat} (A : Abs K mg rho F H m) (h : hand m is = some mc) (nd : is.Nodup) : Abs K mg (handR rho is) F H mc := by
  obtain ⟨l, f⟩ := hand_spec h
  have at_ : ∀ (k i : Nat), is[k]? = some i → ∃ a, rho[i]? = some a ∧ (handR rho is)[k]? = some a := fun k i e => by
    obtain ⟨o, h1, _⟩ := f k i e
    have hl : i < rho.length := by rw [A.len]; exact (List.getElem?_eq_some_iff.mp h1).1
    exact ⟨rho[i], by simp [hl], handR_get e (by simp [hl])⟩
  have of : ∀ (k : Nat) a, (handR rho is)[k]? = some a → ∃ i, is[k]? = some i ∧ rho[i]? = some a := fun k a e => by
    have hk : k < is.length := by have := (List.getElem?_eq_some_iff.mp e).1; simpa [handR] using this
    have e1 : is[k]? = some is[k] := by simp [hk]
    obtain ⟨b, q1, q2⟩ := at_ k _ e1
    rw [e] at q2; cases q2
    exact ⟨_, e1, q1⟩
  refine ⟨A.ex, by simp [handR, l], ?_, fun k a o e1 e2 => ?_, fun a ha => ?_⟩
  · refine List.pairwise_iff_getElem.mpr fun i j hi hj hij hne => ?_
    have hj' : j < is.length := by simpa [handR] using hj
    have hi' : i < is.length := Nat.lt_trans hij hj'
    obtain ⟨a, q1, q2⟩ := at_ i _ (show is[i]? = some is[i] by simp [hi'])
    obtain ⟨b, p1, p2⟩ := at_ j _ (show is[j]? = some is[j] by simp [hj'])
    have q3 := (List.getElem?_eq_some_iff.mp q2).2
    have p3 := (List.getElem?_eq_some_iff.mp p2).2
    rw [q3, p3] at hne
    subst hne
    have h1 := List.getElem?_eq_some_iff.mp q1
    have h2 := List.getElem?_eq_some_iff.mp p1
    have e3 : is[i] = is[j] := (List.getElem_inj A.nd).mp (h1.2.trans h2.2.symm)
    have := (List.getElem_inj nd).mp e3
    omega
  · obtain ⟨i, q1, q2⟩ := of k a e1
    obtain ⟨o', h1, h2, h3⟩ := f k i q1
    rw [e2] at h2; cases h2
    exact (A.own i a o q2 h1).free h3 (Same.refl F) rfl fun _ z => z
  · obtain ⟨k, hk⟩ := List.mem_iff_getElem?.mp ha
    obtain ⟨i, _, q2⟩ := of k a hk
    exact A.all a (List.mem_of_getElem? q2)
theorem RpL.seen (e : Same F F') : ∀ {ds : List D} {vs : List V} {k : Nat}, (ds.all fun d => isRef d || noref d) = true → (∀ (j i : Nat) a, (refsOf ds)[j]? = some i → rho[i]? = some a → rho'[k + j]? = some a) → RpL K mg rho F vs ds → RpL K mg rho' F' vs (seen k ds)
  | [], _, _, _, _, r => by cases r; exact .nil
  | .ref i :: ds, _, k, h, f, r => by
    simp only [List.all_cons, Bool.and_eq_true] at h
    cases r with
    | cons r1 r2 =>
      cases r1 with
      | ref hi =>
        refine .cons (.ref (by have := f 0 i _ (by simp [refsOf]) hi; simpa using this)) (RpL.seen e h.2 (fun j i' a q1 q2 => ?_) r2)
        have := f (j + 1) i' a (by simp only [refsOf]; simpa using q1) q2
        rw [show k + 1 + j = k + (j + 1) by omega]
        exact this
  | .non :: ds, _, k, h, f, r => by simp only [List.all_cons, Bool.and_eq_true] at h; cases r with | cons r1 r2 => exact .cons (r1.free e h.1) (RpL.seen e h.2 f r2)
  | .bl _ :: ds, _, k, h, f, r => by simp only [List.all_cons, Bool.and_eq_true] at h; cases r with | cons r1 r2 => exact .cons (r1.free e h.1) (RpL.seen e h.2 f r2)
  | .int _ :: ds, _, k, h, f, r => by simp only [List.all_cons, Bool.and_eq_true] at h; cases r with | cons r1 r2 => exact .cons (r1.free e h.1) (RpL.seen e h.2 f r2)
  | .str _ :: ds, _, k, h, f, r => by simp only [List.all_cons, Bool.and_eq_true] at h; cases r with | cons r1 r2 => exact .cons (r1.free e h.1) (RpL.seen e h.2 f r2)
  | .tup _ :: ds, _, k, h, f, r => by simp only [List.all_cons, Bool.and_eq_true] at h; cases r with | cons r1 r2 => exact .cons (r1.free e (by simpa [isRef] using h.1)) (RpL.seen e h.2 f r2)
  | .lst _ :: ds, _, k, h, f, r => by simp only [List.all_cons, Bool.and_eq_true] at h; cases r with | cons r1 r2 => exact .cons (r1.free e (by simpa [isRef] using h.1)) (RpL.seen e h.2 f r2)
  | .dct _ :: ds, _, k, h, f, r => by simp only [List.all_cons, Bool.and_eq_true] at h; cases r with | cons r1 r2 => exact .cons (r1.free e (by simpa [isRef] using h.1)) (RpL.seen e h.2 f r2)
  | .obj _ _ :: ds, _, k, h, f, r => by simp only [List.all_cons, Bool.and_eq_true] at h; cases r with | cons r1 r2 => exact .cons (r1.free e (by simpa [isRef] using h.1)) (RpL.seen e h.2 f r2)
  | .exv _ _ :: ds, _, k, h, f, r => by simp only [List.all_cons, Bool.and_eq_true] at h; cases r with | cons r1 r2 => exact .cons (r1.free e (by simpa [isRef] using h.1)) (RpL.seen e h.2 f r2)
  | .scr _ :: ds, _, k, h, f, r => by simp only [List.all_cons, Bool.and_eq_true] at h; cases r with | cons r1 r2 => exact .cons (r1.free e h.1) (RpL.seen e h.2 f r2)
/-- the caller's state behind the call -/
theorem Abs.back {is : List Nat} (A : Abs K mg rho F H m) (h : HB.hand m is = some mc) (nd : is.Nodup) (st : Step (handR rho is) F H rho' F' H') (A2 : Abs K mg rho' F' H' m2) (hb : back m is m2 = some m') :
    Step rho F H rho F' H' ∧ Abs K mg rho F' H' m' := by
  obtain ⟨l, f⟩ := hand_spec h
  obtain ⟨l2, g1, g2⟩ := back_spec hb nd
  have inr : ∀ (k i : Nat), is[k]? = some i → ∃ a, rho[i]? = some a ∧ (handR rho is)[k]? = some a := fun k i e => by
    obtain ⟨o, h1, _⟩ := f k i e
    have hl : i < rho.length := by rw [A.len]; exact (List.getElem?_eq_some_iff.mp h1).1
    exact ⟨rho[i], by simp [hl], handR_get e (by simp [hl])⟩
  have sub : ∀ a, a ∈ handR rho is → ∃ (k i : Nat), is[k]? = some i ∧ rho[i]? = some a := fun a ha => by
    obtain ⟨k, hk⟩ := List.mem_iff_getElem?.mp ha
    have hk' : k < is.length := by have := (List.getElem?_eq_some_iff.mp hk).1; simpa [handR] using this
    obtain ⟨b, q1, q2⟩ := inr k _ (show is[k]? = some is[k] by simp [hk'])
    rw [hk] at q2; cases q2
    exact ⟨k, _, by simp [hk'], q1⟩
  have s2 : Step rho F H rho F' H' := ⟨⟨[], by simp, by simp⟩, st.ex, st.dom, fun a o ha hn => st.old a o ha fun z => by
    obtain ⟨k, i, _, q⟩ := sub a z
    exact hn (List.mem_of_getElem? q)⟩
  refine ⟨s2, ⟨A2.ex, by rw [l2]; exact A.len, A.nd, fun i a o hi ho => ?_, fun a ha => let ⟨u, hu⟩ := A.all a ha; st.dom a u hu⟩⟩
  by_cases hm : i ∈ is
  · obtain ⟨k, hk⟩ := List.mem_iff_getElem?.mp hm
    have hl : i < m.length := by rw [← A.len]; exact (List.getElem?_eq_some_iff.mp hi).1
    obtain ⟨o', q1, q2, q3⟩ := g2 k i hk hl
    rw [ho] at q2; cases q2
    obtain ⟨b, p1, p2⟩ := inr k i hk
    rw [hi] at p1; cases p1
    exact (A2.own k a o (st.ix p2) q1).free q3 (Same.refl F') rfl fun _ z => z
  · rw [g1 i hm] at ho
    obtain ⟨u, hu⟩ := A.all a (List.mem_of_getElem? hi)
    have na : a ∉ handR rho is := fun z => by
      obtain ⟨k, j, q1, q2⟩ := sub a z
      have h1 := List.getElem?_eq_some_iff.mp hi
      have h2 := List.getElem?_eq_some_iff.mp q2
      have := (List.getElem_inj A.nd).mp (h1.2.trans h2.2.symm)
      exact hm (by rw [this]; exact List.mem_of_getElem? q1)
    obtain ⟨h1, h2⟩ := st.old a u hu na
    exact (A.own i a o hi ho).mono s2.onto h2 fun v hv => by rw [hu] at hv; cases hv; exact h1
theorem RpX.free {c : Exc} {cls : Value} {d : Option Addr} (e : Same F F') (h : norefF c.fs = true) (r : RpX K mg rho F c cls d) : RpX K mg rho' F' c cls d := by
  cases r with
  | bare g => exact .bare g
  | own g hd hr => exact .own g (e _ _ hd) (hr.free e h)
end
/-- a def's promise, by data -/
def spD (K : PySem.W.Frag) (mg : Str → Option Value) (np : Nat) (sem : Sem) : Sp := fun vs H Q E => vs.length = np ∧ ∃ rho F ds m, Abs K mg rho F H m ∧ RpL K mg rho F vs ds ∧
  RdE K mg (fun cls dx _ H' => E cls dx H') [] (relD K mg) rho F H Q (sem ds m)
/-- a call, by data -/
theorem call_data {K : PySem.W.Frag} {mg : Str → Option Value} {rho : List Addr} {F H : Hp} {m : M} {W : WX} {σ : L2.St} {Q : VK} {np : Nat} {sem : Sem} {ds : List D} {vs : List V} (A : Abs K mg rho F H m) (r : RpL K mg rho F vs ds) (hn : ds.length = np)
    (h : RdE K mg W σ (relD K mg) rho F H Q (callD sem ds m)) : spD K mg np sem vs H Q (fun cls dx H' => W cls dx σ H') := by
  unfold callD at h
  split at h
  · rename_i hc
    simp only [Bool.and_eq_true] at hc
    obtain ⟨hc, hnd⟩ := hc
    have nd := nodup_of hnd
    split at h
    · rename_i mc hmc
      refine ⟨by rw [r.length]; exact hn, handR rho (refsOf ds), F, seen 0 ds, mc, A.hand hmc nd, RpL.seen (Same.refl F) hc (fun j i a q1 q2 => by rw [Nat.zero_add]; exact handR_get q1 q2) r, ?_⟩
      cases hs : sem (seen 0 ds) mc with
      | no => rw [hs] at h; exact h
      | ok d m2 =>
        rw [hs] at h
        simp only at h
        intro v rho' F' H' st A2 rv
        split at h
        · rename_i m' hb
          obtain ⟨s2, A3⟩ := A.back hmc nd st A2 hb
          cases d with
          | ref j =>
            simp only at h
            cases rv with
            | ref hj =>
              rename_i a
              split at h
              · rename_i i hi
                refine h _ _ _ _ s2 A3 (.ref ?_)
                obtain ⟨o, h1, _⟩ := (hand_spec hmc).2 j i hi
                have hl : i < rho.length := by rw [A.len]; exact (List.getElem?_eq_some_iff.mp h1).1
                have q := st.ix (handR_get hi (show rho[i]? = some rho[i] by simp [hl]))
                rw [hj] at q
                rw [q]
                simp [hl]
              · rename_i hi
                split at h
                · rename_i o ho
                  split at h
                  · rename_i hno
                    obtain ⟨r1, e1, e2⟩ := st.pre
                    have na : H a = none := by
                      refine e2 a ?_
                      rw [e1, List.getElem?_append_right (by have := List.getElem?_eq_none_iff.mp hi; simpa [handR] using this)] at hj
                      exact List.mem_of_getElem? hj
                    have nr : a ∉ rho := A.notmem na
                    obtain ⟨u, hu⟩ := A2.all a (List.mem_of_getElem? hj)
                    have s3 : Step rho F H (rho ++ [a]) F' H' := ⟨⟨[a], rfl, fun b hb => by rw [List.mem_singleton.mp hb]; exact na⟩, s2.ex, s2.dom, s2.old⟩
                    refine h _ _ _ _ s3 ⟨A3.ex, by simp [A3.len], ?_, fun i b x hb hx => ?_, fun b hb => ?_⟩ (.ref ?_)
                    · rw [List.nodup_append]
                      refine ⟨A3.nd, by simp, fun b hb c hc => ?_⟩
                      rw [List.mem_singleton.mp hc]
                      intro e; subst e; exact nr hb
                    · by_cases hl : i < rho.length
                      · rw [List.getElem?_append_left hl] at hb
                        rw [List.getElem?_append_left (by rw [← A3.len]; exact hl)] at hx
                        exact (A3.own i b x hb hx).mono ⟨fun h => by rw [List.getElem?_append_left (List.getElem?_eq_some_iff.mp h).1]; exact h, Same.refl F'⟩ rfl fun _ z => z
                      · have hl' : i = rho.length := by
                          have := (List.getElem?_eq_some_iff.mp hb).1
                          simp at this; omega
                        subst hl'
                        rw [List.getElem?_append_right (Nat.le_refl _)] at hb
                        rw [A3.len, List.getElem?_append_right (Nat.le_refl _)] at hx
                        simp at hb hx
                        subst hb; subst hx
                        exact (A2.own j _ _ hj ho).free hno (Same.refl F') rfl fun _ z => z
                    · rcases List.mem_append.mp hb with z | z
                      · exact A3.all b z
                      · rw [List.mem_singleton.mp z]; exact ⟨u, hu⟩
                    · rw [← A3.len, List.getElem?_append_right (Nat.le_refl _)]
                      simp
                  · exact h.elim
                · exact h.elim
          | _ =>
            simp only at h
            split at h
            · rename_i hr
              exact h v _ _ _ s2 A3 (rv.free (Same.refl F') hr)
            · exact h.elim
        · exact h.elim
      | ex c m2 =>
        rw [hs] at h
        simp only at h
        intro cls dx rho' F' H' st A2 rx
        split at h
        · rename_i m' hb
          obtain ⟨s2, A3⟩ := A.back hmc nd st A2 hb
          split at h
          · rename_i hr
            exact h cls dx _ _ _ s2 A3 (rx.free (Same.refl F') hr)
          · exact h.elim
        · exact h.elim
    · exact h.elim
  · exact h.elim
/-- the class c called: its __init__ runs with a new object of ours, which stands still from then on -/
def mkD (sem : Sem) (c : Str) (ds : List D) (m : M) : R D := if norefL ds then
    match sem (.ref 0 :: ds) [.ins c []] with
    | .ok .non (.ins c' fs :: _) => if norefF fs && decide (c' = c) then .ok (.obj c fs) m else .no
    | .ex e _ => if norefF e.fs then .ex e m else .no
    | _ => .no
  else .no
end HB
namespace HB
open PySem L2 PySem.Spec PyProof.Rows

/-! ### a def keeps a promise, where no repr is under way -/
def FnG (P : Program) (w : World) (K : PySem.W.Frag) (mg : Str → Option Value) (base : Heap) (k : Nat) (f : Addr) (fd : FuncData) (ps : List Str) (sp : Sp) : Prop :=
  ∀ (B : Around) (fr : List PySem.Env) (s : Shared) (H : Hp) (ag : Args) (us : List Value) (vs : List V) (Q : VK) (E : XK), Room k B → B.guards = some [] →
    Env0 P w K mg base B fr s H → BindsTo s fd ag (ps.zip us) → Vals vs us → vs.length = ps.length → sp vs H Q E → codeAny (model P w) B (.call (.ref f) ag) (CR (L2.CX P w) fr P w H s Q E) s
theorem FnG.mono {P : Program} {w : World} {K : PySem.W.Frag} {mg : Str → Option Value} {base : Heap} {j k : Nat} {f : Addr} {fd : FuncData} {ps : List Str} {sp : Sp} (G : FnG P w K mg base j f fd ps sp) (h : j ≤ k) : FnG P w K mg base k f fd ps sp :=
  fun B fr s H ag us vs Q E hr => G B fr s H ag us vs Q E (hr.mono h)
theorem deeper_guards (B : Around) (e : PySem.Env) : (B.deeper e).guards = B.guards := rfl
theorem in1_guards (B : Around) : B.in1.guards = B.guards := rfl
theorem under_guards (B : Around) (C : Addr) (us : List Value) (kw : List (Str × Value)) : (B.under (.builtin "type.__call__" ⟨.ref C :: us, kw⟩)).guards = B.guards := by
  first | rfl | simp [Around.under, Code.isGuard, guardIds]
/-- a def that stands there, with or without defaults -/
structure FunX (K : PySem.W.Frag) (x qual : Str) (st : Stmt) (f : Addr) (fd : FuncData) : Prop where
  ex : ∃ (oc : Value) (od : Option Addr) (dV kV doc pm : Value) (an : Option Addr) (cdv ct : Value) (osl : Array (Option Value)),
    fd = PySem.W.fnOf x qual (defArgs st) (defBody st) (defScope st) dV kV doc pm an cdv ct ∧ K.lookup f = some ⟨oc, od, .func fd, osl⟩ ∧ PySem.W.codeIn K cdv qual = true
  kp : PySem.W.keepIn K (.ref f) = true
/-- a def of the text, by its body -/
theorem fnG_of {P : Program} {w : World} {K : PySem.W.Frag} {mg : Str → Option Value} {base : Heap} {x qual : Str} {st : Stmt} {f : Addr} {fd : FuncData} {N ps : List Str} {k : Nat} {sp : Sp} (Fn : FunX K x qual st f fd) (S : FnScope N ps (defScope st))
    (hb : ∀ (cdv : Value) (B : Around) (fr : List PySem.Env) (s : Shared) (H : Hp) (vs : List V) (Q : VK) (E : XK), Room k (B.deeper (envOfC qual (defScope st) s.heap.objs.size f cdv)) → B.guards = some [] → vs.length = ps.length → sp vs H Q E →
      ∃ t, PSs (cxOf (L2.CX P w) P w K mg base N qual (defScope st) f cdv B fr s H E) (defBody st) t ∧ t { nx := fun _ H' => Q .non H', rt := Q } (L2.start N vs) H) : FnG P w K mg base (k + 1) f fd ps sp := by
  obtain ⟨oc, od, dV, kV, doc, pm, an, cdv, ct, osl, rfl, lk, hcd⟩ := Fn.ex
  intro B fr s H ag us vs Q E room gd env0 bnd rel hl want
  have stay : ∀ b o, base.get? b = some o → s.heap.get? b = some o := fun b o e => (env0.bs b o e).1
  have kin : K.In s.heap := env0.mod.kin.keeps stay
  have kinds : ∀ y ∈ ps.zip us, (defScope st).names.lookup y.1 = some .local ∨
      ((defScope st).names.lookup y.1 = some .cell ∧ ((cellsFrom (s.heap.objs.size + 1) (defScope st).names []).lookup y.1).isSome = true) := by
    rintro ⟨n, v⟩ hy
    have q := S.par n (List.of_mem_zip hy).1
    rcases q with q | q
    · left; exact q
    · right; exact ⟨q, PySem.W.cellsFrom_some _ _ _ (.inl q)⟩
  apply codeAny_call_function room.depth (kin _ _ lk) rfl S.co S.gen rfl
  · exact PySem.W.codeRec_of kin hcd
  · refine bnd _ _ _ _ (wpAny_newFunctionEnv_cells S.kind kinds ?_)
    intro env he s1 ic
    subst he
    constructor
    · exact (env0.mod.nolimit.keeps stay).keeps ic.toInCall.keep
    · apply codeAny_func
      obtain ⟨t, ht, hq⟩ := hb cdv B fr s H vs Q E (room.deeper _) gd hl want
      have J := inv_start (CX := L2.CX P w) (E := E) S room.hd env0 hl rel ic
      refine wpAny_mono (ht.run [] s1 _ H _ J hq) ?_ ?_
      · intro fl s2 hs
        cases fl
        · obtain ⟨σ2, H2, J2, q⟩ := hs
          exact ⟨V.non, H2, J2.os, J2.bare, J2.base, J2.hok, rfl, q⟩
        · obtain ⟨_, _, _, q⟩ := hs
          exact q.elim
        · obtain ⟨_, _, _, q⟩ := hs
          exact q.elim
        · obtain ⟨v, σ2, H2, J2, rv, q⟩ := hs
          exact ⟨v, H2, J2.os, J2.bare, J2.base, J2.hok, rv, q⟩
      · intro e s2 hs
        exact hs
/-! ### calls -/
section
variable {X : Cx} {k : Nat} {f : Addr} {fd : FuncData} {ps : List Str} {sp : Sp} {W : WX} {x : Str} {p pos : Pos}
theorem runG {pins : List (Addr × Obj)} {σ : L2.St} {H : Hp} {s : Shared} {Q : VK} {us : List Value} {vs : List V} {dvs : List V} {ds : List Value} (G : FnG X.prog X.w X.K X.mg X.base k f fd ps sp) (hr : Room k X.A) (hg : X.A.guards = some []) (hb : Binds X.K fd ps ds) (hd : Vals dvs ds) (tk : Takes X W)
    (I : Inv X pins σ H s) (r : Vals vs us) (hl : (vs ++ dvs).length = ps.length) (h : sp (vs ++ dvs) H Q (fun cls d H' => W cls d σ H')) : wpAny (model X.prog X.w) X.A (call (.ref f) us) (EP X pins σ Q) X.xe s := by
  have r2 : Vals (vs ++ dvs) (us ++ ds) := r.append hd
  have go := G X.A X.stack s H ⟨us, []⟩ (us ++ ds) (vs ++ dvs) Q _ hr hg I.env0 (hb s us I.kIn (r2.length ▸ hl)) r2 hl h
  refine wpAny_call (codeAny_mono go ?_)
  rintro (e | fl) s2 hq
  · exact tk e s2 (XE.of_call I (fun cls d H' z => z) hq)
  · cases fl
    case ret u => exact I.after hq
    all_goals exact hq.elim
/-- f(e, ..) -/
theorem peG {e : Expr} {es : List Expr} {t : TA} {dvs : List V} {ds : List Value} (G : FnG X.prog X.w X.K X.mg X.base k f fd ps sp) (hr : Room k X.A) (hgd : X.A.guards = some []) (hg : Gl X x) (hm : X.mg x = some (.ref f)) (hk : PySem.W.keepIn X.K (.ref f) = true) (hb : Binds X.K fd ps ds) (hd : Vals dvs ds) (tk : Takes X W)
    (ha : PA X (e :: es) t) (hdb : (x == ("__debug__" : Str)) = false) (he : starEach (e :: es) X.env = (false, eval e X.env) :: starEach es X.env) (hpl : (backTo pos (starEach es X.env)).any (·.1) = false) :
    PE X (.Call (.Name x p) (e :: es) [] pos) (fun σ H Q => t σ H fun vs H1 => (vs ++ dvs).length = ps.length ∧ sp (vs ++ dvs) H1 Q (fun cls d H' => W cls d σ H')) := by
  constructor
  intro pins s σ H Q I h
  apply wpAny_Call_Name_kw
  refine ld_glob I hg hm ?_ hdb
  refine PySem.W.callWith_K (h₀ := X.base) I.ok.mod.kin hk ?_ he hpl
  refine thn (ha.run pos pins s σ H _ I h) ?_
  rintro us s1 ⟨vs, H1, I1, rv, hl, q⟩
  exact ⟨I1.kIn, runG G hr hgd hb hd tk I1 rv hl q⟩
/-- f() -/
theorem peG0 {dvs : List V} {ds : List Value} (G : FnG X.prog X.w X.K X.mg X.base k f fd ps sp) (hr : Room k X.A) (hgd : X.A.guards = some []) (hg : Gl X x) (hm : X.mg x = some (.ref f)) (hk : PySem.W.keepIn X.K (.ref f) = true) (hb : Binds X.K fd ps ds) (hd : Vals dvs ds) (tk : Takes X W)
    (hdb : (x == ("__debug__" : Str)) = false) : PE X (.Call (.Name x p) [] [] pos) (fun σ H Q => dvs.length = ps.length ∧ sp dvs H Q (fun cls d H' => W cls d σ H')) := by
  constructor
  intro pins s σ H Q I h
  apply wpAny_Call_Name_kw
  refine ld_glob I hg hm ?_ hdb
  exact PySem.W.callWith_K0 I.kIn hk (runG (us := []) (vs := []) G hr hgd hb hd tk I .nil h.1 h.2)
/-- a def with its promise, called with np values; the rest are its defaults -/
def FnE0 (P : Program) (w : World) (K : PySem.W.Frag) (mg : Str → Option Value) (base : Heap) (f : Addr) (np : Nat) (sp : Sp) (j : Nat) : Prop :=
  ∃ (fd : FuncData) (ps : List Str) (dvs : List V) (ds : List Value) (sp0 : Sp), FnG P w K mg base j f fd ps sp0 ∧ Binds K fd ps ds ∧ Vals dvs ds ∧ np + dvs.length = ps.length ∧ ∀ vs H Q E, vs.length = np → sp vs H Q E → sp0 (vs ++ dvs) H Q E
theorem FnE0.of {P : Program} {w : World} {K : PySem.W.Frag} {mg : Str → Option Value} {base : Heap} {f : Addr} {np : Nat} {sp : Sp} {j : Nat} {fd : FuncData} {ps : List Str} (G : FnG P w K mg base j f fd ps sp) (hb : Binds K fd ps []) (hp : ps.length = np) : FnE0 P w K mg base f np sp j :=
  ⟨fd, ps, [], [], sp, G, hb, .nil, by simp [hp], fun vs H Q E _ h => by rw [List.append_nil]; exact h⟩
end
end HB
namespace PySem
namespace HBX
open PySem.W PySem.Calls PyProof.Rows PySem.HandSPX
/-! ### an own error made, whose __new__ is that of a base further up (KeyError has LookupError's) -/
/-- what is asked of the __new__ : its owner O -/
structure NewF (O newId : String) : Prop where
  base : ∃ initO bmO, ExcBaseFacts O newId initO bmO
/-- what the class's row must tell -/
structure RowF (O : String) (bm : List Value) : Prop where
  o : bm.contains (.type O) = true
  a : bm.contains (.type "AttributeError") = false
  n : bm.contains (.type "NameError") = false
section
variable {prog : Program} {w : World} {A : Around} {E : Value → Shared → Prop} {R : Result → Shared → Prop} {h : Heap} {g : Array GenState} {d : Drawn} {t : Nat} {os : OsState}
variable {nm q : Str} {C N : Addr} {bs bm : List Value} {hdct : Bool} {sn : List Str} {sub : List Value} {ab : Bool} {col : Option Bool} {dd : Option Addr} {k0 k1 k2 k3 k5 : Option Value} {O newId : String}
theorem new_check {M : Model} (F : NewF O newId) (T : RowF O bm) {rest : List Value} {Q : Unit → Shared → Prop} (hC : h.get? C = some (excClassObj nm q C N bs bm hdct sn sub ab col dd k0 k1 k2 k3 k5 newId)) (hq : Q () ⟨h, g, d, t, os⟩) :
    wpAny M A (checkBuiltinCall newId ⟨.ref C :: rest, []⟩) Q E ⟨h, g, d, t, os⟩ := by
  obtain ⟨initO, bmO, F⟩ := F.base
  have c1 : (Value.ref C :: bm).contains (.type O) = true := by
    rw [List.contains_cons, T.o, Bool.or_true]
  have c2 := F.noStar
  simp only [checkBuiltinCall, F.newKind, F.newSplit, F.newRow]
  repeat (first | refine wpAny_loadPart_at hC ?_ | (refine wpAny_isSubtype_exc hC ?_; rw [c1]) | refine wpAny_staticBase_exc hC ?_ | refine wpAny_madeBy_exc hC ?_ | (simp only [bne_self_eq_false, Bool.false_eq_true, if_false]) | wp_step)
  exact hq
theorem new_made (F : NewF O newId) (T : RowF O bm) {rest : List Value} (hC : h.get? C = some (excClassObj nm q C N bs bm hdct sn sub ab col dd k0 k1 k2 k3 k5 newId))
    (hq : R (.ok (.ret (.ref (h.objs.size + 1)))) ⟨(h.push (W.kdv_tup rest)).push (excO C h.objs.size), g, d, t, os⟩) (hr : rest.length ≤ sizeLine) : codeAny (model prog w) A (.builtin newId ⟨.ref C :: rest, []⟩) R ⟨h, g, d, t, os⟩ := by
  obtain ⟨initO, bmO, F⟩ := F.base
  have z0 := F.ends
  have z1 : (Value.ref C :: bm).contains (.type O) = true := by rw [List.contains_cons, T.o, Bool.or_true]
  have z2 : (Value.ref C :: bm).contains (.type "AttributeError") = false := by rw [List.contains_cons, T.a] <;> rfl
  have z3 : (Value.ref C :: bm).contains (.type "NameError") = false := by rw [List.contains_cons, T.n] <;> rfl
  refine codeAny_builtinAt F.entry ?_
  unfold Builtin.«BaseException.__new__»
  refine wpAt_bind ?_
  show wpAt _ _ _ (stack >>= _) _ _ _
  refine wpAt_bind (wpAt_stack fun fr below => wpAt_of_wpAny ?_)
  wp_walk
  refine wpAt_of_wpAny ?_
  rw [F.owner]
  repeat (first | (with_reducible refine wpAny_madeHere_exc F.canon hC ?_) | (with_reducible refine wpAny_loadPart_at hC ?_) | (with_reducible refine wpAny_isSubtype_exc hC ?_; first | rw [z1] | rw [z2] | rw [z3]) | wp_step)
  show R _ _
  rw [Heap.size_push]
  exact hq
theorem type_made (F : NewF O newId) (T : RowF O bm) {rest : List Value} {fI : Addr} {Q : Fin → Shared → Prop} (hC : h.get? C = some (excClassObj nm q C N bs bm hdct sn sub ab col dd k0 k1 k2 k3 k5 newId)) (hi : W.Looks (model prog w) h (typeLookup (.ref C) "__init__") (some (.ref fI))) (hb : ∀ self, W.Looks (model prog w) h (bindSpecial (.ref fI) self) (.ref fI, [self])) (hr : rest.length ≤ sizeLine)
    (hq : codeAny (model prog w) A (.call (.ref fI) ⟨.ref (h.objs.size + 1) :: rest, []⟩) (fun r s' => match r with | .ok (.ret v) => v = .none ∧ Q (.done (.ret (.ref (h.objs.size + 1)))) s' | .ok _ => False | .error e => E e s') ⟨(h.push (W.kdv_tup rest)).push (excO C h.objs.size), g, d, t, os⟩) :
    wpAny (model prog w) A (Builtin.«type.__call__» ⟨.ref C :: rest, []⟩) Q E ⟨h, g, d, t, os⟩ := by
  have qt : newId.startsWith "lifetime." = false := by
    obtain ⟨_, _, F⟩ := F.base
    exact F.quiet
  repeat (first | (with_reducible refine wpAny_loadPart_at hC ?_) | (with_reducible refine wpAny_madeBy_exc hC ?_) | wp_step)
  refine codeAny_call_builtin_code (Code.quiet_builtin _ qt) (new_check F T hC ?_)
  refine new_made F T hC ?_ hr
  show wpAny _ _ _ _ _ _
  have up : ∀ b o, h.get? b = some o → ((h.push (W.kdv_tup rest)).push (excO C h.objs.size)).get? b = some o := by
    intro b o e
    exact Heap.get?_push_of_some _ (Heap.get?_push_of_some _ e)
  have c1 := up _ _ hC
  have c2 : ((h.push (W.kdv_tup rest)).push (excO C h.objs.size)).get? (h.objs.size + 1) = some (excO C h.objs.size) := by
    heap_get
  have c3 : (Value.ref C :: bm).contains (.ref C) = true := by
    simp
  have c4 := hi.keeps up
  have c5 := (hb (.ref (h.objs.size + 1))).keeps up
  unfold isInstance
  repeat (first | (with_reducible refine wpAny_loadPart_at c2 ?_) | (with_reducible refine wpAny_isSubtype_exc c1 ?_; rw [c3]) | wp_step)
  show wpAny _ _ (typeLookup (.ref C) _) _ _ _
  refine c4.at ?_
  refine wpAny_holding (wpAny_bind (c5.at ?_))
  refine wpAny_bind (wpAny_call (codeAny_mono hq ?_))
  intro r s2 z
  rcases r with e | (v | _ | _ | _)
  · exact z
  · exact z.elim
  · exact z.elim
  · exact z.elim
  · obtain ⟨rfl, z⟩ := z
    first | exact wpAny_pure (wpAny_pure z) | (wp_walk; exact z)
theorem call_made (F : NewF O newId) (T : RowF O bm) {rest : List Value} {fI : Addr} (hC : h.get? C = some (excClassObj nm q C N bs bm hdct sn sub ab col dd k0 k1 k2 k3 k5 newId)) (hi : W.Looks (model prog w) h (typeLookup (.ref C) "__init__") (some (.ref fI))) (hb : ∀ self, W.Looks (model prog w) h (bindSpecial (.ref fI) self) (.ref fI, [self])) (hr : rest.length ≤ sizeLine)
    (hq : codeAny (model prog w) (A.under (.builtin "type.__call__" ⟨.ref C :: rest, []⟩)) (.call (.ref fI) ⟨.ref (h.objs.size + 1) :: rest, []⟩) (W.InitBack (h.objs.size + 1) R) ⟨(h.push (W.kdv_tup rest)).push (excO C h.objs.size), g, d, t, os⟩) :
    codeAny (model prog w) A (.call (.ref C) ⟨rest, []⟩) R ⟨h, g, d, t, os⟩ := by
  have y1 := tc_lookup
  have y2 := tc_bind (.ref C)
  have y3 : (⟨h, g, d, t, os⟩ : Shared).TypeIs (.ref C) "type" := ⟨_, hC, by rfl⟩
  apply codeAny_of_tree
  show wpAny _ _ (callAny (.ref C) _) _ _ _
  repeat (any_goals (first | assumption | (with_reducible refine wpAny_loadPart_at hC ?_) | wp_step))
  refine ⟨rfl, codeAny_call_builtin_at (Code.quiet_builtin _ (by decide +kernel)) entry_typeCall (wpAny_check_type_call_sub hC (type_made F T hC hi hb hr ?_))⟩
  refine codeAny_mono hq ?_
  intro r s2 z
  rcases r with e | (v | _ | _ | _) <;> exact z
end
end HBX
end PySem
namespace PySem
namespace HBX
open PySem.W PySem.Calls PyProof.Rows PySem.HandSPX Builtin.ObjectAttr
/-! ### own errors: class X(B): def __init__(self, v): super().__init__(text); self.f = v -/
/-- what is asked of the built-in base -/
structure XBase (B newId initId : String) (bmB : List Value) : Prop where
  nw : ∃ O, NewF O newId ∧ RowF O bmB
  kind : builtinKind initId = some .slot
  row : Manifest.signature? initId = some ⟨.positional, "*", B, .self, [⟨"args", .varPos, false⟩]⟩
  star : (B != "*") = true
  plain : plainId initId = true
  entry : entryFor table initId = some Builtin.«BaseException.__init__»
  sup : KxsFacts B initId
  sto : StoreFacts B bmB "object.__setattr__" "object"
theorem xbase_of {B newId initId : String} {bmB : List Value} (F : ExcBaseFacts B newId initId bmB) (k : KxsFacts B initId) (s : StoreFacts B bmB "object.__setattr__" "object") : XBase B newId initId bmB :=
  { nw := ⟨B, ⟨initId, bmB, F⟩, F.hasB, F.noAttr, F.noName⟩, kind := F.initKind, row := F.initRow, star := F.noStar, plain := F.init.plain, entry := F.initEntry, sup := k, sto := s }
/-- the check ahead of the bound __init__ -/
theorem x_check {M : Model} {A : Around} {E : Value → Shared → Prop} {h : Heap} {g : Array GenState} {d : Drawn} {t : Nat} {os : OsState} {B newId initId : String} {bmB : List Value} (F : XBase B newId initId bmB) {nm q : Str} {C N e : Addr} {oe : Obj} {bs bm : List Value} {hdct : Bool} {sn : List Str} {sub : List Value} {ab : Bool} {col : Option Bool} {dd : Option Addr} {k0 k1 k2 k3 k5 : Option Value} {rest : List Value} {Q : Unit → Shared → Prop}
    (hC : h.get? C = some (excClassObj nm q C N bs bm hdct sn sub ab col dd k0 k1 k2 k3 k5 newId)) (he : h.get? e = some oe) (hcls : oe.cls = .ref C) (hq : Q () ⟨h, g, d, t, os⟩) : wpAny M A (checkBoundCall initId ⟨.ref e :: rest, []⟩) Q E ⟨h, g, d, t, os⟩ := by
  have y := F.star
  simp only [checkBoundCall, F.kind, F.row]
  repeat (first | (with_reducible refine wpAny_loadPart_at he ?_; rw [hcls]) | (with_reducible refine wpAny_loadPart_at hC ?_) | wp_step)
  refine wpAny_onRaise ?_
  have z : ∀ (a b : String) (n : Nat), Bind.check ⟨.positional, "*", B, .self, [⟨"args", .varPos, false⟩]⟩ a b n (List.map (fun x => x.fst) ({ pos := Value.ref e :: rest } : Args).kw) = pure () := fun a b n => check_star_args _ _ _ _ _ _
  rw [z]
  exact wpAny_pure hq
def xParams (p1 p2 : Pos) (v : Str) : Arguments := { posonlyargs := [], args := [{ arg := "self", annotation := none, pos := p1 }, { arg := v, annotation := none, pos := p2 }], vararg := none, kwonlyargs := [], kw_defaults := [], kwarg := none, defaults := [] }
def xBody (q : Nat → Pos) (f v : Str) (msg : Expr) : List Stmt := [.Expr (.Call (.Attribute (.Call (.Name "super" (q 0)) [] [] (q 1)) "__init__" (q 2)) [msg] [] (q 3)) (q 4), .Assign [.Attribute (.Name "self" (q 5)) f (q 6)] (.Name v (q 7)) (q 8)]
/-- the values that a message may tell: any one, or texts and ints -/
def pvB : Bool → Value → Prop
  | false => fun _ => True
  | true => fun u => (∃ y t, u = .str y t ∧ y.length ≤ 1000000) ∨ ∃ i t, u = .int i t ∧ i.natAbs.log2 < 1920
/-- a message that is told at any state, of the value of vn -/
structure MsgOk (prog : Program) (w : World) (vn : Str) (fl : Bool) (msg : Expr) : Prop where
  run : ∀ (A : Around) (E : Value → Shared → Prop) (s : Shared) (env : Env) (pos : Pos) (Q : List Value → Shared → Prop) (val : Value),
    (∀ (p : Pos) (tk : Nat) (Q2 : Value → Shared → Prop), Q2 val { s with toks := tk } → wpAny (model prog w) A (eval (.Name vn p) env) Q2 E { s with toks := tk }) → pvB fl val →
    (∀ u tk, Q [u] { s with toks := tk }) → wpAny (model prog w) A (spliced (backTo pos (starEach [msg] env))) Q E s
  one : ∀ env, starEach [msg] env = [(false, eval msg env)]
  cal : ∀ (p0 p1 apos pos : Pos) (env : Env), (apos.endLine == pos.line) = true → ∃ pl : Sem Bool, eval (.Call (.Attribute (.Call (.Name "super" p0) [] [] p1) "__init__" apos) [msg] [] pos) env = (do
      let ov ← attributeBase (.Call (.Name "super" p0) [] [] p1) "__init__" env (eval (.Call (.Name "super" p0) [] [] p1) env)
      standAt apos.atName
      let (f, first) ← holding [ov] (getMethod ov "__init__" pl)
      callWith pos f first (backTo pos (starEach [msg] env)) [])
theorem cal_of {msg : Expr} (h1 : ∀ pos env, methodCallForm 1 (backTo pos (starEach [msg] env)) [] = true) (h2 : ∀ p0 p1 apos pos env, eval (.Call (.Attribute (.Call (.Name "super" p0) [] [] p1) "__init__" apos) [msg] [] pos) env = (do
      let ov ← attributeBase (.Call (.Name "super" p0) [] [] p1) "__init__" env (eval (.Call (.Name "super" p0) [] [] p1) env)
      standAt apos.atName
      methodCall (.Call (.Name "super" p0) [] [] p1) "__init__" apos pos env ov 1 (backTo pos (starEach [msg] env)) [])) (p0 p1 apos pos : Pos) (env : Env) (hl : (apos.endLine == pos.line) = true) :
    ∃ pl : Sem Bool, eval (.Call (.Attribute (.Call (.Name "super" p0) [] [] p1) "__init__" apos) [msg] [] pos) env = (do
      let ov ← attributeBase (.Call (.Name "super" p0) [] [] p1) "__init__" env (eval (.Call (.Name "super" p0) [] [] p1) env)
      standAt apos.atName
      let (f, first) ← holding [ov] (getMethod ov "__init__" pl)
      callWith pos f first (backTo pos (starEach [msg] env)) []) := ⟨(do return (← importBound (.Call (.Name "super" p0) [] [] p1) env).getD true), by
    rw [h2]
    have e : ∀ ov, methodCall (.Call (.Name "super" p0) [] [] p1) "__init__" apos pos env ov 1 (backTo pos (starEach [msg] env)) [] = (do
      let (f, first) ← holding [ov] (getMethod ov "__init__" (do return (← importBound (.Call (.Name "super" p0) [] [] p1) env).getD true))
      callWith pos f first (backTo pos (starEach [msg] env)) []) := fun ov => by
      unfold methodCall methodCallPos
      rw [h1, hl]
      rfl
    simp only [e]⟩
theorem msgOk_str {prog : Program} {w : World} {vn t : Str} {k : Nat} {p : Pos} : MsgOk prog w vn false (.Constant (.str t) k p) where
  run := by
    intro A E s env pos Q val _ _ h
    refine spliced_more ?_
    refine wpAny_Constant_str ?_
    exact spliced_none (h _ _)
  one := fun _ => rfl
  cal := cal_of (fun _ _ => rfl) (fun _ _ _ _ _ => rfl)
/-- f'a{vn}b' -/
theorem msgOk_f {prog : Program} {w : World} {vn a b : Str} {k1 k2 : Nat} {p1 p2 p3 p4 p5 : Pos} (ha : a.length ≤ 1000) (hb : b.length ≤ 1000) : MsgOk prog w vn true (.JoinedStr [.Constant (.str a) k1 p1, .FormattedValue (.Name vn p2) (-1) none p3, .Constant (.str b) k2 p4] p5) where
  run := by
    intro A E s env pos Q val ld pv h
    refine spliced_more ?_
    refine wpAny_JoinedStr ?_
    have fin : ∀ (y : Str) (tk : Nat), y.length ≤ 1001921 → Joins (model prog w) A E (evalEach [.Constant (.str b) k2 p4] env) (Str.empty ++ a ++ y) (fun out s₁ => out.length ≤ sizeLine ∧ wpAny (model prog w) A (spliced (backTo pos (starEach [] env))) (fun vs s₂ => Q (Value.str out s₁.toks :: vs) s₂) E { s₁ with toks := s₁.toks + 1 }) { s with toks := tk } := by
      intro y tk hy
      have l1 : (Str.empty ++ a ++ y).length = a.length + y.length := by
        rw [strLen_append, strLen_append]
        have : Str.empty.length = 0 := rfl
        omega
      have l2 : (Str.empty ++ a ++ y ++ b).length ≤ sizeLine := by
        rw [strLen_append, l1, sizeLine_eq]
        omega
      exact wpAny_Constant_str ⟨b, _, rfl, l2, l2, spliced_none (h _ _)⟩
    have l0 : (Str.empty ++ a).length ≤ sizeLine := by
      rw [strLen_append, sizeLine_eq]
      have : Str.empty.length = 0 := rfl
      omega
    refine wpAny_Constant_str ⟨a, _, rfl, l0, ?_⟩
    show wpAny _ _ (eval (.FormattedValue (.Name vn p2) (-1) none p3) env) _ _ _
    refine wpAny_FormattedValue_plain (ld _ _ _ ?_)
    have lz : ∀ (y : Str), y.length ≤ 1001921 → (Str.empty ++ a ++ y).length ≤ sizeLine := by
      intro y hy
      rw [strLen_append, strLen_append, sizeLine_eq]
      have : Str.empty.length = 0 := rfl
      omega
    rcases pv with ⟨y, t, rfl, hy⟩ | ⟨i, t, rfl, hi⟩
    · have hy2 : y.length ≤ 1001921 := by omega
      exact wpAny_formatField_str ⟨y, _, rfl, lz y hy2, fin y _ hy2⟩ ⟨y, _, rfl, lz y hy2, fin y _ hy2⟩ (by rw [sizeLine_eq]; omega)
    · have hy2 : (Str.ofString (toString i)).length ≤ 1001921 := Nat.le_trans (int_text_len_1921 hi) (by decide)
      exact wpAny_formatField_int hi ⟨_, _, rfl, lz _ hy2, fin _ _ hy2⟩
  one := fun _ => rfl
  cal := cal_of (fun _ _ => rfl) (fun _ _ _ _ _ => rfl)
/-- what the top has left of such a class -/
structure XTxt (prog : Program) (w : World) (K : Frag) (mg : Str → Option Value) (x : Str) (f v : Str) (fl : Bool) (C fI : Addr) : Prop where
  gC : mg x = some (.ref C)
  kC : keepIn K (.ref C) = true
  exC : subIn K (.ref C) (.type "BaseException") = some true
  tyC : typeIn K (.ref C) = some (.type "type")
  hdC : hasDictIn K C = true
  iC : findIn K (.ref C) "__init__" = some (some (.ref fI))
  sa : findIn K (.ref C) "__setattr__" = some (some (.builtin "object.__setattr__"))
  ga : findIn K (.ref C) "__getattribute__" = some (some (.builtin "BaseException.__getattribute__"))
  gg : findIn K (.ref C) "__getattr__" = some none
  noN : findIn K (.ref C) f = some none
  tk : takerIn K C f = some none
  sC : mroIn K C (.ref C) = some true
  tp : nsIn K cStatics "thirdparty.any" = some none
  sup : nsIn K mainGlobals "super" = some none
  top : (prog.main.scope.names.lookup ("super" : Str)).isSome = false
  bsx : ∃ (B newId initId : String) (bmB : List Value), XBase B newId initId bmB ∧ excInitIn K C bmB newId = true ∧ excOver K C bmB = true ∧ subIn K (.ref C) (.type B) = some true ∧ ks_superIn K C C "__init__" = some (some (.builtin initId))
  fn : ∃ (q : Nat → Pos) (p1 p2 : Pos) (qual : Str) (sc : Scope) (kV doc pm ct ccl cl : Value) (od an cdd cld : Option Addr) (cda cc : Addr) (osl ccs csl : Array (Option Value)) (vs : Array Value) (file : Str) (tf : Tok) (msg : Expr) (cdD : ClassData),
    K.lookup fI = some ⟨.type "function", od, .func (ksFn "__init__" qual (xParams p1 p2 v) (xBody q f v msg) sc .none kV doc pm an (.ref cda) ct cc), osl⟩ ∧ codeIn K (.ref cda) qual = true ∧
    K.lookup cda = some ⟨ccl, cdd, .fields vs, ccs⟩ ∧ vs[2]? = some (.str file tf) ∧ ((prog.main.file : Str) == file) = true ∧ K.lookup cc = some ⟨cl, cld, .cell (some (.ref C)), csl⟩ ∧ clsIn K C = some cdD ∧
    sc.names = [(("self" : Str), NameKind.local), (v, .local), ("__class__", .free), ("super", .globalImplicit)] ∧ sc.kind = .function ∧ sc.isCoroutine = false ∧ sc.isGenerator = false ∧ MsgOk prog w v fl msg ∧ ((q 2).endLine == (q 3).line) = true ∧
    (∀ (s : Shared) (a b : Value), BindsTo s (ksFn "__init__" qual (xParams p1 p2 v) (xBody q f v msg) sc .none kV doc pm an (.ref cda) ct cc) ⟨[a, b], []⟩ [("self", a), (v, b)])
/-- self.f = v, past the descriptors -/
theorem x_store {prog : Program} {w : World} {A : Around} {R : Result → Shared → Prop} {hp : Heap} {g : Array GenState} {d : Drawn} {t : Nat} {os : OsState} {K : Frag} {name : Str} {tk : Tok} {v : Value} {x C : Addr} {fv : Array Value} {B : String} {bmB : List Value}
    (SF : StoreFacts B bmB "object.__setattr__" "object") (X : K.In hp) (hx : hp.get? x = some { cls := .ref C, data := .fields fv }) (ho : excOver K C bmB = true) (ht : takerIn K C name = some none) (hh : hasDictIn K C = true)
    (hq : ∀ h' tk' dx, (∀ b o, b ≠ x → hp.get? b = some o → h'.get? b = some o) → hp.objs.size ≤ dx → dx ≠ x → h'.get? x = some { cls := .ref C, dict := some dx, data := .fields fv } →
      h'.Ns1 dx (fun y => if y = name then some v else none) → R (.ok (.ret .none)) ⟨h', g, d, tk', os⟩) :
    codeAny (model prog w) A (.call (.builtin "object.__setattr__") ⟨[.ref x, .str name tk, v], []⟩) R ⟨hp, g, d, t, os⟩ := by
  have hxs : x ≠ hp.objs.size := Nat.ne_of_lt (Heap.lt_size hx)
  refine osa_openX (s := ⟨hp, g, d, t, os⟩) (od := none) SF X ⟨hx, rfl, rfl, trivial⟩ ho ht fun b => ?_
  obtain ⟨cd, hc, hd'⟩ := any_some hh
  have hcls : W.Looks (model prog w) hp (classData C) cd := W.looks_clsIn X hc
  obtain ⟨nm, bs, mro, ns, qn, hd, sn, sb, ab, col, del⟩ := cd
  dsimp only at hd'
  subst hd'
  show wpAny _ _ (storeInOwnDict (.ref x) (.ref C) (.str name tk) name v b) _ _ _
  unfold storeInOwnDict ownDictForStores
  repeat (first | with_reducible refine store_in_new ?_ ?_ | with_reducible refine wpAny_loadPart_at hx ?_ | with_reducible refine hcls.at ?_ | wp_step)
  · exact ⟨_, #[], _, (Heap.get?_update_ne _ _ _ _ hxs.symm).trans (Heap.get?_push_at rfl rfl), rfl, fun e he => absurd he (by simp), fun _ => rfl⟩
  · intro h' tk' hn' hs
    have hx₁ : (hp.push { cls := .type "dict", data := .dict #[] }).get? x = some { cls := .ref C, data := .fields fv } := Heap.get?_push_of_some _ hx
    refine hq h' tk' hp.objs.size (fun b o hb ho => ?_) (Nat.le_refl _) hxs.symm ?_ hn'
    · exact (hs.2 b (Nat.ne_of_lt (Heap.lt_size ho))).trans ((Heap.get?_update_ne _ _ _ _ hb).trans (Heap.get?_push_of_some _ ho))
    · exact (hs.2 x hxs).trans (Heap.get?_update_self _ hx₁ rfl)
/-- the bound __init__ of the base called -/
theorem x_wrap {prog : Program} {w : World} {A : Around} {E : Value → Shared → Prop} {K : Frag} {hh : Heap} {g : Array GenState} {d : Drawn} {tk : Nat} {os : OsState} {u x C t : Addr} {rest : List Value} {B newId i : String} {bmB : List Value} {Q : Value → Shared → Prop}
    (X : K.In hh) (FB : XBase B newId i bmB) (q : excInitIn K C bmB newId = true) (hu : hh.get? u = some (kxs_mw i x)) (he : hh.get? x = some (excO C t)) (hz : rest.length ≤ sizeLine)
    (h : ∀ t' h', (∀ b o, b ≠ x → hh.get? b = some o → h'.get? b = some o) → h'.get? x = some (excO C t') → Q .none ⟨h', g, d, tk, os⟩) :
    wpAny (model prog w) A (call (.ref u) rest) Q E ⟨hh, g, d, tk, os⟩ := by
  obtain ⟨nm, N', qn, bs, bm, hdct, sn, sub, ab, col, dd, k0, k1, k2, k3, k5, hC, hT⟩ := excInit_of X q
  refine wpAny_call (codeAny_of_tree ?_)
  show wpAny _ A.in1 (callAny (.ref u) ⟨rest, []⟩) _ _ _
  simp only [callAny]
  refine wpAny_bind (wpAny_load hu ?_)
  simp only [kxs_mw, show (Value.type "method-wrapper" == Value.type "method" || Value.type "method-wrapper" == Value.type "builtin_function_or_method" || Value.type "method-wrapper" == Value.type "method-wrapper") = true by decide, if_true]
  refine KFB.if_so (by decide) ?_
  refine wpAny_bind (x_check FB hC he rfl ?_)
  refine wpAny_bind (wpAny_pure (wpAny_pure ?_))
  refine ⟨plainId_quiet FB.plain _, codeAny_builtin FB.entry ?_⟩
  exact exc_init_tree (cls := .ref C) (t0 := t) (dv := none) (c2 := .none) (c3 := .none) (b4 := .bool false) he hz fun h' k e' _ => h _ h' k e'
structure InitEnd (h h' : Heap) (x C dx t1 : Addr) (f : Str) (v : Value) : Prop where
  keep : ∀ b o, b ≠ x → h.get? b = some o → h'.get? b = some o
  obj : h'.get? x = some { cls := .ref C, dict := some dx, data := .fields #[.ref t1, .none, .none, .none, .bool false, .none] }
  dbig : h.objs.size ≤ dx
  dne : dx ≠ x
  ns : h'.Ns1 dx (fun y => if y = f then some v else none)
section
variable {prog : Program} {w : World} {A : Around} {E : Value → Shared → Prop} {R : Result → Shared → Prop} {s : Shared} {K : Frag} {mg : Str → Option Value} {C fI : Addr} {xn f vn : Str} {fl : Bool}
theorem x_init (T : XTxt prog w K mg xn f vn fl C fI) (hvs : (vn == ("self" : Str)) = false) (hvd : (vn == ("__debug__" : Str)) = false) (hv1 : (("super" : Str) == vn) = false) (hv2 : (("__class__" : Str) == vn) = false) {x t0 : Addr} {v : Value} (hpv : pvB fl v) (hg : s.heap.Ns mainGlobals mg) (hb : ∃ mb, s.heap.Ns builtinsNs mb ∧ ∀ x : Str, x ≠ "__name__" → mb x = bootBuiltins x) (hsg : mg "super" = none) (X : K.In s.heap) (hlim : s.heap.NoLimit) (hx : s.heap.get? x = some (excO C t0)) (hnx : K.lookup x = none) (hroom : A.depth < recursionLimit)
    (hq : ∀ h' tk dx t1, InitEnd s.heap h' x C dx t1 f v → R (.ok (.ret .none)) { s with heap := h', toks := tk }) :
    codeAny (model prog w) A (.call (.ref fI) ⟨[.ref x, v], []⟩) R s := by
  obtain ⟨B, newId, initId, bmB, XB, e1, e2, e3, e4⟩ := T.bsx
  obtain ⟨q, p1, p2, qual, sc, kV, doc, pm, ct, ccl, cl, od, an, cdd, cld, cda, cc, osl, ccs, csl, vs, file, tf, msg, cdD, ho, hcd, hcode, hvs2, hfile, hcell, hD, hnm, hk, hco, hgen, hmsg, hpl, hbind⟩ := T.fn
  have hself : sc.names.lookup ("self" : Str) = some .local := by rw [hnm]; rfl
  have hvn : sc.names.lookup vn = some .local := by
    rw [hnm]; simp only [List.lookup]
    rw [hvs]; simp
  have hks : sc.names.lookup ("super" : Str) = some .globalImplicit := by
    rw [hnm]; simp only [List.lookup]
    rw [hv1]; rfl
  have hkc : sc.names.lookup ("__class__" : Str) = some .free := by
    rw [hnm]; simp only [List.lookup]
    rw [hv2]; rfl
  refine ks_codeAny_call_defAt (fd := ksFn "__init__" qual (xParams p1 p2 vn) (xBody q f vn msg) sc .none kV doc pm an (.ref cda) ct cc) (body := xBody q f vn msg) (binds := [("self", .ref x), (vn, v)]) hroom (X _ _ ho) rfl hlim (codeRec_of X hcd) rfl (hbind _ _ _) ?_ ?_ (fun h₁ hns hk₁ => ?_) hco hgen hk
  · rw [show (ksFn "__init__" qual (xParams p1 p2 vn) (xBody q f vn msg) sc .none kV doc pm an (.ref cda) ct cc).scope.names = sc.names from rfl, hnm]
    intro y hy
    simp only [List.mem_cons, List.not_mem_nil, or_false] at hy
    rcases hy with rfl | rfl | rfl | rfl <;> exact NameKind.noConfusion
  · intro y hy
    simp only [List.mem_cons, List.not_mem_nil, or_false] at hy
    rcases hy with rfl | rfl
    · exact hself
    · exact hvn
  obtain ⟨hp, g, dr, tk, os⟩ := s
  dsimp only at hk₁ hns X hx hlim hg hb ⊢
  show _root_.PySem.wpAt (model prog w) (A.deeper (ksEnv qual sc hp.objs.size fI (.ref cda) cc)) (.func (xBody q f vn msg) (ksEnv qual sc hp.objs.size fI (.ref cda) cc)) (execs (xBody q f vn msg) (ksEnv qual sc hp.objs.size fI (.ref cda) cc)) _ _ _
  have X₁ : K.In h₁ := X.keeps hk₁
  have hx₁ := hk₁ _ _ hx
  obtain ⟨oD, hD1, hD2⟩ : ∃ oD, h₁.get? C = some oD ∧ oD.data = .cls cdD := by
    unfold clsIn at hD
    split at hD
    · rename_i c d cd' sl ho
      cases hD
      exact ⟨_, X₁ _ _ ho, rfl⟩
    · cases hD
  obtain ⟨pl, hcal⟩ := hmsg.cal (q 0) (q 1) (q 2) (q 3) (ksEnv qual sc hp.objs.size fI (.ref cda) cc) hpl
  refine ks_wpAt_execs_cons (ks_wpAt_Expr_any (ks_wpAt_MethodCall (pl := pl) ?_ hcal) (by unfold interactive; simp [hk]))
  obtain ⟨mb, hb1, hb2⟩ := hb
  have I : InstAt h₁ x (excO C t0) C none := ⟨hx₁, rfl, rfl, trivial⟩
  refine ks_wpAt_super_base (env := ksEnv qual sc hp.objs.size fI (.ref cda) cc) hks hkc (by decide) rfl (X₁ _ _ ho) rfl rfl rfl (X₁ _ _ hcode) rfl hvs2 hfile T.top ?_
  refine ks_loadName_global hk hks (loadGlobal_builtin (env := ksEnv qual sc hp.objs.size fI (.ref cda) cc) (hg.keeps hk₁) hsg (hb1.keeps hk₁) ((hb2 _ (by decide +kernel)).trans (by kernel_rfl : bootBuiltins "super" = some (.type "super"))) ⟨rfl, ?_⟩)
  refine wpAny_loadName_free hk hkc rfl ⟨_, X₁ _ _ hcell, rfl⟩ ?_
  refine wpAny_loadName_local hk hself hns (v := .ref x) ?_ ?_
  · show List.lookup ("self" : Str) [(vn, v), ("self", Value.ref x)] = some (.ref x)
    have : (("self" : Str) == vn) = false := by rw [beq_eq_false_iff_ne]; rw [beq_eq_false_iff_ne] at hvs; exact fun e => hvs e.symm
    simp [List.lookup, this]
  refine ks_wpAny_isType_cls hD1 hD2 ⟨rfl, ?_⟩
  refine ks_wpAny_call_super hD1 hD2 hx₁ rfl (fun c e => by cases e) (looks_mroIn X₁ T.sC) (fun h₂ hso k₂ => ?_)
  have X₂ : K.In h₂ := X₁.keeps k₂
  have I₂ : InstAt h₂ x (excO C t0) C none := ⟨k₂ _ _ hx₁, rfl, rfl, trivial⟩
  have hI : Looks (model prog w) h₂ (isInstance (.ref x) (.type B)) true := I₂.type.andThen (looks_subIn X₂ e3)
  refine kxs_getMethod XB.sup (h := h₂) hso (looks_opaque X₂ T.tp) (l₀ := cdD.mro) (fun A Q E s k q => wpAny_bind ((looks_clsIn X₂ hD) A _ E s k (wpAny_pure q))) rfl X₂ ?_ hI ?_ (by decide) ?_
  · unfold ks_superIn at e4
    rw [hD] at e4
    exact e4
  · exact ks_ne X₂ I₂ hD
  have k₃ : ∀ b o, h₂.get? b = some o → (h₂.push (kxs_mw initId x)).get? b = some o := fun b o e => Heap.get?_push_of_some _ e
  have hone := hmsg.one (ksEnv qual sc hp.objs.size fI (.ref cda) cc)
  refine kxs_callWith (i := initId) (x := x) (by rw [hone]; rfl) ?_
  have hrun := hmsg.run (A.deeper (ksEnv qual sc hp.objs.size fI (.ref cda) cc)) 
  rw [hone]
  refine evalArgs_plain ?_
  show wpAny _ _ (spliced (backTo (q 3) [(false, eval msg (ksEnv qual sc hp.objs.size fI (.ref cda) cc))])) _ _ _
  rw [← hone]
  have hns3 : (h₂.push (kxs_mw initId x)).Ns hp.objs.size (fun y => List.lookup y (List.reverse [(("self" : Str), Value.ref x), (vn, v)])) := hns.keeps fun b o e => k₃ _ _ (k₂ _ _ e)
  refine hrun _ _ _ (q 3) _ v (fun p tk Q2 hQ => wpAny_Name (wpAny_loadName_local hk hvn hns3 (v := v) (by simp [List.lookup]) hQ) hvd) hpv fun um tkm => ?_
  refine ⟨(Heap.get?_push_at rfl rfl : KxsAt initId h₂.objs.size x (h₂.push (kxs_mw initId x))), ?_⟩
  refine x_wrap (X₂.keeps k₃) XB e1 (Heap.get?_push_at rfl rfl) (k₃ _ _ (k₂ _ _ hx₁)) (by rw [sizeLine_eq]; exact (by decide : 1 ≤ 16777216)) fun t' h₄ k₄ hx₄ => ?_
  have X₄ : K.In h₄ := fun a o e => k₄ a o (fun z => by rw [z, hnx] at e; cases e) (k₃ _ _ (X₂ a o e))
  have hxL : hp.objs.size ≠ x := Nat.ne_of_gt (Heap.lt_size hx)
  have hns₄ : h₄.Ns hp.objs.size (fun y => List.lookup y (List.reverse [(("self" : Str), Value.ref x), (vn, v)])) := hns.at (fun o e => k₄ _ o hxL (k₃ _ _ (k₂ _ _ e)))
  refine ks_wpAt_execs_cons (ks_wpAt_Assign_Attr (wpAt_of_wpAny (wpAny_Name (wpAny_loadName_local hk hvn hns₄ (v := v) ?_ (wpAny_Name (wpAny_loadName_local hk hself hns₄ (v := .ref x) ?_ ?_) (by decide))) hvd)))
  · simp [List.lookup]
  · have : (("self" : Str) == vn) = false := by rw [beq_eq_false_iff_ne]; rw [beq_eq_false_iff_ne] at hvs; exact fun e => hvs e.symm
    simp [List.lookup, this]
  refine set_plain X₄ (ox := excO C t') (od := none) ⟨hx₄, rfl, rfl, trivial⟩ T.sa ?_
  refine x_store XB.sto X₄ hx₄ e2 T.tk T.hdC (fun h₅ tk₅ dx k₅ dn dne hx₅ hn₅ => ?_)
  refine wpAt_of_wpAny (wpAny_execs_nil ?_)
  refine hq h₅ tk₅ dx t' ⟨fun b o hb e => k₅ b o hb (k₄ b o hb (k₃ _ _ (k₂ _ _ (hk₁ b o e)))), hx₅, ?_, dne, hn₅⟩
  have z : hp.objs.size < h₄.objs.size := hns₄.lt
  exact Nat.le_of_lt (Nat.lt_of_lt_of_le z dn)
/-- a made one -/
structure OwnMade (h h' : Heap) (e C d : Addr) (f : Str) (v : Value) : Prop where
  keep : ∀ b o, h.get? b = some o → h'.get? b = some o
  new : h.objs.size ≤ e
  obj : ∃ oe vs, h'.get? e = some oe ∧ oe.cls = .ref C ∧ oe.dict = some d ∧ oe.data = .fields vs ∧ vs[1]? = some .none
  dbig : h.objs.size ≤ d
  dne : d ≠ e
  ns : h'.Ns1 d (fun y => if y = f then some v else none)
/-- the names that the value's name may not be -/
def vnOk (vn : Str) : Bool := !(vn == ("self" : Str)) && !(vn == ("__debug__" : Str)) && !(("super" : Str) == vn) && !(("__class__" : Str) == vn)
theorem x_made (T : XTxt prog w K mg xn f vn fl C fI) (hvn : vnOk vn = true) {v : Value} (hpv : pvB fl v) (hg : s.heap.Ns mainGlobals mg) (hb : ∃ mb, s.heap.Ns builtinsNs mb ∧ ∀ x : Str, x ≠ "__name__" → mb x = bootBuiltins x) (hsg : mg "super" = none) (X : K.In s.heap) (hlim : s.heap.NoLimit) (hroom : A.depth + 1 < recursionLimit)
    (hq : ∀ h' tk e d, OwnMade s.heap h' e C d f v → R (.ok (.ret (.ref e))) { s with heap := h', toks := tk }) :
    codeAny (model prog w) A (.call (.ref C) ⟨[v], []⟩) R s := by
  obtain ⟨B, newId, initId, bmB, XB, e1, e2, e3, e4⟩ := T.bsx
  obtain ⟨nm, N', qn, bs, bm, hdct, sn, sub, ab, col, dd, k0, k1, k2, k3, k5, hC, hT⟩ := excInit_of X e1
  simp only [vnOk, Bool.and_eq_true, Bool.not_eq_true'] at hvn
  obtain ⟨⟨⟨v1, v2⟩, v3⟩, v4⟩ := hvn
  have hf : typeIn K (.ref fI) = some (.type "function") := by
    obtain ⟨q, p1, p2, qual, sc, kV, doc, pm, ct, ccl, cl, od, an, cdd, cld, cda, cc, osl, ccs, csl, vs, file, tf, msg, cdD, ho, _⟩ := T.fn
    show (K.lookup fI).map (·.cls) = some (.type "function")
    rw [ho]; rfl
  obtain ⟨hp, g, dr, tk, os⟩ := s
  have k : ∀ b o, hp.get? b = some o → ((hp.push (kdv_tup [v])).push (excO C hp.objs.size)).get? b = some o := fun b o e => Heap.get?_push_of_some _ (Heap.get?_push_of_some _ e)
  have hget : ((hp.push (kdv_tup [v])).push (excO C hp.objs.size)).get? (hp.objs.size + 1) = some (excO C hp.objs.size) := by heap_get
  have hnx : K.lookup (hp.objs.size + 1) = none := by
    cases e : K.lookup (hp.objs.size + 1) with
    | none => rfl
    | some o =>
      have z : hp.get? (hp.objs.size + 1) = some o := X _ _ e
      exact absurd (Nat.lt_of_succ_lt (Heap.lt_size z)) (Nat.lt_irrefl _)
  obtain ⟨O, nf, rf⟩ := XB.nw
  refine call_made nf ⟨(hT _).trans rf.o, (hT _).trans rf.a, (hT _).trans rf.n⟩ hC (looks_findIn X T.iC) (fun self => bind_fn X self hf) (by rw [sizeLine_eq]; exact (by decide : 1 ≤ 16777216)) ?_
  obtain ⟨mb, hb1, hb2⟩ := hb
  refine x_init (s := ⟨(hp.push (kdv_tup [v])).push (excO C hp.objs.size), g, dr, tk, os⟩) T v1 v2 v3 v4 hpv (Heap.Ns.keeps hg k) ⟨mb, Heap.Ns.keeps hb1 k, hb2⟩ hsg (X.keeps k) (hlim.keeps k) hget hnx ?_ fun h' tk' dx t1 ⟨k', hx, dn, dne, hns⟩ => ?_
  · show A.depth + 1 < recursionLimit
    exact hroom
  · have old : ∀ b o, hp.get? b = some o → h'.get? b = some o := fun b o e => k' b o (Nat.ne_of_lt (Nat.lt_succ_of_lt (Heap.lt_size e))) (k b o e)
    have z : hp.objs.size + 1 + 1 ≤ dx := by
      first
        | (simpa only [Heap.size_push] using dn)
        | exact dn
        | (have q := dn; rw [Heap.size_push, Heap.size_push] at q; exact q)
    exact ⟨rfl, hq h' tk' (hp.objs.size + 1) dx ⟨old, Nat.le_succ _, ⟨_, _, hx, rfl, rfl, rfl, rfl⟩, Nat.le_trans (Nat.le_trans (Nat.le_succ _) (Nat.le_succ _)) z, dne, hns⟩⟩
end
end HBX
end PySem
namespace HB
open PySem L2 PyProof.Rows
open PySem.HBX
theorem relO_one {f0 : Str} {v : V} {v' : Value} (r : RelV v v') (f : Str) : RelO (List.lookup f [(f0, v)]) (if f = f0 then some v' else none) := by
  by_cases hw : f = f0
  · subst hw
    rw [if_pos rfl]
    have q : List.lookup f [(f, v)] = some v := by simp [List.lookup]
    rw [q]
    exact r
  · rw [if_neg hw]
    have qw : (f == f0) = false := by simpa using hw
    have q2 : List.lookup f [(f0, v)] = none := by simp [List.lookup, qw]
    rw [q2]
    trivial
section
variable {X : Cx} {C fI : Addr} {xn f vn : Str} {fl : Bool}
/-- the values that a message may tell -/
def pvV : Bool → V → Prop
  | false => fun _ => True
  | true => fun v => (∃ y, v = .str y ∧ y.length ≤ 1000000) ∨ ∃ i, v = .int i ∧ i.natAbs.log2 < 1920
theorem pv_of {fl : Bool} {v : V} {u : Value} (h : pvV fl v) (r : RelV v u) : pvB fl u := by
  cases fl with
  | false => trivial
  | true =>
    rcases h with ⟨y, rfl, hy⟩ | ⟨i, rfl, hi⟩
    · obtain ⟨t, rfl⟩ := r
      exact .inl ⟨y, t, rfl, hy⟩
    · obtain ⟨t, rfl⟩ := r
      exact .inr ⟨i, t, rfl, hi⟩
def tMkX (C : Addr) (f : Str) (fl : Bool) (ta : TA) : L2.St → Hp → XK → Prop := fun σ H Q => ta σ H fun vs H1 => ∃ v, vs = [v] ∧ pvV fl v ∧ ∀ d, H1 d = none → Q (.ref C) (some d) (upd H1 d (.xd [(f, v)]))
theorem pmk_x {a : Expr} {ta : TA} {p pos : Pos} {k : Nat} (T : XTxt X.prog X.w X.K X.mg xn f vn fl C fI) (hvn : vnOk vn = true) (hsg : X.mg "super" = none) (hr : Room k X.A) (ha : PA X [a] ta) (hg : Gl X xn) (hd : (xn == ("__debug__" : Str)) = false)
    (he : starEach (a :: []) X.env = (false, eval a X.env) :: starEach [] X.env) (hpl : (backTo pos (starEach [] X.env)).any (·.1) = false) :
    PMk X (.Call (.Name xn p) [a] [] pos) (tMkX C f fl ta) := by
  intro pins s σ H Q I h
  refine wpAny_Call_Name_kw (ld_glob I hg T.gC ?_ hd)
  refine PySem.W.callWith_K (h₀ := X.base) I.ok.mod.kin T.kC (thn (ha.run pos pins s σ H _ I h) fun us s1 hh => ?_) he hpl
  obtain ⟨vs, H1, I1, r1, v, ev, pvv, q1⟩ := hh
  subst ev
  refine ⟨I1.kIn, ?_⟩
  cases r1 with
  | cons rv rn =>
    rename_i v' us'
    cases rn
    show wpAny _ _ (call (.ref C) [v']) _ _ _
    have hlim := I1.nolimit
    have hG : s1.heap.Ns mainGlobals X.mg := I1.ok.mod.glob.keeps I1.bk
    have hB : ∃ mb, s1.heap.Ns builtinsNs mb ∧ ∀ x : Str, x ≠ "__name__" → mb x = bootBuiltins x := by
      obtain ⟨mb, h1, h2⟩ := I1.ok.mod.blt
      exact ⟨mb, h1.keeps I1.bk, h2⟩
    obtain ⟨hp, g, dr, tk, os⟩ := s1
    refine wpAny_call (x_made T hvn (pv_of pvv rv) hG hB hsg I1.kIn hlim (by have := hr.dp; omega) fun h' tk' e d M => ?_)
    show MkP X pins σ Q (.ref e) ⟨h', g, dr, tk', os⟩
    obtain ⟨oe, fv, hoe, hc, hd, hdat, h1⟩ := M.obj
    have hns := M.ns
    obtain ⟨G', g1, g2⟩ := restrict h' fun b => decide (b ≠ e)
    have gk : ∀ b, b ≠ e → G'.get? b = h'.get? b := fun b hb => g1 b (decide_eq_true hb)
    have ge : G'.get? e = none := g2 e (by simp)
    have old : ∀ b o, hp.get? b = some o → G'.get? b = some o := fun b o q => (gk b (Nat.ne_of_lt (Nat.lt_of_lt_of_le (Heap.lt_size q) M.new))).trans (M.keep b o q)
    have ob : ObjOk X.prog X.w (upd H1 d (.xd [(f, v)])) G' d (.xd [(f, v)]) :=
      ⟨_, hns.at (fun o q => (gk d M.dne).trans q), fun y => relO_one rv y⟩
    have J : Inv X pins σ (upd H1 d (.xd [(f, v)])) ⟨G', g, dr, tk', os⟩ := I1.laid (t' := tk') old M.dbig ob
    refine ⟨e, oe, fv, ⟨G', g, dr, tk', os⟩, _, .ref C, some d, rfl, J, fun b o q => ?_, ge, hoe, ⟨hc, hd⟩, hdat, h1, ?_, rfl, I1.bare, raises_own T.exC T.tyC, q1 d (I1.hok.fresh M.dbig)⟩
    · by_cases hb : b = e
      · have q' : G'.get? b = some o := q
        rw [hb, ge] at q'; cases q'
      · exact (gk b hb).symm.trans q
    · rw [upd_ne (Ne.symm M.dne)]
      exact I1.hok.fresh M.new
end
/-- an own error with a field -/
def XOk (P : Program) (w : World) (K : PySem.W.Frag) (mg : Str → Option Value) (x f : Str) (fl : Bool) : Prop := ∃ vn C fI, XTxt P w K mg x f vn fl C fI ∧ vnOk vn = true ∧ (x == ("__debug__" : Str)) = false
/-- an own error without __init__ -/
def XOk0 (K : PySem.W.Frag) (mg : Str → Option Value) (x : Str) : Prop := ∃ (C : Addr) (B newId initId : String) (bmB : List Value), ExcBaseFacts B newId initId bmB ∧ PySem.W.excIn K C bmB newId = true ∧ mg x = some (.ref C) ∧ PySem.W.keepIn K (.ref C) = true ∧
  PySem.W.subIn K (.ref C) (.type "BaseException") = some true ∧ PySem.W.typeIn K (.ref C) = some (.type "type") ∧ (x == ("__debug__" : Str)) = false
end HB
namespace HB
open PySem PySem.F PySem.W PySem.HBX
abbrev kbm : List Value := [.type "KeyError", .type "LookupError", .type "Exception", .type "BaseException", .type "object"]
theorem key_init : Slot "KeyError" "__init__" "KeyError.__init__" := Slot.of (owner := "KeyError") (n := "__init__") (by rw [typeLookup_type, builtinLookup_eq_fast]; kernel_rfl) (by decide +kernel) (by decide +kernel) (by decide +kernel) (by first | exact .inl (by decide +kernel) | exact .inr (by decide +kernel)) (by rw [isSubtype_type]; kernel_rfl)
theorem key_kxs : KxsFacts "KeyError" "KeyError.__init__" := ⟨by show builtinType _ = _; rw [builtinType_eq_fast]; kernel_rfl, by first | kernel_rfl | rfl⟩
theorem key_sto : StoreFacts "KeyError" kbm "object.__setattr__" "object" := { F.store_IndexError with mro := by kernel_rfl, slot := Slot.of (owner := "object") (n := "__setattr__") (by rw [typeLookup_type, builtinLookup_eq_fast]; kernel_rfl) (by decide +kernel) (by decide +kernel) (by decide +kernel) (by first | exact .inl (by decide +kernel) | exact .inr (by decide +kernel)) (by rw [isSubtype_type]; kernel_rfl), hasOwner := by decide +kernel, passes := fun _ => by kernel_rfl }
theorem key_entry : entryFor table "KeyError.__init__" = some Builtin.«BaseException.__init__» := entryFor_alias (id' := "BaseException.__init__") (by rw [fastTable_eq_tree]; kernel_rfl) (by first | rfl | decide +kernel) (by decide +kernel) (by rw [fastTable_eq_tree]; kernel_rfl)
theorem xb_KeyError : XBase "KeyError" "LookupError.__new__" "KeyError.__init__" kbm := { nw := ⟨"LookupError", ⟨_, _, excBase_LookupError⟩, by decide +kernel, by decide +kernel, by decide +kernel⟩, kind := by kernel_rfl, row := by kernel_rfl, star := by decide +kernel, plain := key_init.plain, entry := key_entry, sup := key_kxs, sto := key_sto }
theorem xb_IndexError : XBase "IndexError" "IndexError.__new__" "IndexError.__init__" [.type "IndexError", .type "LookupError", .type "Exception", .type "BaseException", .type "object"] := xbase_of excBase_IndexError kxs_IndexError store_IndexError
theorem xb_OverflowError : XBase "OverflowError" "OverflowError.__new__" "OverflowError.__init__" [.type "OverflowError", .type "ArithmeticError", .type "Exception", .type "BaseException", .type "object"] := xbase_of excBase_OverflowError kxs_OverflowError store_OverflowError
theorem xb_LookupError : XBase "LookupError" "LookupError.__new__" "LookupError.__init__" [.type "LookupError", .type "Exception", .type "BaseException", .type "object"] := xbase_of excBase_LookupError kxs_LookupError store_LookupError
theorem xb_ArithmeticError : XBase "ArithmeticError" "ArithmeticError.__new__" "ArithmeticError.__init__" [.type "ArithmeticError", .type "Exception", .type "BaseException", .type "object"] := xbase_of excBase_ArithmeticError kxs_ArithmeticError store_ArithmeticError
theorem xb_RuntimeError : XBase "RuntimeError" "RuntimeError.__new__" "RuntimeError.__init__" [.type "RuntimeError", .type "Exception", .type "BaseException", .type "object"] := xbase_of excBase_RuntimeError kxs_RuntimeError store_RuntimeError
theorem xb_ValueError : XBase "ValueError" "ValueError.__new__" "ValueError.__init__" [.type "ValueError", .type "Exception", .type "BaseException", .type "object"] := xbase_of excBase_ValueError kxs_ValueError store_ValueError
end HB
namespace HB
open PySem L2 PySem.Spec PyProof.Rows
open PySem.HBX
/-! ### own errors as values -/
section
variable {X : Cx} {C fI : Addr} {xn f vn : Str} {fl : Bool}
/-- X(v), the object itself -/
theorem pe_xnew {a : Expr} {ta : TA} {p pos : Pos} {k : Nat} (T : XTxt X.prog X.w X.K X.mg xn f vn fl C fI) (hvn : vnOk vn = true) (hsg : X.mg "super" = none) (hr : Room k X.A) (ha : PA X [a] ta) (hg : Gl X xn) (hd : (xn == ("__debug__" : Str)) = false)
    (he : starEach (a :: []) X.env = (false, eval a X.env) :: starEach [] X.env) (hpl : (backTo pos (starEach [] X.env)).any (·.1) = false) :
    PE X (.Call (.Name xn p) [a] [] pos) (fun σ H Q => ta σ H fun vs H1 => ∃ v, vs = [v] ∧ pvV fl v ∧ ∀ d e, H1 d = none → H1 e = none → d ≠ e → Q (.ref e) (upd (upd H1 d (.xd [(f, v)])) e (XV (.ref C) (some d) e))) := by
  refine ⟨fun pins s σ H Q I h => ?_⟩
  refine wpAny_Call_Name_kw (ld_glob I hg T.gC ?_ hd)
  refine PySem.W.callWith_K (h₀ := X.base) I.ok.mod.kin T.kC (thn (ha.run pos pins s σ H _ I h) fun us s1 hh => ?_) he hpl
  obtain ⟨vs, H1, I1, r1, v, ev, pvv, q1⟩ := hh
  subst ev
  refine ⟨I1.kIn, ?_⟩
  cases r1 with
  | cons rv rn =>
    rename_i v' us'
    cases rn
    show wpAny _ _ (call (.ref C) [v']) _ _ _
    have hlim := I1.nolimit
    have hG : s1.heap.Ns mainGlobals X.mg := I1.ok.mod.glob.keeps I1.bk
    have hB : ∃ mb, s1.heap.Ns builtinsNs mb ∧ ∀ x : Str, x ≠ "__name__" → mb x = bootBuiltins x := by
      obtain ⟨mb, h1, h2⟩ := I1.ok.mod.blt
      exact ⟨mb, h1.keeps I1.bk, h2⟩
    obtain ⟨hp, g, dr, tk, os⟩ := s1
    refine wpAny_call (x_made T hvn (pv_of pvv rv) hG hB hsg I1.kIn hlim (by have := hr.dp; omega) fun h' tk' e d M => ?_)
    obtain ⟨oe, fv, hoe, hc, hd, hdat, h1⟩ := M.obj
    have hns := M.ns
    obtain ⟨G', g1, g2⟩ := restrict h' fun b => decide (b ≠ e)
    have gk : ∀ b, b ≠ e → G'.get? b = h'.get? b := fun b hb => g1 b (decide_eq_true hb)
    have ge : G'.get? e = none := g2 e (by simp)
    have old : ∀ b o, hp.get? b = some o → G'.get? b = some o := fun b o q => (gk b (Nat.ne_of_lt (Nat.lt_of_lt_of_le (Heap.lt_size q) M.new))).trans (M.keep b o q)
    have ob : ObjOk X.prog X.w (upd H1 d (.xd [(f, v)])) G' d (.xd [(f, v)]) :=
      ⟨_, hns.at (fun o q => (gk d M.dne).trans q), fun y => relO_one rv y⟩
    have J : Inv X pins σ (upd H1 d (.xd [(f, v)])) ⟨G', g, dr, tk', os⟩ := I1.laid (t' := tk') old M.dbig ob
    have hn0 : H1 e = none := I1.hok.fresh M.new
    have hne : upd H1 d (.xd [(f, v)]) e = none := by rw [upd_ne (Ne.symm M.dne)]; exact hn0
    have up : ∀ b o, G'.get? b = some o → h'.get? b = some o := fun b o q => by
      by_cases hb : b = e
      · rw [hb, ge] at q; cases q
      · exact (gk b hb).symm.trans q
    refine ⟨.ref e, _, J.laidN (h' := h') (t' := tk') up ge hne (xv_ok hoe ⟨hc, hd⟩ hdat), rfl, q1 d e (I1.hok.fresh M.dbig) hn0 M.dne⟩
/-- X(v), an own error without __init__ -/
theorem pe_xnew0 {bmB : List Value} {B newId initId : String} {x : Str} {e : Expr} {ta : TA} {p pos : Pos} (F : ExcBaseFacts B newId initId bmB) (q : PySem.W.excIn X.K C bmB newId = true) (gC : X.mg x = some (.ref C)) (kC : PySem.W.keepIn X.K (.ref C) = true) (hg : Gl X x)
    (ha : PA X [e] ta) (hdb : (x == ("__debug__" : Str)) = false) (he : starEach (e :: []) X.env = (false, eval e X.env) :: starEach [] X.env) (hpl : (backTo pos (starEach [] X.env)).any (·.1) = false) :
    PE X (.Call (.Name x p) [e] [] pos) (fun σ H Q => ta σ H fun vs H1 => ∃ v, vs = [v] ∧ ∀ a, H1 a = none → Q (.ref a) (upd H1 a (XV (.ref C) none a))) := by
  refine ⟨fun pins s σ H Q I h => ?_⟩
  refine wpAny_Call_Name_kw (ld_glob I hg gC ?_ hdb)
  refine PySem.W.callWith_K (h₀ := X.base) I.ok.mod.kin kC (thn (ha.run pos pins s σ H _ I h) fun us s1 hh => ?_) he hpl
  obtain ⟨vs, H1, I1, r1, v, ev, q1⟩ := hh
  subst ev
  refine ⟨I1.kIn, ?_⟩
  cases r1 with
  | cons rv rn =>
    rename_i u us'
    cases rn
    show wpAny _ _ (call (.ref C) [u]) _ _ _
    obtain ⟨bm, N, nm, qn, bs, hdct, sn, sub, ab, col, dd, k0, k1, k2, k3, k5, mN, hC, hN, hni, T⟩ := exc_obj I1.kIn q
    refine wpAny_call_exc_subT F T hC hN hni (fun h' a hm => ?_) (by rw [sizeLine_eq]; exact (by decide : 1 ≤ 16777216))
    have hn : H1 a = none := I1.hok.gone hm.new
    obtain ⟨t, ht, _, _⟩ := hm.there
    exact ⟨.ref a, _, I1.laidN hm.keeps hm.new hn (xv_ok ht ⟨rfl, rfl⟩ rfl), rfl, q1 a hn⟩
end
/-! ### what is asked of such a value -/
theorem xv_at {X : Cx} {pins : List (Addr × Obj)} {σ : L2.St} {H : Hp} {s : Shared} {a C : Addr} {d : Option Addr} (I : Inv X pins σ H s) (ha : H a = some (XV (.ref C) d a)) (hd : ∀ dd, d = some dd → ∃ fs, H dd = some (.xd fs)) :
    ∃ oe od, PySem.W.InstAt s.heap a oe C od ∧ ∀ dd fs, d = some dd → H dd = some (.xd fs) → ∃ (o : Obj) (mA : Str → Option Value), od = some o ∧ (∀ n, PySem.W.lookIn n o = some (mA n)) ∧ ∀ n, RelO (fs.lookup n) (mA n) := by
  obtain ⟨⟨oe, vs, ho, hz, hda⟩, _, _⟩ := I.hok a _ ha
  cases d with
  | none =>
    refine ⟨oe, none, ⟨ho, hz.1, by unfold PySem.W.notCls; rw [hda] <;> rfl, ?_⟩, fun dd fs e => nomatch e⟩
    rw [hz.2]
    trivial
  | some dd =>
    obtain ⟨fs, hf⟩ := hd dd rfl
    obtain ⟨mA, hns, hr⟩ := (show ObjOk X.prog X.w H s.heap dd (.xd fs) from I.hok dd _ hf)
    obtain ⟨od, ho2, hl⟩ := lookIn_ns hns
    refine ⟨oe, some od, ⟨ho, hz.1, by unfold PySem.W.notCls; rw [hda] <;> rfl, ?_⟩, fun d2 fs2 e e2 => ?_⟩
    · rw [hz.2]
      exact ho2
    · cases e
      rw [hf] at e2
      cases e2
      exact ⟨od, mA, rfl, hl, hr⟩
/-- what a class must say, so that its errors are asked rightly -/
structure XCl (K : PySem.W.Frag) (C : Addr) : Prop where
  cl : (PySem.W.clsIn K C).isSome = true
  ga : PySem.W.findIn K (.ref C) "__getattribute__" = some (some (.builtin "BaseException.__getattribute__"))
  gt : PySem.W.findIn K (.ref C) "__getattr__" = some none
  sub : PySem.W.subIn K (.ref C) (.type "BaseException") = some true
  ca : PySem.W.findIn K (.ref C) "__class__" = some (some (.builtin "object.__class__"))
  cg : PySem.W.specialIn K (.builtin "object.__class__") "__get__" = some (some (.builtin "getset_descriptor.__get__"))
  tk : PySem.W.takesIn K (.builtin "object.__class__") = some true
  ob : PySem.W.mroIn K C (.type "object") = some true
def rIsV (K : PySem.W.Frag) : List V → Hp → VK → Prop := fun xs H Q => ∃ (a C : Addr) (d : Option Addr) (c : V) (u : Value) (b : Bool), xs = [.ref a, c] ∧ ClsV c u ∧ H a = some (XV (.ref C) d a) ∧ (∀ dd, d = some dd → ∃ fs, H dd = some (.xd fs)) ∧ XCl K C ∧ PySem.W.kitOne K (.ref C) u = some b ∧ Q (.bl b) H
theorem call_isv {X : Cx} : CallR X (.builtin "isinstance") (rIsV X.K) := by
  intro pins s σ H xs us Q I r h
  obtain ⟨a, C, d, c, u, b, rfl, k, ha, hd, T, e, q⟩ := h
  obtain ⟨u1, u2, rfl, r1, r2⟩ := vals2 r
  have e2 := k.eq r2
  subst e2
  cases (show u1 = Value.ref a from r1)
  obtain ⟨oe, od, J, _⟩ := xv_at I ha hd
  exact PySem.W.kia_one (PySem.W.kitx_exc T.cl T.ga T.gt T.sub T.ca T.cg T.tk T.ob) I.kIn J e (fun z => nomatch z) fun tk => ⟨.bl b, H, I.tok tk, rfl, q⟩
/-- e.f -/
theorem pe_xfv {X : Cx} {e : Expr} {te : TE} {pos : Pos} {n : Str} (he : PE X e te) (hb : attributeBase e n X.env (eval e X.env) = eval e X.env) :
    PE X (.Attribute e n pos) (fun σ H Q => te σ H fun x H1 => ∃ a C dd fs v, x = .ref a ∧ H1 a = some (XV (.ref C) (some dd) a) ∧ H1 dd = some (.xd fs) ∧ XfC X.K C ∧ PySem.W.findIn X.K (.ref C) n = some none ∧ fs.lookup n = some v ∧ Q v H1) := by
  refine ⟨fun pins s σ H Q I h => ?_⟩
  refine attr_of hb (thn (he.run pins s σ H _ I h) fun u s1 hh => ?_)
  obtain ⟨x, H1, I1, rx, a, C, dd, fs, v, ex, ha, hd, T, hno, l, q⟩ := hh
  subst ex
  obtain rfl : u = Value.ref a := rx
  obtain ⟨oe, od, J, look⟩ := xv_at I1 ha (fun d2 e => by cases e; exact ⟨fs, hd⟩)
  obtain ⟨o, mA, rfl, hl, hr⟩ := look dd fs rfl hd
  obtain ⟨u, hu, ru⟩ := RelO.some_of (v := v) (o := mA n) (by rw [← l]; exact hr n)
  exact HandSPX.exc_get I1.kIn J T.ga T.gg T.exC (PySem.W.findObj_own T.hdC hno rfl (by rw [hl, hu])) (handed_of ru) ⟨v, H1, I1.tok _, ru, q⟩
/-- str(e), by an own __str__ that raises nothing -/
def rStrV (X : Cx) : List V → Hp → VK → Prop := fun xs H Q => ∃ (a C f : Addr) (d : Option Addr) (sp : Sp) (k : Nat), xs = [.ref a] ∧ H a = some (XV (.ref C) d a) ∧ (∀ dd, d = some dd → ∃ fs, H dd = some (.xd fs)) ∧
  FnE0 X.prog X.w X.K X.mg X.base f 1 sp k ∧ Room k X.A.in1.in1 ∧ X.A.guards = some [] ∧ PySem.W.findIn X.K (.ref C) "__str__" = some (some (.ref f)) ∧ PySem.W.isFn X.K (.ref f) = true ∧
  sp [.ref a] H (fun v H' => ∃ y, v = .str y ∧ Q v H') (fun _ _ _ => False)
theorem call_strv {X : Cx} : CallR X (.type "str") (rStrV X) := by
  intro pins s σ H xs us Q I r h
  obtain ⟨a, C, f, d, sp, k, rfl, ha, hd, ⟨fd, ps, dvs, ds, sp0, G, hb, hv, hl, to⟩, room, gd, hs, hf, q⟩ := h
  cases r with
  | cons rv rn =>
    cases rn
    rename_i u
    cases (show u = Value.ref a from rv)
    obtain ⟨oe, od, J, _⟩ := xv_at I ha hd
    refine PySem.W.kso_call (by have := room.un; omega) I.kIn J hs hf ?_
    have r2 : Vals ([V.ref a] ++ dvs) ([Value.ref a] ++ ds) := (show Vals [V.ref a] [Value.ref a] from .cons rfl .nil).append hv
    have e0 : Env0 X.prog X.w X.K X.mg X.base X.A.in1.in1 X.stack s H := { I.env0 with frames := I.env0.frames }
    have b := hb s [.ref a] I.kIn (by rw [← r2.length, List.length_append]; exact hl)
    have go := G X.A.in1.in1 X.stack s H ⟨[.ref a], []⟩ ([.ref a] ++ ds) ([.ref a] ++ dvs) _ _ room gd e0 b r2 (by rw [List.length_append]; exact hl) (to _ _ _ _ rfl q)
    refine wpAny_call (codeAny_mono go ?_)
    rintro (e | fl) s2 hq
    · obtain ⟨_, _, _, _, _, _, _, _, _, _, _, _, no⟩ := (show L2.CX X.prog X.w X.stack H s (fun _ _ _ => False) e s2 from hq)
      exact no.elim
    · cases fl
      case ret u =>
        obtain ⟨v, H', I', rv', y, rfl, q'⟩ := I.after hq
        obtain ⟨t, rfl⟩ := (show ∃ t, u = Value.str y t from rv')
        exact ⟨_, H', I', rv', q'⟩
      all_goals exact hq.elim
end HB
namespace HB
open PySem L2 PySem.Spec PyProof.Rows
/-! ### methods, makers, properties by FnG -/
section
variable {X : Cx} {k : Nat} {f C : Addr} {fd : FuncData} {ps : List Str} {sp : Sp} {W : WX} {x mn : Str} {p pos apos : Pos} {e o : Expr} {es : List Expr} {ta : TE} {t : TA}
/-- the instance, the arguments, the method -/
def tMethG (C : Addr) (mn : Str) (np : Nat) (sp : Sp) (W : WX) (ta : TE) (t : TA) : TE := fun σ H Q => ta σ H fun x H1 => ∃ a dx fs, x = .ref a ∧ H1 a = some (.ins C dx fs) ∧ fs.lookup mn = none ∧
  t σ H1 fun vs H2 => (V.ref a :: vs).length = np ∧ sp (.ref a :: vs) H2 Q (fun cls d H' => W cls d σ H')
theorem peG_meth {pl : PySem.Sem Bool} (he : PE X o ta) (c : Cls X.K C) (hm : Meth X.K C mn f) (G : FnG X.prog X.w X.K X.mg X.base k f fd ps sp) (hr : Room k X.A) (hgd : X.A.guards = some []) (hb : Binds X.K fd ps []) (tk : Takes X W) (ha : PA X (e :: es) t)
    (hst : starEach (e :: es) X.env = (false, eval e X.env) :: starEach es X.env) (hpl : (backTo pos (starEach es X.env)).any (·.1) = false)
    (ht : eval (.Call (.Attribute o mn apos) (e :: es) [] pos) X.env = (do
      let ov ← eval o X.env
      standAt apos.atName
      let (f, first) ← holding [ov] (getMethod ov mn pl)
      callWith pos f first (backTo pos (starEach (e :: es) X.env)) (backToKw pos (keywordEach [] X.env)))) :
    PE X (.Call (.Attribute o mn apos) (e :: es) [] pos) (tMethG C mn ps.length sp W ta t) := by
  constructor
  intro pins s σ H Q I h
  apply PySem.W.methodCall_KW (pl := pl) _ ht
  refine thn (he.run pins s σ H _ I h) ?_
  rintro u s1 ⟨x, H1, I1, rx, a, dx, fs, ex, ea, l, q⟩
  subst ex
  have hu : u = Value.ref a := rx
  subst hu
  refine getmeth_ok I1 ea c hm l ?_
  refine PySem.W.callWith_K (first := [.ref a]) (h₀ := X.base) I.ok.mod.kin hm.kp ?_ hst hpl
  refine thn (ha.run pos pins s1 σ H1 _ I1 q) ?_
  rintro us s2 ⟨vs, H2, I2, r, hl, q2⟩
  refine ⟨I2.kIn, ?_⟩
  exact runG (us := .ref a :: us) (vs := .ref a :: vs) (dvs := []) (ds := []) G hr hgd hb .nil tk I2 (.cons rfl r) (by rw [List.append_nil]; exact hl) (by rw [List.append_nil]; exact q2)
theorem peG_meth0 {pl : PySem.Sem Bool} (he : PE X o ta) (c : Cls X.K C) (hm : Meth X.K C mn f) (G : FnG X.prog X.w X.K X.mg X.base k f fd ps sp) (hr : Room k X.A) (hgd : X.A.guards = some []) (hb : Binds X.K fd ps []) (tk : Takes X W)
    (ht : eval (.Call (.Attribute o mn apos) [] [] pos) X.env = (do
      let ov ← eval o X.env
      standAt apos.atName
      let (f, first) ← holding [ov] (getMethod ov mn pl)
      callWith pos f first (backTo pos (starEach [] X.env)) (backToKw pos (keywordEach [] X.env)))) :
    PE X (.Call (.Attribute o mn apos) [] [] pos) (tMethG C mn ps.length sp W ta tNil) := by
  constructor
  intro pins s σ H Q I h
  apply PySem.W.methodCall_KW (pl := pl) _ ht
  refine thn (he.run pins s σ H _ I h) ?_
  rintro u s1 ⟨x, H1, I1, rx, a, dx, fs, ex, ea, l, hl, q⟩
  subst ex
  have hu : u = Value.ref a := rx
  subst hu
  refine getmeth_ok I1 ea c hm l ?_
  exact PySem.W.callWith_K0 (first := [.ref a]) I1.kIn hm.kp (runG (us := [.ref a]) (vs := [.ref a]) (dvs := []) (ds := []) G hr hgd hb .nil tk I1 (.cons rfl .nil) hl q)
/-- the class called -/
def tMakeG (C : Addr) (np : Nat) (sp : Sp) (W : WX) (t : TA) : TE := fun σ H Q => t σ H fun vs H1 => vs.length + 1 = np ∧ ∀ x dx, H1 x = none → H1 dx = none → dx ≠ x →
  sp (.ref x :: vs) (upd (upd H1 dx (.own x)) x (.ins C dx [])) (fun v H2 => v = .non ∧ Q (.ref x) H2) (fun cls d H' => W cls d σ H')
theorem runG_make {pins : List (Addr × Obj)} {σ : L2.St} {H : Hp} {s : Shared} {Q : VK} {us : List Value} {vs : List V} (mk : Mk X.K C f) (G : FnG X.prog X.w X.K X.mg X.base k f fd ps sp) (hr : Room (k + 1) X.A) (hgd : X.A.guards = some []) (hb : Binds X.K fd ps []) (tk : Takes X W)
    (I : Inv X pins σ H s) (r : Vals vs us) (hl : vs.length + 1 = ps.length)
    (h : ∀ x dx, H x = none → H dx = none → dx ≠ x → sp (.ref x :: vs) (upd (upd H dx (.own x)) x (.ins C dx [])) (fun v H2 => v = .non ∧ Q (.ref x) H2) (fun cls d H' => W cls d σ H')) :
    wpAny (model X.prog X.w) X.A (call (.ref C) us) (EP X pins σ Q) X.xe s := by
  have want := h (s.heap.objs.size + 1) s.heap.objs.size (I.hok.fresh (Nat.le_succ _)) (I.hok.fresh (Nat.le_refl _)) (Nat.ne_of_lt (Nat.lt_succ_self _))
  have I2 := Inv.made (C := C) I
  have r2 : Vals (V.ref (s.heap.objs.size + 1) :: vs) (Value.ref (s.heap.objs.size + 1) :: us) := .cons rfl r
  have hl2 : ((Value.ref (s.heap.objs.size + 1) :: us) ++ []).length = ps.length := by
    rw [List.append_nil, ← r2.length, List.length_cons]
    exact hl
  have go := G _ X.stack _ _ ⟨Value.ref (s.heap.objs.size + 1) :: us, []⟩ ((Value.ref (s.heap.objs.size + 1) :: us) ++ []) (V.ref (s.heap.objs.size + 1) :: vs) _ _ (hr.make C us []) (by rw [under_guards]; exact hgd) (I2.env0.make C us []) (hb _ (Value.ref (s.heap.objs.size + 1) :: us) I2.kIn hl2) (by rw [List.append_nil]; exact r2) hl want
  refine wpAny_call (make_map (f := f) I.kIn mk.makes mk.init (beq_iff_eq.mp mk.fn) (codeAny_mono go ?_))
  rintro (ex | fl) s2 hq
  · exact tk ex s2 (XE.of_call I2 (fun cls d H' z => z) hq)
  · cases fl
    case ret u =>
      obtain ⟨v, H2, I3, rv, ev, q3⟩ := I2.after hq
      subst ev
      exact ⟨rv, ⟨V.ref (s.heap.objs.size + 1), H2, I3, rfl, q3⟩⟩
    all_goals exact hq.elim
theorem peG_make (mk : Mk X.K C f) (G : FnG X.prog X.w X.K X.mg X.base k f fd ps sp) (hr : Room (k + 1) X.A) (hgd : X.A.guards = some []) (hg : Gl X x) (hm : X.mg x = some (.ref C)) (hb : Binds X.K fd ps []) (tk : Takes X W)
    (ha : PA X (e :: es) t) (hdb : (x == ("__debug__" : Str)) = false) (he : starEach (e :: es) X.env = (false, eval e X.env) :: starEach es X.env) (hpl : (backTo pos (starEach es X.env)).any (·.1) = false) :
    PE X (.Call (.Name x p) (e :: es) [] pos) (tMakeG C ps.length sp W t) := by
  constructor
  intro pins s σ H Q I h
  apply wpAny_Call_Name_kw
  refine ld_glob I hg hm ?_ hdb
  refine PySem.W.callWith_K (h₀ := X.base) I.ok.mod.kin mk.kp ?_ he hpl
  refine thn (ha.run pos pins s σ H _ I h) ?_
  rintro us s1 ⟨vs, H1, I1, r, hl, q⟩
  exact ⟨I1.kIn, runG_make mk G hr hgd hb tk I1 r hl q⟩
end
end HB
namespace HB
open PySem L2 PySem.Spec PyProof.Rows
/-! ### instances: what is asked of them by their own defs -/
/-- a def with its promise -/
abbrev FnE (X : Cx) (f : Addr) (np : Nat) (sp : Sp) (j : Nat) : Prop := FnE0 X.prog X.w X.K X.mg X.base f np sp j
section
variable {X : Cx} {W : WX} {k j np : Nat} {f C a dx : Addr} {sp : Sp}
/-- run under a deeper around -/
theorem runGA {A' : Around} {pins : List (Addr × Obj)} {σ : L2.St} {H : Hp} {s : Shared} {Q : VK} {us : List Value} {vs : List V} (G : FnE X f np sp j) (hr : Room j A') (hg : A'.guards = some []) (hf : A'.frames = X.A.frames) (tk : Takes X W)
    (I : Inv X pins σ H s) (r : Vals vs us) (hl : vs.length = np) (h : sp vs H Q (fun cls d H' => W cls d σ H')) : wpAny (model X.prog X.w) A' (call (.ref f) us) (EP X pins σ Q) X.xe s := by
  obtain ⟨fd, ps, dvs, ds, sp0, G, hb, hv, hp, to⟩ := G
  have e0 : Env0 X.prog X.w X.K X.mg X.base A' X.stack s H := { I.env0 with frames := hf.trans I.env0.frames }
  have r2 : Vals (vs ++ dvs) (us ++ ds) := r.append hv
  have b := hb s us I.kIn (by rw [← r2.length, List.length_append, hl]; exact hp)
  have go := G A' X.stack s H ⟨us, []⟩ (us ++ ds) (vs ++ dvs) Q _ hr hg e0 b r2 (by rw [List.length_append, hl]; exact hp) (to _ _ _ _ hl h)
  refine wpAny_call (codeAny_mono go ?_)
  rintro (e | fl) s2 hq
  · exact tk e s2 (XE.of_call I (fun cls d H' z => z) hq)
  · cases fl
    case ret u => exact I.after hq
    all_goals exact hq.elim
theorem room1 {A : Around} {j k : Nat} (hr : Room k A) (hj : j + 2 ≤ k) : Room j A.in1 := ⟨hr.hd, by have := hr.dp; show A.depth + 3 * j + 5 < _; omega, by have := hr.un; show A.units + 1 + 16 * j + 200 < _; omega⟩
theorem room2 {A : Around} {j k : Nat} (hr : Room k A) (hj : j + 2 ≤ k) : Room j A.in1.in1 := ⟨hr.hd, by have := hr.dp; show A.depth + 3 * j + 5 < _; omega, by have := hr.un; show A.units + 1 + 1 + 16 * j + 200 < _; omega⟩
theorem ins_at {pins : List (Addr × Obj)} {σ : L2.St} {H : Hp} {s : Shared} {fs : List (Str × V)} (I : Inv X pins σ H s) (ea : H a = some (.ins C dx fs)) : ∃ ox od, PySem.W.InstAt s.heap a ox C (some od) := by
  obtain ⟨mA, O, _⟩ := ins_get I.hok ea
  obtain ⟨od, J, _⟩ := O.look
  exact ⟨_, od, J⟩
/-- o.p, a property -/
theorem peG_prop {e : Expr} {ta : TE} {y : Str} {pos : Pos} (he : PE X e ta) (hr : Room k X.A) (hgd : X.A.guards = some []) (hab : attributeBase e y X.env (eval e X.env) = eval e X.env) :
    PE X (.Attribute e y pos) (fun σ H Q => ta σ H fun x H1 => ∃ a C dx fs p g sp j, x = .ref a ∧ H1 a = some (.ins C dx fs) ∧ Cls X.K C ∧ PropOf X.K C y p g ∧ FnE X g 1 sp j ∧ j + 2 ≤ k ∧ sp [.ref a] H1 Q (fun _ _ _ => False)) := by
  refine ⟨fun pins s σ H Q I h => ?_⟩
  refine attr_of hab (thn (he.run pins s σ H _ I h) ?_)
  rintro u s1 ⟨x, H1, I1, rx, a, C, dx, fs, p, g, sp, j, rfl, ea, c, hp, ⟨fd, ps, dvs, ds, sp0, G, hb, hv, hl, to⟩, hj, q⟩
  obtain rfl : u = Value.ref a := rx
  obtain ⟨ox, od, J⟩ := ins_at I1 ea
  obtain ⟨rest, hrec⟩ := hp.rec_
  have I2 := I1.tok (s1.toks + 1)
  have hc : (PySem.W.clsIn X.K C).isSome = true := by
    obtain ⟨cd, hc, _⟩ := PySem.W.any_some c.hd
    rw [hc]
    rfl
  refine PySem.W.get_bind I1.kIn J (PySem.W.plainGet_of (c.get y)).1 (PySem.W.findObj_data hc hp.at_ hp.get hp.tak) (PySem.W.plainGet_of (c.get y)).2 (wpAny_call (PySem.W.prop_get (s := { s1 with toks := s1.toks + 1 }) I1.kIn hrec ?_))
  have r2 : Vals ([V.ref a] ++ dvs) ([Value.ref a] ++ ds) := (show Vals [V.ref a] [Value.ref a] from .cons rfl .nil).append hv
  have b := hb { s1 with toks := s1.toks + 1 } [.ref a] I2.kIn (by rw [← r2.length, List.length_append]; exact hl)
  have e0 : Env0 X.prog X.w X.K X.mg X.base X.A.in1 X.stack { s1 with toks := s1.toks + 1 } H1 := { I2.env0 with frames := I2.env0.frames }
  refine codeAny_mono (G X.A.in1 X.stack { s1 with toks := s1.toks + 1 } H1 ⟨[.ref a], []⟩ ([.ref a] ++ ds) ([.ref a] ++ dvs) Q _ (room1 hr hj) hgd e0 b r2 (by rw [List.length_append]; exact hl) (to _ _ _ _ rfl q)) ?_
  rintro (er | fl) s' hq
  · obtain ⟨_, _, _, _, _, _, _, _, _, _, _, _, no⟩ := (show L2.CX X.prog X.w X.stack H1 { s1 with toks := s1.toks + 1 } (fun _ _ _ => False) er s' from hq)
    exact no.elim
  · cases fl with
    | ret u =>
      obtain ⟨v, H', I3, rv, q3⟩ := I2.after hq
      show wpAny _ _ (handedOut u) _ _ _
      rw [PySem.W.handedOut_of (handed_of rv)]
      exact wpAny_pure ⟨v, H', I3, rv, q3⟩
    | next => exact hq.elim
    | brk => exact hq.elim
    | cont => exact hq.elim
/-- o.m(..) -/
theorem eval_meth {o : Expr} {m : Str} {apos pos : Pos} {es : List Expr} {env : PySem.Env} (hbase : attributeBase o m env (eval o env) = eval o env)
    (hf : methodCallForm (es.length + ([] : List Keyword).length) (backTo pos (starEach es env)) (backToKw pos (keywordEach [] env)) = true) (hl : (apos.endLine == pos.line) = true) :
    eval (.Call (.Attribute o m apos) es [] pos) env = (do
      let ov ← eval o env
      standAt apos.atName
      let (f, first) ← holding [ov] (getMethod ov m (plainOf o env))
      callWith pos f first (backTo pos (starEach es env)) (backToKw pos (keywordEach [] env))) := by
  rw [arm_eval_Call, hbase]
  simp only [mcall_line hf hl]
theorem peG_methX {W : WX} {np : Nat} {o : Expr} {ta : TE} {t : TA} {mn : Str} {apos pos : Pos} {es : List Expr} (he : PE X o ta) (hr : Room k X.A) (hgd : X.A.guards = some []) (tk : Takes X W) (ha : PA X es t)
    (hst : es = [] ∧ t = tNil ∨ ∃ e r, es = e :: r ∧ starEach (e :: r) X.env = (false, eval e X.env) :: starEach r X.env ∧ (backTo pos (starEach r X.env)).any (·.1) = false) (hbase : attributeBase o mn X.env (eval o X.env) = eval o X.env)
    (hf : methodCallForm (es.length + ([] : List Keyword).length) (backTo pos (starEach es X.env)) (backToKw pos (keywordEach [] X.env)) = true) (hl : (apos.endLine == pos.line) = true) :
    PE X (.Call (.Attribute o mn apos) es [] pos) (fun σ H Q => ta σ H fun x H1 => ∃ a C dx fs f sp j, x = .ref a ∧ H1 a = some (.ins C dx fs) ∧ fs.lookup mn = none ∧ Cls X.K C ∧ Meth X.K C mn f ∧ FnE X f np sp j ∧ j + 2 ≤ k ∧
      t σ H1 fun vs H2 => (V.ref a :: vs).length = np ∧ sp (.ref a :: vs) H2 Q (fun cls d H' => W cls d σ H')) := by
  refine ⟨fun pins s σ H Q I h => ?_⟩
  refine PySem.W.methodCall_KW (pl := plainOf o X.env) (thn (he.run pins s σ H _ I h) ?_) (eval_meth hbase hf hl)
  rintro u s1 ⟨x, H1, I1, rx, a, C, dx, fs, f, sp, j, ex, ea, l, c, hm, ⟨fd, ps, dvs, ds, sp0, G, hb, hv, hl, to⟩, hj, q⟩
  subst ex
  obtain rfl : u = Value.ref a := rx
  refine getmeth_ok I1 ea c hm l ?_
  rcases hst with ⟨rfl, rfl⟩ | ⟨e, r, rfl, hst, hpl⟩
  · obtain ⟨q1, q2⟩ := q
    exact PySem.W.callWith_K0 (first := [.ref a]) I1.kIn hm.kp (runG (us := [.ref a]) (vs := [.ref a]) (dvs := dvs) (ds := ds) G (hr.mono (by omega)) hgd hb hv tk I1 (.cons rfl .nil) (by rw [List.length_append, q1]; exact hl) (to _ _ _ _ q1 q2))
  · refine PySem.W.callWith_K (first := [.ref a]) (h₀ := X.base) I.ok.mod.kin hm.kp ?_ hst hpl
    refine thn (ha.run pos pins s1 σ H1 _ I1 q) ?_
    rintro us s2 ⟨vs, H2, I2, r, hl', q2⟩
    refine ⟨I2.kIn, ?_⟩
    exact runG (us := .ref a :: us) (vs := .ref a :: vs) (dvs := dvs) (ds := ds) G (hr.mono (by omega)) hgd hb hv tk I2 (.cons rfl r) (by rw [List.length_append, hl']; exact hl) (to _ _ _ _ hl' q2)
/-- nothing is raised -/
abbrev WN : WX := fun _ _ _ _ => False
theorem takesN : Takes X WN := fun _ _ ⟨_, _, _, _, _, _, _, _, _, _, _, _, _, _, _, _, w⟩ => w.elim
/-- len(o) -/
theorem call_lenO (hr : Room k X.A) (hgd : X.A.guards = some []) : CallR X (.builtin "len") (fun xs H Q => ∃ a C dx fs f sp j, xs = [V.ref a] ∧ H a = some (.ins C dx fs) ∧ PySem.W.findIn X.K (.ref C) "__len__" = some (some (.ref f)) ∧ PySem.W.isFn X.K (.ref f) = true ∧ FnE X f 1 sp j ∧ j + 2 ≤ k ∧
    sp [.ref a] H (fun v H' => ∃ n : Nat, v = .int (n : Int) ∧ (n : Int) < 2 ^ 62 ∧ Q v H') (fun _ _ _ => False)) := by
  intro pins s σ H xs us Q I r h
  obtain ⟨a, C, dx, fs, f, sp, j, rfl, ea, hs, hf, G, hj, q⟩ := h
  obtain ⟨u, rfl, rx⟩ := vals1 r
  obtain rfl : u = Value.ref a := rx
  obtain ⟨ox, od, J⟩ := ins_at I ea
  obtain ⟨m, hF⟩ := I.fr
  refine PySem.W.len_K hF I.ok.mod.kin J hs hf (wpAny_mono (runGA (W := WN) (A' := X.A.in1) G (room1 hr hj) hgd rfl takesN I (show Vals [V.ref a] [Value.ref a] from .cons rfl .nil) rfl q) ?_ fun _ _ z => z)
  rintro u s' ⟨v, H', I', rv, n, rfl, hn, q'⟩
  obtain ⟨t, rfl⟩ := (show ∃ t, u = Value.int (n : Int) t from rv)
  refine ⟨⟨by omega, by omega⟩, ?_⟩
  exact ⟨.int n, H', I'.tok _, ⟨_, rfl⟩, q'⟩
/-- x in o, x not in o -/
theorem op_inO (hr : Room k X.A) (hgd : X.A.guards = some []) : OpR X (compareOp .In) (fun x y H Q => ∃ a C dx fs f sp j, y = V.ref a ∧ H a = some (.ins C dx fs) ∧ PySem.W.findIn X.K (.ref C) "__contains__" = some (some (.ref f)) ∧ PySem.W.isFn X.K (.ref f) = true ∧ FnE X f 2 sp j ∧ j + 2 ≤ k ∧
    sp [.ref a, x] H (fun v H' => ∃ b, v = .bl b ∧ Q v H') (fun _ _ _ => False)) := by
  intro pins s σ H x y v u Q I rx ry h
  obtain ⟨a, C, dx, fs, f, sp, j, rfl, ea, hs, hf, G, hj, q⟩ := h
  obtain rfl : u = Value.ref a := ry
  obtain ⟨ox, od, J⟩ := ins_at I ea
  obtain ⟨m, hF⟩ := I.fr
  refine PySem.W.in_K hF I.ok.mod.kin J hs hf (wpAny_mono (runGA (W := WN) (A' := X.A) G (hr.mono (by omega)) hgd rfl takesN I (show Vals [V.ref a, x] [Value.ref a, v] from .cons rfl (.cons rx .nil)) rfl q) ?_ fun _ _ z => z)
  rintro w s' ⟨v', H', I', rv, b, rfl, q'⟩
  cases (show w = Value.bool b from rv)
  exact wpAny_pure ⟨.bl b, H', I', rfl, q'⟩
theorem op_notInO (hr : Room k X.A) (hgd : X.A.guards = some []) : OpR X (compareOp .NotIn) (fun x y H Q => ∃ a C dx fs f sp j, y = V.ref a ∧ H a = some (.ins C dx fs) ∧ PySem.W.findIn X.K (.ref C) "__contains__" = some (some (.ref f)) ∧ PySem.W.isFn X.K (.ref f) = true ∧ FnE X f 2 sp j ∧ j + 2 ≤ k ∧
    sp [.ref a, x] H (fun v H' => ∃ b, v = .bl b ∧ Q (.bl (!b)) H') (fun _ _ _ => False)) := by
  intro pins s σ H x y v u Q I rx ry h
  obtain ⟨a, C, dx, fs, f, sp, j, rfl, ea, hs, hf, G, hj, q⟩ := h
  obtain rfl : u = Value.ref a := ry
  obtain ⟨ox, od, J⟩ := ins_at I ea
  obtain ⟨m, hF⟩ := I.fr
  refine PySem.W.notIn_K hF I.ok.mod.kin J hs hf (wpAny_mono (runGA (W := WN) (A' := X.A) G (hr.mono (by omega)) hgd rfl takesN I (show Vals [V.ref a, x] [Value.ref a, v] from .cons rfl (.cons rx .nil)) rfl q) ?_ fun _ _ z => z)
  rintro w s' ⟨v', H', I', rv, b, rfl, q'⟩
  cases (show w = Value.bool b from rv)
  exact wpAny_pure ⟨.bl (!b), H', I', rfl, q'⟩
/-- o[x] -/
theorem ix_O {W : WX} (hr : Room k X.A) (hgd : X.A.guards = some []) (tk : Takes X W) {value slice : Expr} {pins : List (Addr × Obj)} {s : Shared} {σ : L2.St} {H : Hp} {x y : V} {v u : Value} {Q : VK} (I : Inv X pins σ H s) (rx : RelV x v) (ry : RelV y u)
    (h : ∃ a C dx fs f sp j, x = V.ref a ∧ H a = some (.ins C dx fs) ∧ PySem.W.findIn X.K (.ref C) "__getitem__" = some (some (.ref f)) ∧ PySem.W.fnIn X.K f = true ∧ PySem.W.isFn X.K (.ref f) = true ∧ FnE X f 2 sp j ∧ j + 2 ≤ k ∧ sp [.ref a, y] H Q (fun cls d H' => W cls d σ H'))
    (hsl : ∀ o i, subscripted slice true o i = runValue (.builtin "lifetime.subscript" ⟨[o, i], []⟩)) : wpAny (model X.prog X.w) X.A (subscriptTail value slice v u) (EP X pins σ Q) X.xe s := by
  obtain ⟨a, C, dx, fs, f, sp, j, rfl, ea, hs, hn, hf, G, hj, q⟩ := h
  obtain rfl : v = Value.ref a := rx
  obtain ⟨ox, od, J⟩ := ins_at I ea
  obtain ⟨m, hF⟩ := I.fr
  exact PySem.W.sub_K hF I.ok.mod.kin J hs hn hf (runGA (W := W) (A' := X.A.in1) G (room1 hr hj) hgd rfl tk I (show Vals [V.ref a, y] [Value.ref a, u] from .cons rfl (.cons ry .nil)) rfl q) (hsl _ _)
/-- o + x, both of one class -/
theorem bin_O {W : WX} (op : Operator) (hr : Room k X.A) (hgd : X.A.guards = some []) (tk : Takes X W) {pins : List (Addr × Obj)} {s : Shared} {σ : L2.St} {H : Hp} {x y : V} {v u : Value} {Q : VK} (I : Inv X pins σ H s) (rx : RelV x v) (ry : RelV y u)
    (h : ∃ a C dx fs b dy gs f sp j, x = V.ref a ∧ H a = some (.ins C dx fs) ∧ y = V.ref b ∧ H b = some (.ins C dy gs) ∧ PySem.W.selfFirst X.K C = true ∧ PySem.W.findIn X.K (.ref C) (PySem.dunder op.info.2) = some (some (.ref f)) ∧ PySem.W.isFn X.K (.ref f) = true ∧ FnE X f 2 sp j ∧ j + 2 ≤ k ∧ sp [.ref a, y] H Q (fun cls d H' => W cls d σ H')) :
    wpAny (model X.prog X.w) X.A (binaryOp op v u) (EP X pins σ Q) X.xe s := by
  obtain ⟨a, C, dx, fs, b, dy, gs, f, sp, j, rfl, ea, rfl, eb, hc, hs, hf, G, hj, q⟩ := h
  obtain rfl : v = Value.ref a := rx
  obtain rfl : u = Value.ref b := ry
  obtain ⟨ox, od, J⟩ := ins_at I ea
  obtain ⟨ox2, od2, J2⟩ := ins_at I eb
  obtain ⟨m, hF⟩ := I.fr
  refine PySem.W.binop_K hF I.ok.mod.kin J J2.type hc hs hf (wpAny_mono (runGA (W := W) (A' := X.A) G (hr.mono (by omega)) hgd rfl tk I (show Vals [V.ref a, V.ref b] [Value.ref a, Value.ref b] from .cons rfl (.cons rfl .nil)) rfl q) ?_ fun _ _ z => z)
  rintro w s' ⟨v', H', I', rv, q'⟩
  cases w with
  | notImplemented => cases v' <;> simp [L2.RelV] at rv
  | _ => exact ⟨v', H', I', rv, q'⟩
/-- ~o -/
theorem un_invO (hr : Room k X.A) (hgd : X.A.guards = some []) {pins : List (Addr × Obj)} {s : Shared} {σ : L2.St} {H : Hp} {x : V} {v : Value} {Q : VK} (I : Inv X pins σ H s) (rx : RelV x v)
    (h : ∃ a C dx fs f sp j, x = V.ref a ∧ H a = some (.ins C dx fs) ∧ PySem.W.findIn X.K (.ref C) "__invert__" = some (some (.ref f)) ∧ PySem.W.isFn X.K (.ref f) = true ∧ FnE X f 1 sp j ∧ j + 2 ≤ k ∧ sp [.ref a] H Q (fun _ _ _ => False)) :
    wpAny (model X.prog X.w) X.A (unaryOp .Invert v) (EP X pins σ Q) X.xe s := by
  obtain ⟨a, C, dx, fs, f, sp, j, rfl, ea, hs, hf, G, hj, q⟩ := h
  obtain rfl : v = Value.ref a := rx
  obtain ⟨ox, od, J⟩ := ins_at I ea
  obtain ⟨m, hF⟩ := I.fr
  exact PySem.W.ksp_inv hF I.ok.mod.kin J hs hf (runGA (W := WN) (A' := X.A) G (hr.mono (by omega)) hgd rfl takesN I (show Vals [V.ref a] [Value.ref a] from .cons rfl .nil) rfl q)
/-- str(o) -/
theorem call_strO (hr : Room k X.A) (hgd : X.A.guards = some []) : CallR X (.type "str") (fun xs H Q => ∃ a C dx fs f sp j, xs = [V.ref a] ∧ H a = some (.ins C dx fs) ∧ PySem.W.findIn X.K (.ref C) "__str__" = some (some (.ref f)) ∧ PySem.W.isFn X.K (.ref f) = true ∧ FnE X f 1 sp j ∧ j + 2 ≤ k ∧
    sp [.ref a] H (fun v H' => ∃ y, v = .str y ∧ Q v H') (fun _ _ _ => False)) := by
  intro pins s σ H xs us Q I r h
  obtain ⟨a, C, dx, fs, f, sp, j, rfl, ea, hs, hf, G, hj, q⟩ := h
  obtain ⟨u, rfl, rx⟩ := vals1 r
  obtain rfl : u = Value.ref a := rx
  obtain ⟨ox, od, J⟩ := ins_at I ea
  have rm := room2 hr hj
  refine PySem.W.kso_call (by have := rm.un; omega) I.kIn J hs hf (wpAny_mono (runGA (W := WN) (A' := X.A.in1.in1) G rm hgd rfl takesN I (show Vals [V.ref a] [Value.ref a] from .cons rfl .nil) rfl q) ?_ fun _ _ z => z)
  rintro w s' ⟨v', H', I', rv, y, rfl, q'⟩
  obtain ⟨t, rfl⟩ := (show ∃ t, w = Value.str y t from rv)
  exact ⟨_, H', I', rv, q'⟩
/-- o == x -/
theorem op_eqO (hr : Room k X.A) (hgd : X.A.guards = some []) : OpR X (compareOp .Eq) (fun x y H Q => ∃ a C dx fs f sp j t, x = V.ref a ∧ H a = some (.ins C dx fs) ∧ PySem.W.findIn X.K (.ref C) "__eq__" = some (some (.ref f)) ∧ PySem.W.isFn X.K (.ref f) = true ∧ FnE X f 2 sp j ∧ j + 2 ≤ k ∧
    TyX X.K H y t ∧ PySem.W.notFirst X.K C t = true ∧ sp [.ref a, y] H (fun v H' => ∃ b, v = .bl b ∧ Q v H') (fun _ _ _ => False)) := by
  intro pins s σ H x y v u Q I rx ry h
  obtain ⟨a, C, dx, fs, f, sp, j, t, rfl, ea, hs, hf, G, hj, ty, hn, q⟩ := h
  obtain rfl : v = Value.ref a := rx
  obtain ⟨ox, od, J⟩ := ins_at I ea
  obtain ⟨m, hF⟩ := I.fr
  obtain ⟨P, Z, p, _⟩ := kit_of I ry ty
  refine PySem.W.cmp_K (op := .Eq) (tb := t) hr.units0 hF I.ok.mod.kin J (Z.ty _ _ I.kIn p) hn hs hf (wpAny_mono (runGA (W := WN) (A' := X.A) G (hr.mono (by omega)) hgd rfl takesN I (show Vals [V.ref a, y] [Value.ref a, u] from .cons rfl (.cons ry .nil)) rfl q) ?_ fun _ _ z => z)
  rintro w s' ⟨v', H', I', rv, b, rfl, q'⟩
  cases (show w = Value.bool b from rv)
  exact ⟨.bl b, H', I', rfl, q'⟩
end
end HB
namespace HB
open PySem L2 PySem.Spec PyProof.Rows
/-! ### {**a, **b} -/
theorem fi_list {α : Type} (es : Array α) (p : α → Bool) : es.toList.findIdx? p = es.findIdx? p := by cases es; simp
section
variable {P : Program} {w : World} {κ : Type} [DecidableEq κ] {kn : KeyKind P w κ} {A : Around} {E : Value → Shared → Prop} {s : Shared}
/-- one pair is put -/
theorem put_ok {d : Addr} {l : List (κ × Value)} {k : κ} {x v : Value} {Q : Unit → Shared → Prop} (hx : kn.is k x = true) (hd : s.heap.DictOf kn d l) (hl : l.length ≤ sizeLine)
    (q : ∀ h2, h2.DictOf kn d (stored l k v) → Heap.SameBut d s.heap h2 → Q () { s with heap := h2 }) : wpAny (model P w) A (dictPut d (kn.hash k) x v) Q E s := by
  obtain ⟨o, es, ep, g1, g2, g3, g4, g5, g6⟩ := hd
  have l5 := g5.length
  have hz : es.size ≤ sizeLine := by rw [Array.length_toList] at l5; omega
  have fi : (es.findIdx? fun e => kn.is k e.key) = l.findIdx? fun kv => decide (kv.1 = k) := (fi_list es _).symm.trans (g5.findIdx k)
  unfold dictPut
  refine wpAny_bind (wpAny_dictFind_of hx g1 g3 g4 ?_)
  cases c : es.findIdx? fun e => kn.is k e.key with
  | some i =>
    rw [c] at fi
    have an := any_of_findIdx_some fi.symm
    have c2 : (es.toList.findIdx? fun e => kn.is k e.key) = some i := (fi_list es _).trans c
    have mo := g5.modify g6 c2 v
    refine wpAny_updateDict g1 g3 (q _ ⟨_, _, ep, Heap.get?_update_self _ g1 (Obj.isFreed_of_dict (Obj.data_mapDict g3 _)), g2.mapDict _, Obj.data_mapDict g3 _, g4.modify _ _, ?_, ?_⟩ (Heap.SameBut.update ..))
    · rw [stored, if_pos an]
      simpa using mo
    · rw [stored, if_pos an, keys_map_store]
      exact g6
  | none =>
    rw [c] at fi
    have nk : k ∉ l.map (·.1) := not_mem_of_findIdx_none fi.symm
    have an : ¬ (l.any fun kv => decide (kv.1 = k)) = true := fun z => by
      obtain ⟨kv, h1, h2⟩ := List.any_eq_true.mp z
      exact nk (List.mem_map.mpr ⟨kv, h1, of_decide_eq_true h2⟩)
    have ap := g5.append hx (kn.hash k) v
    refine wpAny_updateDictKeys (hz := hz) g1 g3 (q _ ⟨_, _, ep + 1, Heap.get?_update_self _ g1 (Obj.isFreed_of_dict (Obj.data_mapDictKeys g3 _)), g2.mapDictKeys _, Obj.data_mapDictKeys g3 _, g4.push hx _, ?_, ?_⟩ (Heap.SameBut.update ..))
    · rw [stored, if_neg an]
      simpa using ap
    · rw [stored, if_neg an, List.map_append]
      refine List.nodup_append.mpr ⟨g6, by simp, fun a ha b hb => ?_⟩
      obtain rfl : b = k := by simpa using hb
      exact fun z => nk (z ▸ ha)
theorem mm_ok {d o : Addr} {l r : List (κ × Value)} {Q : Unit → Shared → Prop} (ne : d ≠ o) (ns : (o == sysModules) = false) (hd : s.heap.DictOf kn d l) (ho : s.heap.DictOf kn o r) (hz : l.length + r.length ≤ sizeLine)
    (nr : ∀ k x, kn.is k x = true → ∀ a, x ≠ Value.ref a)
    (q : ∀ h2, h2.DictOf kn d (merged l r) → h2.DictOf kn o r → Heap.SameBut d s.heap h2 → Q () { s with heap := h2 }) : wpAny (model P w) A (mergeMapping d (.ref o) false) Q E s := by
  have hd0 := hd
  obtain ⟨od, es, ep, a1, a2, a3, a4, a5, a6⟩ := hd
  obtain ⟨oo, fs, fp, b1, b2, b3, b4, b5, b6⟩ := id ho
  unfold mergeMapping
  refine wpAny_bind (wpAny_isInstance ho.typeIs isSubtype_dict_dict ?_)
  rw [if_pos rfl]
  refine wpAny_bind (wpAny_specialOf ho.typeIs F.slot_dict_iter.lookup (wpAny_bind (wpAny_pure ?_)))
  simp only [beq_self_eq_true, ns, Bool.false_eq_true, if_false]
  have len : r.length = fs.size := by rw [← b5.length, Array.length_toList]
  have loop : wpAny (model P w) A (do
      let cs ← dictEntries o
      let t ← dictEpoch o
      forIn (List.range cs.size) PUnit.unit fun i (_ : PUnit) => (do
        let ds ← dictEntries o
        match ds[i]? with
        | some e => do
          holding [e.key, e.val] (dictPut d e.hash e.key e.val)
          let t2 ← dictEpoch o
          if (t2 != t) = true then do
            (unsupported "dict.changed-during-merge" : PySem.Sem PUnit)
            pure (ForInStep.yield PUnit.unit)
          else pure (ForInStep.yield PUnit.unit)
        | _ => do
          (unsupported "dict.changed-during-merge" : PySem.Sem PUnit)
          pure (ForInStep.yield PUnit.unit) : PySem.Sem (ForInStep PUnit))
      pure ()) Q E s := by
    refine wpAny_bind (wpAny_dictEntries b1 b3 (wpAny_bind (wpAny_dictEpoch b1 b3 (wpAny_bind ?_))))
    refine wpAny_forIn_list _ (fun rest _ s2 => ∃ h2 i, s2 = { s with heap := h2 } ∧ rest = (List.range fs.size).drop i ∧ i ≤ fs.size ∧ h2.DictOf kn d (merged l (r.take i)) ∧ h2.get? o = some oo ∧ Heap.SameBut d s.heap h2) _ ?_ ?_ _ _
      ⟨s.heap, 0, rfl, rfl, Nat.zero_le _, hd0, b1, Heap.SameBut.refl _ _⟩
    · rintro x rest _ s2 ⟨h2, i, rfl, er, hi, g1, g2, g3⟩
      have lt : i < fs.size := by
        refine Nat.lt_of_not_le fun z => ?_
        have z2 : ((List.range fs.size).drop i).length = 0 := by simp; omega
        rw [← er] at z2
        cases z2
      rw [List.drop_eq_getElem_cons (by simpa using lt)] at er
      simp only [List.getElem_range, List.cons.injEq] at er
      obtain ⟨rfl, er⟩ := er
      refine wpAny_bind (wpAny_dictEntries g2 b3 ?_)
      have e1 : fs[x]? = some fs[x] := Array.getElem?_eq_getElem lt
      have e2 : r[x]? = some (r[x]'(by omega)) := List.getElem?_eq_getElem _
      obtain ⟨k1, v1⟩ := b5.get? (e := fs[x]) (by simp [lt]) e2
      obtain ⟨k2, k3, k4⟩ := b4 fs[x] (Array.getElem_mem lt)
      have k5 : k2 = (r[x]'(by omega)).1 := kn.inj _ _ _ k3 k1
      rw [e1]
      dsimp only
      rw [k4, k5, v1]
      have z := merged_length_le l (r.take x)
      have z2 : (r.take x).length ≤ r.length := by rw [List.length_take]; omega
      refine wpAny_bind (wpAny_holding (put_ok k1 g1 (by omega) fun h3 f1 f2 => ?_))
      have f3 : h3.get? o = some oo := (f2.2 o (Ne.symm ne)).trans g2
      refine wpAny_bind (wpAny_dictEpoch f3 b3 ?_)
      rw [if_neg (by simp)]
      refine wpAny_pure ⟨h3, x + 1, rfl, er, lt, ?_, f3, g3.trans f2⟩
      rw [merged_take_succ l r x _ e2]
      exact f1
    · rintro _ s2 ⟨h2, i, rfl, er, hi, g1, g2, g3⟩
      have ei : i = r.length := by
        refine Nat.le_antisymm (by omega) (Nat.le_of_not_lt fun z => ?_)
        have z2 : ((List.range fs.size).drop i).length = 0 := by rw [← er]; rfl
        rw [List.length_drop, List.length_range] at z2
        omega
      rw [ei, List.take_length] at g1
      exact wpAny_pure (q h2 g1 ⟨oo, fs, fp, g2, b2, b3, b4, b5, b6⟩ g3)
  refine wpAny_bind (wpAny_dictEntries a1 a3 ?_)
  split
  · refine wpAny_bind (wpAny_dictEntries b1 b3 (wpAny_bind ?_))
    rw [← Array.forIn_toList]
    refine wpAny_forIn_list _ (fun rest _ s2 => s2 = s ∧ ∀ e ∈ rest, e ∈ fs) _ ?_ ?_ _ _ ⟨rfl, fun e he => Array.mem_toList_iff.mp he⟩
    · rintro x rest _ s2 ⟨rfl, hm⟩
      obtain ⟨k, h1, _⟩ := b4 x (hm x List.mem_cons_self)
      have h2 := nr k x.key h1
      have h3 : ∀ e ∈ rest, e ∈ fs := fun e he => hm e (List.mem_cons_of_mem _ he)
      split
      · rename_i a ea
        exact absurd ea (h2 a)
      · exact wpAny_pure ⟨rfl, h3⟩
    · rintro _ s2 ⟨rfl, _⟩
      exact loop
  · exact loop
/-- {**a, **b}: what it does -/
theorem disp2 {ta tb : PySem.Sem Value} {Q : Value → Shared → Prop}
    (h : wpAny (model P w) A ta (fun x s1 => ∃ o r, x = .ref o ∧ (o == sysModules) = false ∧ o ≠ s.heap.objs.size ∧ s1.heap.DictOf kn s.heap.objs.size [] ∧ s1.heap.DictOf kn o r ∧ r.length ≤ 1000 ∧
      ∀ h2, h2.DictOf kn s.heap.objs.size (merged [] r) → h2.DictOf kn o r → Heap.SameBut s.heap.objs.size s1.heap h2 →
      wpAny (model P w) A tb (fun y s2 => ∃ o2 r2 l2, y = .ref o2 ∧ (o2 == sysModules) = false ∧ o2 ≠ s.heap.objs.size ∧ s2.heap.DictOf kn s.heap.objs.size l2 ∧ l2.length ≤ 2000 ∧ s2.heap.DictOf kn o2 r2 ∧ r2.length ≤ 1000 ∧
        ∀ h3, h3.DictOf kn s.heap.objs.size (merged l2 r2) → Heap.SameBut s.heap.objs.size s2.heap h3 → Q (.ref s.heap.objs.size) { s2 with heap := h3 }) E { s1 with heap := h2 }) E { s with heap := s.heap.push { cls := .type "dict", data := .dict #[] } })
    (nr : ∀ k x, kn.is k x = true → ∀ a, x ≠ Value.ref a) : wpAny (model P w) A (dictDisplay [(none, ta), (none, tb)]) Q E s := by
  unfold dictDisplay
  simp only [List.isEmpty_nil, if_true, pure_bind]
  refine wpAny_bind ?_
  rw [List.forIn_cons]
  dsimp only
  refine wpAny_bind ?_
  simp only [List.isEmpty_nil, if_true, pure_bind]
  refine wpAny_bind (wpAny_alloc (wpAny_bind (wpAny_holding (wpAny_mono h (fun x s1 hx => ?_) fun _ _ e => e))))
  obtain ⟨o, r, rfl, n1, n2, d1, d2, l1, k⟩ := hx
  refine wpAny_bind (wpAny_onRaise (wpAny_tryCatch (wpAny_onRaise (wpAny_holding (mm_ok (Ne.symm n2) n1 d1 d2 (by rw [sizeLine_eq, List.length_nil]; omega) nr fun h2 f1 f2 f3 => ?_)))))
  refine wpAny_pure ?_
  dsimp only
  rw [List.forIn_cons]
  dsimp only
  refine wpAny_bind ?_
  simp only [List.isEmpty_nil, if_true, pure_bind]
  refine wpAny_bind (wpAny_holding (wpAny_mono (k h2 f1 f2 f3) (fun y s2 hy => ?_) fun _ _ e => e))
  obtain ⟨o2, r2, l2, rfl, m1, m2, e1, ml, e2, ml2, k2⟩ := hy
  refine wpAny_bind (wpAny_onRaise (wpAny_tryCatch (wpAny_onRaise (wpAny_holding (mm_ok (Ne.symm m2) m1 e1 e2 (by rw [sizeLine_eq]; omega) nr fun h3 g1 g2 g3 => ?_)))))
  refine wpAny_pure ?_
  dsimp only
  rw [List.forIn_nil]
  refine wpAny_pure ?_
  simp only [List.isEmpty_nil, if_true, pure_bind]
  exact wpAny_pure (k2 h3 g1 g3)
end
theorem key_nr {P : Program} {w : World} (k : Key) (x : Value) (h : (mixKind P w).is k x = true) (a : Addr) : x ≠ Value.ref a := by
  rcases keyIs_shape h with ⟨i, t, _, rfl⟩ | ⟨y, t, _, rfl⟩
  · exact nofun
  · exact nofun
def tMrg (ta tb : TE) : TE := fun σ H Q => ∀ p, H p = none → ta σ (upd H p (.dK [])) fun x H1 => ∃ o ks, x = .ref o ∧ Rd H1 o (.dK ks) ∧ o ≠ p ∧ H1 p = some (.dK []) ∧ ks.length ≤ 1000 ∧
  tb σ (upd H1 p (.dK (mergeK [] ks))) fun y H2 => ∃ o2 ks2, y = .ref o2 ∧ Rd H2 o2 (.dK ks2) ∧ o2 ≠ p ∧ H2 p = some (.dK (mergeK [] ks)) ∧ ks2.length ≤ 1000 ∧ Q (.ref p) (upd H2 p (.dK (mergeK (mergeK [] ks) ks2)))
theorem pe_mrg {X : Cx} {a b : Expr} {ta tb : TE} {pos : Pos} (ha : PE X a ta) (hb : PE X b tb) : PE X (.Dict [none, none] [a, b] pos) (tMrg ta tb) := by
  refine ⟨fun pins s σ H Q I q => ?_⟩
  rw [arm_eval_Dict]
  refine wpAny_bind (wpAny_standAt ?_)
  have fr := I.hok.fresh (Nat.le_refl s.heap.objs.size)
  have J := I.laid (a := s.heap.objs.size) (o := .dK []) (h' := s.heap.push { cls := .type "dict", data := .dict #[] }) (t' := s.toks) (fun _ _ z => Heap.get?_push_of_some _ z) (Nat.le_refl _) (dk_empty s.heap I.big)
  have zl : ∀ l r : List (Key × V), l.length ≤ 2000 → r.length ≤ 1000 → (mergeK l r).length ≤ sizeLine := fun l r h1 h2 => by
    have := length_mergeK r l
    rw [sizeLine_eq]; omega
  refine disp2 (kn := mixKind X.prog X.w) (wpAny_bind (thn (ha.run pins _ σ _ _ J (q _ fr)) ?_)) key_nr
  rintro v s1 ⟨x, H1, I1, rx, o, ks, rfl, rd, ne, hp, hl, q1⟩
  obtain rfl : v = Value.ref o := rx
  obtain ⟨_, lo, vs, rl, dd⟩ := dk_rd I1.hok rd
  obtain ⟨_, lp, vp, rp, dp⟩ := dk_of I1.hok hp
  cases rp
  refine wpAny_bind (wpAny_standAt (wpAny_pure ⟨o, vs, rfl, lo, ne, dp, dd, by rw [← rl.length]; exact hl, fun h2 f1 f2 f3 => ?_⟩))
  have I2 := d_write (t' := s1.toks) I1 (by rw [hp]; exact True.intro) f3 (let ⟨z, _, _, y, _⟩ := f1; ⟨z, y⟩) (dk_new (zl [] ks (by simp) hl) lp (rl.merge .nil) f1)
  refine wpAny_bind (thn (hb.run pins _ σ _ _ I2 q1) ?_)
  rintro u s2 ⟨y, H2, I3, ry, o2, ks2, rfl, rd2, ne2, hp2, hl2, q2⟩
  obtain rfl : u = Value.ref o2 := ry
  obtain ⟨_, lo2, vs2, rl2, dd2⟩ := dk_rd I3.hok rd2
  obtain ⟨_, lp2, vp2, rp2, dp2⟩ := dk_of I3.hok hp2
  have lm := length_mergeK ks []
  rw [List.length_nil] at lm
  refine wpAny_bind (wpAny_standAt (wpAny_pure ⟨o2, vs2, vp2, rfl, lo2, ne2, dp2, by rw [← rp2.length]; omega, dd2, by rw [← rl2.length]; exact hl2, fun h3 g1 g3 => ?_⟩))
  have I4 := d_write (t' := s2.toks) I3 (by rw [hp2]; exact True.intro) g3 (let ⟨z, _, _, y, _⟩ := g1; ⟨z, y⟩) (dk_new (zl (mergeK [] ks) ks2 (by omega) hl2) lp2 (rl2.merge rp2) g1)
  exact ⟨.ref s.heap.objs.size, _, I4, rfl, q2⟩
end HB
namespace HB
open PySem L2 PySem.Spec PyProof.Rows
/-! ### o != x, by an own __eq__ -/
section
variable {prog : Program} {w : World} {A : Around} {E : Value → Shared → Prop} {s : Shared} {K : PySem.W.Frag} {x C f : Addr} {ox : Obj} {od : Option Obj} {b tb : Value}
theorem ne_body {R : Fin → Shared → Prop} (hu : A.units < cLine) (XK : K.In s.heap) (J : PySem.W.InstAt s.heap x ox C od) (he : PySem.W.findIn K (.ref C) "__eq__" = some (some (.ref f))) (hf : PySem.W.isFn K (.ref f) = true)
    (h : wpAny (model prog w) A (call (.ref f) [.ref x, b]) (fun v s1 => ∃ t, v = .bool t ∧ R (.done (.ret (.bool (!t)))) s1) E s) : wpAny (model prog w) A (Builtin.«object.__ne__» ⟨[.ref x, b], []⟩) R E s := by
  unfold Builtin.«object.__ne__»
  refine wpAny_bind (wpAny_of_eq (a := ((Value.ref x : Value), [b])) (by first | rfl | (simp only [slotArgs]; rfl)) ?_)
  refine wpAny_bind (wpAny_cRoomFor hu ?_)
  refine wpAny_bind (PySem.W.ifBound_K XK J he hf (wpAny_mono h ?_ fun _ _ z => z))
  rintro v s1 ⟨t, rfl, q⟩
  exact wpAny_bind (wpAny_truthy_bool (wpAny_pure q))
theorem ne_bound {args : List Value} {R : Option Value → Shared → Prop} {M : Model} (XK : K.In s.heap) (J : PySem.W.InstAt s.heap x ox C od) (hs : PySem.W.findIn K (.ref C) "__ne__" = some (some (.builtin "object.__ne__")))
    (h : wpAny M A (call (.builtin "object.__ne__") (.ref x :: args)) (fun v s1 => R (some v) s1) E s) : wpAny M A (callSpecialIfBound? (.ref x) "__ne__" args) R E s := by
  have last : wpAny M A (call (.builtin "object.__ne__") ([.ref x] ++ args) >>= fun v => pure (some v)) R E s := wpAny_bind (wpAny_mono h (fun _ _ z => wpAny_pure z) fun _ _ z => z)
  simp only [callSpecialIfBound?, bindSpecialIfBound?]
  refine wpAny_holding (wpAny_bind ?_)
  refine wpAny_bind (wpAny_bind (J.type.here ((PySem.W.looks_findIn XK hs).here ?_)))
  refine wpAny_bind (wpAny_askSetting (wpAny_ite ?_))
  split
  · refine wpAny_bind (wpAny_of_eq (PySem.F.cmp_object.ne.bind _) (wpAny_pure ?_))
    exact last
  · refine wpAny_tryCatch (wpAny_bind (wpAny_of_eq (PySem.F.cmp_object.ne.bind _) (wpAny_pure ?_)))
    exact last
theorem rc_ne {Q : Value → Shared → Prop} (hu : A.units + 1 < cLine) (XK : K.In s.heap) (J : PySem.W.InstAt s.heap x ox C od) (hm : PySem.W.mroIn K C (.type "object") = some true) (hb : PySem.W.Looks (model prog w) s.heap (typeOf b) tb) (hn : PySem.W.notFirst K C tb = true)
    (hs : PySem.W.findIn K (.ref C) "__ne__" = some (some (.builtin "object.__ne__"))) (he : PySem.W.findIn K (.ref C) "__eq__" = some (some (.ref f))) (hf : PySem.W.isFn K (.ref f) = true)
    (h : wpAny (model prog w) A.in1 (call (.ref f) [.ref x, b]) (fun v s1 => ∃ t, v = .bool t ∧ Q (.bool (!t)) s1) E s) : wpAny (model prog w) A (richCompare .NotEq (.ref x) b) Q E s := by
  have one : wpAny (model prog w) A (tryCompare (.ref x) "__ne__" b) (fun r s1 => ∃ t, r = some (.bool t) ∧ Q (.bool t) s1) E s := by
    unfold tryCompare
    refine wpAny_bind (ne_bound XK J hs (wpAny_call (codeAny_call_builtin PySem.F.cmp_object.ne.plain PySem.F.cmpEntry_ne (PySem.W.check_slot PySem.F.cmpKind_ne PySem.F.cmpSplit_ne (J.type.andThen (PySem.W.looks_mroIn XK hm)) (PySem.F.cmpArgs_ne _ _) ?_))))
    refine ne_body (A := A.in1) (by show A.units + 1 < cLine; exact hu) XK J he hf (wpAny_mono h ?_ fun _ _ z => z)
    rintro v s1 ⟨t, rfl, q⟩
    exact ⟨t, rfl, wpAny_pure ⟨_, rfl, q⟩⟩
  unfold richCompare
  simp only [oneThing_ref]
  refine wpAny_holding (wpAny_bind (wpAny_cRoomFor (by omega) ?_))
  refine wpAny_bind (J.type.here (wpAny_bind (hb.here ?_)))
  have go : wpAny (model prog w) A (tryCompare (.ref x) (cmpInfo .NotEq).2.1 b) (fun r s1 => ∃ t, r = some (.bool t) ∧ Q (.bool t) s1) E s := one
  split
  · rename_i q
    have e : PySem.W.subIn K tb (.ref C) = some false := by
      rcases Bool.or_eq_true_iff.mp hn with z | z
      · rw [beq_iff_eq.mp z] at q; simp at q
      · exact beq_iff_eq.mp z
    refine wpAny_bind ((PySem.W.looks_subIn XK e).here ?_)
    simp only [Bool.false_eq_true, if_false]
    refine wpAny_bind (wpAny_mono go ?_ fun _ _ z => z)
    rintro r s1 ⟨t, rfl, hq⟩
    exact wpAny_pure hq
  · refine wpAny_bind (wpAny_pure ?_)
    simp only [Bool.false_eq_true, if_false]
    refine wpAny_bind (wpAny_mono go ?_ fun _ _ z => z)
    rintro r s1 ⟨t, rfl, hq⟩
    exact wpAny_pure hq
end
theorem op_neO {X : Cx} {k : Nat} (hr : Room k X.A) (hgd : X.A.guards = some []) : OpR X (compareOp .NotEq) (fun x y H Q => ∃ a C dx fs f sp j t, x = V.ref a ∧ H a = some (.ins C dx fs) ∧ PySem.W.mroIn X.K C (.type "object") = some true ∧ PySem.W.findIn X.K (.ref C) "__ne__" = some (some (.builtin "object.__ne__")) ∧
    PySem.W.findIn X.K (.ref C) "__eq__" = some (some (.ref f)) ∧ PySem.W.isFn X.K (.ref f) = true ∧ FnE X f 2 sp j ∧ j + 2 ≤ k ∧ TyX X.K H y t ∧ PySem.W.notFirst X.K C t = true ∧ sp [.ref a, y] H (fun v H' => ∃ b, v = .bl b ∧ Q (.bl (!b)) H') (fun _ _ _ => False)) := by
  intro pins s σ H x y v u Q I rx ry h
  obtain ⟨a, C, dx, fs, f, sp, j, t, rfl, ea, hm, hne, hs, hf, G, hj, ty, hn, q⟩ := h
  obtain rfl : v = Value.ref a := rx
  obtain ⟨ox, od, J⟩ := ins_at I ea
  obtain ⟨P, Z, p, _⟩ := kit_of I ry ty
  refine rc_ne (by have := hr.un; omega) I.kIn J hm (Z.ty _ _ I.kIn p) hn hne hs hf (wpAny_mono (runGA (W := WN) (A' := X.A.in1) G (room1 hr hj) hgd rfl takesN I (show Vals [V.ref a, y] [Value.ref a, u] from .cons rfl (.cons ry .nil)) rfl q) ?_ fun _ _ z => z)
  rintro w s' ⟨v', H', I', rv, b, rfl, q'⟩
  cases (show w = Value.bool b from rv)
  exact ⟨b, rfl, .bl (!b), H', I', rfl, q'⟩
end HB
namespace HB
open PySem L2 PySem.Spec PyProof.Rows
/-! ### list(o), o with own __iter__ and __len__, the iterator one over a tuple -/
section
variable {prog : Program} {w : World} {A : Around} {E : Value → Shared → Prop} {s : Shared}
/-- the iterator ends, and still stands there -/
theorem next_tupE {it t : Addr} {i : Nat} {items : Array Value} {Q : Option Value → Shared → Prop} (hh : A.handled = none) (hit : s.heap.IsTupleIter it t i) (ht : s.heap.IsTuple t items) (hx : items[i]? = none)
    (hQ : ∀ h', Heap.ExtBut it s.heap h' → (∃ o, h'.get? it = some o) → Q none { s with heap := h' }) : wpAny (model prog w) A (pyNext (.ref it)) Q E s := by
  obtain ⟨o, ho, hc, hd⟩ := id hit
  obtain ⟨ol, hol, _, nl, hdl⟩ := ht
  have up : ∃ o', (s.heap.update it (Obj.mapFields (·.setIfInBounds 0 .none))).get? it = some o' := ⟨_, Heap.get?_update_self _ ho (Obj.isFreed_of_fields (Obj.data_mapFields hd _))⟩
  unfold pyNext
  refine wpAny_bind (wpAny_attempt (wpAny_callSpecial?_slot (name := Str.ofString "__next__") hit.typeIs F.slot_tuple_iterator_next (wpAny_call_entry F.slot_tuple_iterator_next hit.typeIs F.entry_tuple_iterator_next ?_ (F.args_tuple_iterator_next_1 _))))
  show wpAny _ _ (field (.ref it) 0 >>= _) _ _ s
  refine wpAny_bind (wpAny_field ho hd (x := .ref t) rfl ?_)
  show wpAny _ _ (if (Value.ref t == Value.none) = true then _ else _) _ _ s
  rw [if_neg (show ¬ ((Value.ref t == Value.none) = true) from Bool.false_ne_true)]
  show wpAny _ _ (field (.ref it) 1 >>= _) _ _ s
  refine wpAny_bind (wpAny_field ho hd (x := .int i 0) rfl ?_)
  show wpAny _ _ (seqItems? (.ref t) >>= _) _ _ s
  refine wpAny_bind (wpAny_seqItems hol hdl ?_)
  simp only [Int.toNat_natCast, hx]
  refine wpAny_bind (wpAny_rule (wpAny_bind (wpAny_setField ho hd (by simp) ?_)))
  show wpAny _ _ (newExc (.type "StopIteration") [] >>= _) _ _ _
  refine wpAny_bind ?_
  simp only [newExc, newTuple]
  refine wpAny_bind (wpAny_newObj_type ?_ (by size_fits))
  refine wpAny_bind (m := firstArgMember _ _) (wpAny_of_eq (a := Value.none) (by first | rfl | (simp only [firstArgMember]; rfl)) ?_)
  refine wpAny_newObj_type ?_ (by size_fits)
  simp only [raiseNew]
  refine wpAny_bind (wpAny_handled ?_)
  first | rw [show A.in1.handled = none from hh] | rw [hh]
  refine wpAny_bind (wpAny_pure (wpAny_throw ?_))
  refine wpAny_bind (wpAny_isInstance (T := "StopIteration") (b := true) ⟨_, Heap.get?_push_size _ rfl, rfl⟩ isSubtype_stop ?_)
  refine wpAny_pure (hQ _ (((Heap.SameBut.update ..).extBut.push _).push _) ?_)
  obtain ⟨o', e'⟩ := up
  exact ⟨o', Heap.get?_push_of_some _ (Heap.get?_push_of_some _ e')⟩
end
section
variable {X : Cx} {k : Nat} {pins : List (Addr × Obj)} {σ : L2.St}
/-- the items one after the other -/
theorem tup_loop {A1 : Around} {p it q : Addr} {vs : List V} {Rs : Result → Shared → Prop} (hh : A1.handled = none) (nq : q ≠ it) (hz : vs.length ≤ sizeLine) {H : Hp}
    (hdone : ∀ s, Inv X pins σ (upd (upd H it (ItX it)) q (.lst vs)) s → Rs (.ok (.ret .none)) s) :
    ∀ (n i : Nat) (s : Shared), vs.length - i = n → i ≤ vs.length → (∀ u o, SqT X.K (upd (upd H it u) q o) p vs) → Inv X pins σ (upd (upd H it (ItT p it i)) q (.lst (vs.take i))) s →
      codeAny (model X.prog X.w) A1 (.builtin "list.extend.loop" ⟨[.ref q, .ref it, .none], []⟩) Rs s := by
  intro n
  induction n with
  | zero =>
    intro i s hn hi hS I
    have ei : i = vs.length := by omega
    subst ei
    rw [List.take_length] at I
    refine codeAny_builtin PySem.F.entry_extend_loop ?_
    rw [Around.under_plainId PySem.F.plain_extend_loop _]
    show wpAny _ A1.in1 (pyNext (.ref it) >>= _) _ _ s
    have hit : s.heap.IsTupleIter it p vs.length := (I.hok it (ItT p it vs.length) (by rw [upd_ne (Ne.symm nq), upd_same])).1
    obtain ⟨its, rv, pl, _⟩ := I.tuple (hS _ _)
    refine wpAny_bind (next_tupE (A := A1.in1) hh hit (items := its.toArray) pl (by have := rv.length; simp; omega) fun h' eb ex => ?_)
    refine wpAny_pure (hdone _ ?_)
    have mu : Mut (upd (upd H it (ItT p it vs.length)) q (.lst vs) it) := by rw [upd_ne (Ne.symm nq), upd_same]; exact True.intro
    have I2 := I.write (x := it) (e := it) (o := ItX it) (t' := s.toks) mu (.inl rfl) (fun b o nb z => eb b o nb z) ex (itX_ok ex)
    have e : upd (upd (upd H it (ItT p it vs.length)) q (.lst vs)) it (ItX it) = upd (upd H it (ItX it)) q (.lst vs) := by
      funext b
      by_cases hb : b = it
      · subst hb; rw [upd_same, upd_ne (Ne.symm nq), upd_same]
      · by_cases hb2 : b = q
        · subst hb2; rw [upd_ne nq, upd_same, upd_same]
        · rw [upd_ne hb, upd_ne hb2, upd_ne hb, upd_ne hb2, upd_ne hb]
    rw [e] at I2
    exact I2
  | succ n ih =>
    intro i s hn hi hS I
    have hlt : i < vs.length := by omega
    refine codeAny_builtin PySem.F.entry_extend_loop ?_
    rw [Around.under_plainId PySem.F.plain_extend_loop _]
    show wpAny _ A1.in1 (pyNext (.ref it) >>= _) _ _ s
    have hit : s.heap.IsTupleIter it p i := (I.hok it (ItT p it i) (by rw [upd_ne (Ne.symm nq), upd_same])).1
    obtain ⟨its, rv, pl, _⟩ := I.tuple (hS _ _)
    obtain ⟨u, hu, ru⟩ := rv.get (show vs[i]? = some vs[i] by simp [hlt])
    refine wpAny_bind (wpAny_pyNext_tuple_item hit (items := its.toArray) pl (x := u) (by simpa using hu) fun h' st' sb => ?_)
    have mu : Mut (upd (upd H it (ItT p it i)) q (.lst (vs.take i)) it) := by rw [upd_ne (Ne.symm nq), upd_same]; exact True.intro
    have I2 := I.write (x := it) (e := it) (o := ItT p it (i + 1)) (t' := s.toks) mu (.inl rfl) (fun b o nb z => (sb.2 b nb).trans z) (let ⟨o, e, _⟩ := st'; ⟨o, e⟩) (itT_ok st')
    have e : upd (upd (upd H it (ItT p it i)) q (.lst (vs.take i))) it (ItT p it (i + 1)) = upd (upd H it (ItT p it (i + 1))) q (.lst (vs.take i)) := by
      funext b
      by_cases hb : b = it
      · subst hb; rw [upd_same, upd_ne (Ne.symm nq), upd_same]
      · by_cases hb2 : b = q
        · subst hb2; rw [upd_ne nq, upd_same, upd_same]
        · rw [upd_ne hb, upd_ne hb2, upd_ne hb, upd_ne hb2, upd_ne hb]
    rw [e] at I2
    show wpAny _ A1.in1 (updateSeq q (·.push u) >>= _) _ _ _
    obtain ⟨z, its2, kk, r2, hl, e2⟩ := I2.lstM upd_same
    have ll : its2.length = i := by rw [← r2.length, List.length_take]; omega
    refine wpAny_bind (wpAny_updateSeq e2 rfl (wpAny_pure ⟨plainId_quiet PySem.F.plain_extend_loop _, ?_⟩) (by rw [List.size_toArray]; omega) (by show (its2.toArray.push u).size ≤ sizeLine + 1; rw [Array.size_push, List.size_toArray]; omega))
    refine ih (i + 1) _ (by omega) (by omega) hS ?_
    have I3 := I2.lset (f := (·.push u)) (its' := its2 ++ [u]) (ys := vs.take i ++ [vs[i]]) (t' := s.toks) upd_same e2 (by simp) (r2.append (.cons ru .nil)) (by rw [List.length_append, List.length_take, List.length_singleton]; omega)
    rw [upd_upd] at I3
    rw [List.take_succ, show vs[i]? = some vs[i] by simp [hlt]]
    exact I3
theorem sq_off {K : PySem.W.Frag} {H : Hp} {p a : Addr} {vs : List V} {o u : HO} (h : SqT K H p vs) (ha : H a = some o) (ne : ∀ xs, o ≠ .tup xs) (nf : ∀ z xs, o ≠ .frz z (.tup xs)) : SqT K (upd H a u) p vs := by
  rcases h with h | h
  · left
    have np : p ≠ a := by
      rintro rfl
      rcases h with h | ⟨z, h⟩
      · rw [ha] at h; exact ne _ (Option.some.inj h)
      · rw [ha] at h; exact nf _ _ (Option.some.inj h)
    rcases h with h | ⟨z, h⟩
    · exact .inl (by rw [upd_ne np]; exact h)
    · exact .inr ⟨z, by rw [upd_ne np]; exact h⟩
  · exact .inr h
/-- run, nothing is raised -/
theorem runG0 {A' : Around} {f : Addr} {np j : Nat} {sp : Sp} {H : Hp} {s : Shared} {Q : VK} {us : List Value} {vs : List V} (G : FnE X f np sp j) (hr : Room j A') (hg : A'.guards = some []) (hf : A'.frames = X.A.frames)
    (I : Inv X pins σ H s) (r : Vals vs us) (hl : vs.length = np) (h : sp vs H Q (fun _ _ _ => False)) : wpAny (model X.prog X.w) A' (call (.ref f) us) (EP X pins σ Q) (fun _ _ => False) s := by
  obtain ⟨fd, ps, dvs, ds, sp0, G, hb, hv, hp, to⟩ := G
  have e0 : Env0 X.prog X.w X.K X.mg X.base A' X.stack s H := { I.env0 with frames := hf.trans I.env0.frames }
  have r2 : Vals (vs ++ dvs) (us ++ ds) := r.append hv
  have b := hb s us I.kIn (by rw [← r2.length, List.length_append, hl]; exact hp)
  have go := G A' X.stack s H ⟨us, []⟩ (us ++ ds) (vs ++ dvs) Q _ hr hg e0 b r2 (by rw [List.length_append, hl]; exact hp) (to _ _ _ _ hl h)
  refine wpAny_call (codeAny_mono go ?_)
  rintro (e | fl) s2 hq
  · obtain ⟨_, _, _, _, _, _, _, _, _, _, _, _, no⟩ := (show L2.CX X.prog X.w X.stack H s (fun _ _ _ => False) e s2 from hq)
    exact no.elim
  · cases fl
    case ret u => exact I.after hq
    all_goals exact hq.elim
/-- what list(o) asks -/
def rListO (X : Cx) (k : Nat) : List V → Hp → VK → Prop := fun xs H Q => ∃ a, xs = [V.ref a] ∧ ∀ q, H q = none → ∃ C dx fs fi fl spi spl ji jl, upd H q (.lst []) a = some (.ins C dx fs) ∧
  PySem.W.findIn X.K (.ref C) "__iter__" = some (some (.ref fi)) ∧ PySem.W.isFn X.K (.ref fi) = true ∧ FnE X fi 1 spi ji ∧ ji + 2 ≤ k ∧ PySem.W.findIn X.K (.ref C) "__len__" = some (some (.ref fl)) ∧ PySem.W.isFn X.K (.ref fl) = true ∧ FnE X fl 1 spl jl ∧ jl + 2 ≤ k ∧
  spi [.ref a] (upd H q (.lst [])) (fun v H1 => ∃ it p0, v = .ref it ∧ H1 a = some (.ins C dx fs) ∧ H1 it = some (ItT p0 it 0) ∧
    spl [.ref a] H1 (fun v H2 => ∃ (n : Nat) (p : Addr) (vs : List V), v = .int (n : Int) ∧ n ≤ 16777216 ∧ H2 q = some (.lst []) ∧ H2 it = some (ItT p it 0) ∧ SqT X.K H2 p vs ∧ vs.length ≤ sizeLine ∧ Q (.ref q) (upd (upd H2 it (ItX it)) q (.lst vs))) (fun _ _ _ => False)) (fun _ _ _ => False)
theorem call_listO (hc : X.calm = true) (hr : Room k X.A) (hgd : X.A.guards = some []) : CallR X (.type "list") (rListO X k) := by
  intro pins s σ H xs us Q I rv h
  obtain ⟨a, rfl, hq⟩ := h
  obtain ⟨u, rfl, ru⟩ := vals1 rv
  obtain rfl : u = Value.ref a := ru
  refine callType_codes (Q₁ := fun obj s₁ => obj = .ref s.heap.objs.size ∧ s₁ = { s with heap := s.heap.push { cls := .type "list", data := .seq #[] } }) PySem.F.called_list (PySem.F.typeCall_list_1 _) PySem.F.entry_list_init
    (code_list_new _ ⟨rfl, rfl⟩) fun obj s₁ h₁ => ?_
  obtain ⟨rfl, rfl⟩ := h₁
  have hS : (s.heap.push { cls := .type "list", data := .seq #[] }).get? s.heap.objs.size = some { cls := .type "list", data := .seq #[] } := Heap.get?_push_size _ rfl
  refine ⟨⟨_, hS, rfl⟩, PySem.F.args_list_init_2 _ _, ?_⟩
  have fr : H s.heap.objs.size = none := I.hok.fresh (Nat.le_refl _)
  obtain ⟨C, dx, fs, fi, fl, spi, spl, ji, jl, ha, it1, it2, Gi, hji, ln1, ln2, Gl, hjl, hsp⟩ := hq _ fr
  have I1 : Inv X pins σ (upd H s.heap.objs.size (.lst [])) { s with heap := s.heap.push { cls := .type "list", data := .seq #[] } } := I.lnew (its := []) (t' := s.toks) .nil (Nat.zero_le _)
  show wpAny _ _ (do let old ← Builtin.List.listItems (.ref s.heap.objs.size); Builtin.List.listUpdate (.ref s.heap.objs.size) (fun _ => #[]); letGo old.toList.reverse; Builtin.List.listExtendWith (.ref s.heap.objs.size) (.ref a) .none) _ _ _
  refine wpAny_bind ?_
  unfold Builtin.List.listItems
  refine wpAny_bind (wpAny_seqItems hS rfl (wpAny_pure ?_))
  show wpAny _ _ (updateSeq s.heap.objs.size (fun _ => #[]) >>= fun _ => letGo (#[] : Array Value).toList.reverse >>= fun _ => Builtin.List.listExtendWith (.ref s.heap.objs.size) (.ref a) .none) _ _ _
  refine wpAny_bind (wpAny_updateSeq hS rfl ?_)
  have I2 := I1.lset (f := fun _ => #[]) (its := []) (its' := []) (ys := []) (t' := s.toks) upd_same hS rfl .nil (Nat.zero_le _)
  rw [upd_upd] at I2
  refine wpAny_bind (wpAny_letGo ?_)
  -- the items
  generalize hQq : s.heap.objs.size = q at ha hsp I2 fr ⊢
  clear hS I1
  have nqa : q ≠ a := by
    rintro rfl
    rw [upd_same] at ha
    cases ha
  obtain ⟨ox, od, J⟩ := ins_at I2 ha
  obtain ⟨m0, hF⟩ := I2.fr
  unfold Builtin.List.listExtendWith
  refine wpAny_bind (J.type.here ?_)
  have h1 : Builtin.List.listSameRef (.ref q) (.ref a) = false := by simp [Builtin.List.listSameRef, nqa]
  have h2 : (Value.ref C == Value.type "list") = false := rfl
  have h3 : (Value.ref C == Value.type "tuple") = false := rfl
  simp only [h1, h2, h3, Bool.or_false, Bool.false_eq_true, if_false]
  refine wpAny_bind (PySem.W.owit_iter hF I2.ok.mod.kin J it1 it2 (wpAny_mono (runGA (W := WN) (A' := X.A.in1.in1) Gi (room2 hr hji) hgd rfl takesN I2 (show Vals [V.ref a] [Value.ref a] from .cons rfl .nil) rfl hsp) ?_ fun _ _ z => z))
  rintro u s1 ⟨v, H1, I3, rv, it, p0, rfl, ha1, hit, hsp1⟩
  obtain rfl : u = Value.ref it := rv
  have hitT : s1.heap.IsTupleIter it p0 0 := (I3.hok it _ hit).1
  refine wpAny_specialOf hitT.typeIs F.slot_tuple_iterator_next.lookup ?_
  refine wpAny_bind (wpAny_holding ?_)
  -- the length
  obtain ⟨ox1, od1, J1⟩ := ins_at I3 ha1
  obtain ⟨m1, hF1⟩ := I3.fr
  unfold Builtin.List.listLengthHint
  refine wpAny_bind (wpAny_bind (J1.type.here ((PySem.W.looks_findIn I3.kIn ln1).here ?_)))
  refine PySem.W.KFB.if_not rfl ?_
  refine PySem.W.KFB.if_so rfl ?_
  refine wpAny_bind (wpAny_rule ?_)
  refine wpAny_bind (wpAny_attempt ?_)
  have rm : Room jl X.A.in1.in1.in1 := ⟨hr.hd, by have := hr.dp; show X.A.depth + 3 * jl + 5 < _; omega, by have := hr.un; show X.A.units + 1 + 1 + 1 + 16 * jl + 200 < _; omega⟩
  refine PySem.W.len_K hF1 I3.ok.mod.kin J1 ln1 ln2 (wpAny_mono (runG0 (A' := X.A.in1.in1.in1) Gl rm hgd rfl I3 (show Vals [V.ref a] [Value.ref a] from .cons rfl .nil) rfl hsp1) ?_ fun e s' z => z.elim)
  rintro u s2 ⟨v, H2, I4, rv, n, p, vs, rfl, hn, hq2, hit2, hsq, hz, qq⟩
  obtain ⟨t, rfl⟩ := (show ∃ t, u = Value.int (n : Int) t from rv)
  refine ⟨⟨by omega, by omega⟩, ?_⟩
  refine wpAny_bind (wpAny_of_eq (a := some (n : Int)) (by first | rfl | kernel_rfl!) ?_)
  refine PySem.W.KFB.if_not (by unfold Builtin.List.listTooLong; rw [sizeLine_eq]; simp; omega) ?_
  refine wpAny_pure ?_
  have I5 := I4.tok (s2.toks + 1)
  have nqi : q ≠ it := by
    rintro rfl
    rw [hq2] at hit2
    cases hit2
  have hS : ∀ u o, SqT X.K (upd (upd H2 it u) q o) p vs := fun u o => by
    refine sq_off (o := .lst []) (sq_off hsq hit2 (fun _ z => nomatch z) (fun _ _ z => nomatch z)) ?_ (fun _ z => nomatch z) (fun _ _ z => nomatch z)
    rw [upd_ne nqi]; exact hq2
  have hH : upd (upd H2 it (ItT p it 0)) q (.lst ([] : List V)) = H2 := by
    funext b
    by_cases hb : b = q
    · rw [hb, upd_same, hq2]
    · rw [upd_ne hb]
      by_cases hb2 : b = it
      · rw [hb2, upd_same, hit2]
      · rw [upd_ne hb2]
  have loop : ∀ s', Inv X pins σ H2 s' → codeAny (model X.prog X.w) X.A.in1 (.builtin "list.extend.loop" ⟨[.ref q, .ref it, .none], []⟩) (wants (fun r s₂ => r = .none ∧ EP X pins σ Q (.ref q) s₂) X.xe) s' := fun s' I' =>
    tup_loop (A1 := X.A.in1) (p := p) (it := it) (q := q) (vs := vs) (H := H2) (I.ok.hd hc) nqi hz (fun s I => ⟨rfl, .ref q, _, I, rfl, qq⟩) vs.length 0 s' (by omega) (Nat.zero_le _) hS (by rw [List.take_zero, hH]; exact I')
  obtain ⟨z, its, kk, r3, hl3, e3⟩ := I5.lstM hq2
  cases r3
  refine wpAny_ite_split (fun _ => ?_) (fun _ => wpAny_pure ⟨plainId_quiet PySem.F.plain_extend_loop _, loop _ I5⟩)
  refine wpAny_bind (wpAny_rule ?_)
  refine wpAny_bind ?_
  show wpAny _ _ (updateSeq q (·.push .none) >>= fun _ => updateSeq q (·.pop)) _ _ _
  refine wpAny_bind (wpAny_updateSeq e3 rfl ?_)
  have I6 := I5.lset (f := (·.push Value.none)) (its' := [Value.none]) (ys := [.non]) (t' := s2.toks + 1) hq2 e3 (by simp) (.cons rfl .nil) (by rw [List.length_singleton, sizeLine_eq]; decide)
  obtain ⟨z4, its4, k4, r4, hl4, e4⟩ := I6.lstM upd_same
  obtain ⟨u4, rfl, ru4⟩ := r4.one
  refine wpAny_updateSeq e4 rfl ?_ (by show 1 ≤ sizeLine; rw [sizeLine_eq]; decide) (by show 0 ≤ sizeLine + 1; exact Nat.zero_le _)
  refine wpAny_pure ⟨plainId_quiet PySem.F.plain_extend_loop _, loop _ ?_⟩
  have I7 := I6.lset (f := (·.pop)) (its := [u4]) (its' := []) (ys := []) (t' := s2.toks + 1) upd_same e4 (by rfl) .nil (Nat.zero_le _)
  rw [upd_upd] at I7
  have hH2 : upd H2 q (.lst []) = H2 := by
    funext b
    by_cases hb : b = q
    · rw [hb, upd_same, hq2]
    · rw [upd_ne hb]
  rw [hH2] at I7
  exact I7
end
end HB
namespace HB
open PySem L2 PySem.Spec PyProof.Rows
/-! ### list(d.items()), list(d.values()), the dict locked or not -/
theorem kv_vals {kvs : List (Key × V)} {vs : List (Key × Value)} (h : KV kvs vs) : Vals (kvs.map (·.2)) (vs.map (·.2)) := by
  induction h with
  | nil => exact .nil
  | cons h t ih => exact .cons h.2 ih
section
variable {X : Cx} {e : Expr} {te : TE} {p apos cpos pos : Pos}
def rItemsR : V → Hp → VK → Prop := fun x H Q => ∃ (d : Addr) (kvs : List (Key × V)), x = .ref d ∧ Rd H d (.dK kvs) ∧
  ∀ (H' : Hp) (p : Addr) (ts : List Addr), (∀ b o, H b = some o → H' b = some o) → H p = none → (∀ t ∈ ts, H t = none) → p ∉ ts → H' p = some (.lst (ts.map V.ref)) → Paired (fun (t : Addr) (q : Key × V) => H' t = some (.tup [kV q.1, q.2])) ts kvs → Q (.ref p) H'
theorem pe_listItemsR (hc : X.calm = true) (he : PE X e te) (hg : Gl X "list") (hm : X.mg "list" = none) (hv : bootBuiltins "list" = some (.type "list")) (hbase : attributeBase e "items" X.env (eval e X.env) = eval e X.env) (hline : (apos.endLine == cpos.line) = true) :
    PE X (.Call (.Name "list" p) [.Call (.Attribute e "items" apos) [] [] cpos] [] pos) (fun σ H Q => te σ H fun x H1 => rItemsR x H1 Q) := by
  refine ⟨fun pins s σ H Q I hq => ?_⟩
  have hs : starEach [.Call (.Attribute e "items" apos) [] [] cpos] X.env = (false, eval (.Call (.Attribute e "items" apos) [] [] cpos) X.env) :: starEach [] X.env := rfl
  refine wpAny_Call_Name_kw (ld_blt I hg hm hv ?_)
  refine PyProof.Rows.callWith_type1 ?_ hs rfl
  rw [hs]
  show wpAny _ _ (spliced ((false, eval (.Call (.Attribute e "items" apos) [] [] cpos) X.env) :: backTo pos (starEach [] X.env))) _ _ s
  refine Calls.spliced_cons ?_
  refine wpAny_Call_method (T := "dict") (id := "dict.items") hbase rfl hline F.plainAttrs_dict F.slot_dict_items F.type_dict_items (thn (he.run pins s σ H _ I hq) fun u s1 ⟨x, H1, I1, rx, d, kvs, ex, hd, q⟩ => ?_)
  subst ex
  obtain rfl : u = Value.ref d := rx
  obtain ⟨hz, hs0, vs, kv, hdo⟩ := dk_rd I1.hok hd
  obtain ⟨ep, hat⟩ := hdo.dictAt
  have lk : kvs.length = vs.length := Paired.length kv
  have I2 : Inv X pins σ H1 { s1 with heap := s1.heap.push { cls := .type "dict_items", data := .fields #[.ref d] } } := I1.kept (t' := s1.toks) fun b ob q => Heap.get?_push_of_some _ q
  refine ⟨hdo.typeIs, hdo.mapOf.noDict, ?_⟩
  show wpAny _ _ (callWith cpos (.builtin "dict.items") [.ref d] [] []) _ X.xe s1
  refine method_meetsIn F.slot_dict_items F.entry_dict_items rfl (PySem.evalArgs_none ⟨rfl, hdo.typeIs, F.args_dict_items_1 _, _, meets_dict_items (mixKind X.prog X.w) d hs0, ⟨vs, hdo⟩, ?_⟩)
  refine Calls.spliced_nil ?_
  refine PySem.W.kdx_call (knd := mixKind X.prog X.w) (kvs := vs) (ep := ep) (I1.ok.hd hc) ⟨_, Heap.get?_push_size _ rfl, rfl, rfl⟩ (hat.push _) (by omega) fun h' tk acc c as hk hS hl hG hacc => ?_
  obtain ⟨H', k1, k2, k3, k4, k5, k6, J⟩ := LiI.items_laid (tk := tk) I2 hz kv hk hS hl hG hacc
  exact ⟨.ref _, H', J, rfl, q H' _ as k1 k2 k3 k4 k5 k6⟩
def rValsR : V → Hp → VK → Prop := fun x H Q => ∃ (d : Addr) (kvs : List (Key × V)), x = .ref d ∧ Rd H d (.dK kvs) ∧ ∀ p, H p = none → Q (.ref p) (upd H p (.lst (kvs.map (·.2))))
theorem pe_listValsR (hc : X.calm = true) (he : PE X e te) (hg : Gl X "list") (hm : X.mg "list" = none) (hv : bootBuiltins "list" = some (.type "list")) (hbase : attributeBase e "values" X.env (eval e X.env) = eval e X.env) (hline : (apos.endLine == cpos.line) = true) :
    PE X (.Call (.Name "list" p) [.Call (.Attribute e "values" apos) [] [] cpos] [] pos) (fun σ H Q => te σ H fun x H1 => rValsR x H1 Q) := by
  refine ⟨fun pins s σ H Q I hq => ?_⟩
  have hs : starEach [.Call (.Attribute e "values" apos) [] [] cpos] X.env = (false, eval (.Call (.Attribute e "values" apos) [] [] cpos) X.env) :: starEach [] X.env := rfl
  refine wpAny_Call_Name_kw (ld_blt I hg hm hv ?_)
  refine PyProof.Rows.callWith_type1 ?_ hs rfl
  rw [hs]
  show wpAny _ _ (spliced ((false, eval (.Call (.Attribute e "values" apos) [] [] cpos) X.env) :: backTo pos (starEach [] X.env))) _ _ s
  refine Calls.spliced_cons ?_
  refine wpAny_Call_method (T := "dict") (id := "dict.values") hbase rfl hline F.plainAttrs_dict F.slot_dict_values F.type_dict_values (thn (he.run pins s σ H _ I hq) fun u s1 ⟨x, H1, I1, rx, d, kvs, ex, hd, q⟩ => ?_)
  subst ex
  obtain rfl : u = Value.ref d := rx
  obtain ⟨hz, hs0, vs, kv, hdo⟩ := dk_rd I1.hok hd
  obtain ⟨ep, hat⟩ := hdo.dictAt
  have lk : kvs.length = vs.length := Paired.length kv
  have I2 : Inv X pins σ H1 { s1 with heap := s1.heap.push { cls := .type "dict_values", data := .fields #[.ref d] } } := I1.kept (t' := s1.toks) fun b ob q => Heap.get?_push_of_some _ q
  refine ⟨hdo.typeIs, hdo.mapOf.noDict, ?_⟩
  show wpAny _ _ (callWith cpos (.builtin "dict.values") [.ref d] [] []) _ X.xe s1
  refine method_meetsIn F.slot_dict_values F.entry_dict_values rfl (PySem.evalArgs_none ⟨rfl, hdo.typeIs, F.args_dict_values_1 _, _, meets_dict_values (mixKind X.prog X.w) d hs0, ⟨vs, hdo⟩, ?_⟩)
  refine Calls.spliced_nil ?_
  refine PySem.W.kdl_call (PySem.W.kdl_values (knd := mixKind X.prog X.w) (kvs := vs) (ep := ep) (r := s1.heap.objs.size) (d := d)) (I1.ok.hd hc) ⟨⟨_, Heap.get?_push_size _ rfl, rfl, rfl⟩, hat.push _⟩ (by omega) fun h' tk acc c hk hS hi => ?_
  have e : acc.toList = vs.map (·.2) := PySem.W.kdl_vals_eq acc.toList (by rw [Array.length_toList]; exact hi.1) fun j v hj => hi.2 j v (by rw [← Array.getElem?_toList]; exact hj)
  refine ⟨.ref _, _, I2.laid (t' := tk) hk (Nat.le_refl _) (show ObjOk X.prog X.w _ _ _ (.lst (kvs.map (·.2))) from ⟨by rw [List.length_map]; omega, acc.toList, c, ?_, ?_⟩), rfl, q _ (I2.hok.fresh (Nat.le_refl _))⟩
  · rw [e]
    exact kv_vals kv
  · rw [Array.toArray_toList]; exact hS
end
end HB
namespace HB
open PySem L2

/-! ### the text without places -/
inductive BOp where
  | add | sub | mul | fdiv | mod | pow
inductive COp where
  | eq | ne | lt | le | gt | ge | isN | notN | inn | notIn
inductive BF where
  | abs | max | min | sum | int | str | len | all | any | tuple | list | listM | repr | sorted | dict | dictM | iterM
/-- what is walked and is no value here -/
inductive IK where
  | vals | zip | enum
inductive G where
  | name (i : Nat) | tup (gs : G) | nil | cons (g gs : G)
/-- a call whose arguments are all made ahead -/
inductive Pr where
  | xnew (n f : Str) (fl : Bool) | xnew0 (n : Str) | strx (tbl : List (Str × Nat)) | lenO (tbl : List (Str × Nat)) | onew (c : Str) (j : Nat) | onewD (c : Str) (j : Nat) (d : Int) | lstO (ti tl : List (Str × Nat))
/-- what is asked of a receiver -/
inductive Mr where
  | litems | lvals | fldx (f : Str) (cs : List Str) | isx (c : Str) (tbl : List (Str × Bool)) | get2 | lrng | lstr | ofld (f : Str) (cs : List Str) | ometh (y : Str) (tbl : List (Str × Nat)) | oprop (y : Str) (tbl : List (Str × Nat)) | isO (c : Str) (cs : List Str)
/-- operators that an own class answers -/
inductive OB where
  | inO | notInO | eqO | neO | ixO | addO | subO
inductive T where
  | prm (p : Pr) (es : T) | mth (p : Mr) (a es : T) | dcte (es : T) | dmrg (a b : T) | iter (k : IK) (es : T) | obin (o : OB) (tbl : List (Str × Nat)) (a b : T) | onewK (c : Str) (j : Nat) (es e : T) | fmt (a : T) | fstr (es : T) | dc (own : List (Str × Nat)) (g : G) (it k v : T)
  | var (i : Nat) | non | bl (b : Bool) | int (i : Int) | str (x : Str) | gint (x : Str) (i : Int)
  | bin (o : BOp) (a b : T) | neg (a : T) | cmp (o : COp) (a b : T) | chain (o p : COp) (a b c : T)
  | and (a b : T) | or (a b : T) | not (a : T) | ite (c a b : T)
  | tup (es : T) | lst (es : T) | lstM (es : T) | nil | cons (a es : T)
  | ix (a b : T) | sl (a lo hi : T) | noP
  | call (j : Nat) (es : T) | blt (b : BF) (es : T) | isi (a : T) (c : String) | join (a b : T) | popAt (a b : T)
  | dct0 | dctI (k v : Int)
  | rng1 (a : T) | rng2 (a b : T) | lc (own : List (Str × Nat)) (g : G) (it c e : T)
def bopD : BOp → D → D → M → R D
  | .add => addD | .sub => subD | .mul => mulD | .fdiv => fdivD | .mod => modD | .pow => powD
def bopO : BOp → Operator
  | .add => .Add | .sub => .Sub | .mul => .Mult | .fdiv => .FloorDiv | .mod => .Mod | .pow => .Pow
def copD : COp → D → D → M → R D
  | .eq => eqD | .ne => neD | .lt => ltD | .le => leD | .gt => gtD | .ge => geD | .isN => isND | .notN => notND | .inn => inD | .notIn => notInD
def copO : COp → CmpOp
  | .eq => .Eq | .ne => .NotEq | .lt => .Lt | .le => .LtE | .gt => .Gt | .ge => .GtE | .isN => .Is | .notN => .IsNot | .inn => .In | .notIn => .NotIn
def bfD : BF → List D → M → R D
  | .abs => absD | .max => maxD | .min => minD | .sum => sumD | .int => intD | .str => strD | .len => lenD | .all => allD | .any => anyD | .tuple => tupleD | .list => listD | .listM => listMD | .repr => reprD | .sorted => sortedD | .dict => dictD | .dictM => dictMD | .iterM => iterD
def bfX : BF → Str
  | .abs => "abs" | .max => "max" | .min => "min" | .sum => "sum" | .int => "int" | .str => "str" | .len => "len" | .all => "all" | .any => "any" | .tuple => "tuple" | .list => "list" | .listM => "list" | .repr => "repr" | .sorted => "sorted" | .dict => "dict" | .dictM => "dict" | .iterM => "iter"
def bfV : BF → Value
  | .abs => .builtin "abs" | .max => .builtin "max" | .min => .builtin "min" | .sum => .builtin "sum" | .int => .type "int" | .str => .type "str" | .len => .builtin "len" | .all => .builtin "all" | .any => .builtin "any"
  | .tuple => .type "tuple" | .list => .type "list" | .listM => .type "list" | .repr => .builtin "repr" | .sorted => .builtin "sorted" | .dict => .type "dict" | .dictM => .type "dict" | .iterM => .builtin "iter"
/-- names of the built-ins that the text may use -/
def bltAll : List Str := ["abs", "max", "min", "sum", "int", "str", "len", "all", "any", "tuple", "list", "repr", "isinstance", "bool", "dict", "range", "zip", "enumerate", "sorted", "set", "reversed", "iter", "next", "super"]

/-! ### targets -/
mutual
def asgG : G → D → Env → Option Env
  | .name i, d, env => some (env.set i (some d))
  | .tup gs, .tup ds, env => asgGs gs ds env
  | _, _, _ => none
def asgGs : G → List D → Env → Option Env
  | .nil, [], env => some env
  | .cons g gs, d :: ds, env => match asgG g d env with
    | some env2 => asgGs gs ds env2
    | none => none
  | _, _, _ => none
end
def gSlots : G → List Nat
  | .name i => [i]
  | .tup gs => gSlots gs
  | .nil => []
  | .cons g gs => gSlots g ++ gSlots gs
/-! ### what is walked -/
def viewI (d : D) (m : M) : Option (List D) := match d with
  | .tup ds => some ds
  | .lst ds => some ds
  | .scr ns => some (ns.map D.int)
  | .str x => some (x.cps.toList.map fun c => D.str ⟨#[c]⟩)
  | .dct kvs => (keysOf kvs).map keysL
  | _ => none
def rngD (ds : List D) (m : M) : R D := match ds with
  | [.int j] => if -(2 ^ 62) ≤ j ∧ j < 2 ^ 62 then .ok (.lst ((List.range j.toNat).map fun (i : Nat) => D.int (i : Int))) m else .no
  | [.int i, .int j] => if -(2 ^ 62) ≤ i ∧ i < 2 ^ 62 ∧ -(2 ^ 62) ≤ j ∧ j < 2 ^ 62 then .ok (.lst ((List.range (j - i).toNat).map fun (n : Nat) => D.int (i + (n : Int)))) m else .no
  | _ => .no
def ixD (d e : D) (m : M) : R D := match viewD d m with
  | some es => match keyOf e with
    | some k => match findK es k with
      | some v => .ok v m
      | none => .no
    | none => .no
  | none => match e with
  | .int i => match d with
    | .str x => if x.length ≤ sizeLine then
        match atI x.cps.toList i with
        | some c => .ok (.str ⟨#[c]⟩) m
        | none => .no
      else .no
    | d => match viewQ d m with
      | some ds => match atI ds i with
        | some e => .ok e m
        | none => .no
      | none => .no
  | _ => .no
def cutD (xs : List D) (lo hi : Option Int) : List D := (xs.drop (HT.sIx xs.length 0 lo)).take (HT.sIx xs.length xs.length hi - HT.sIx xs.length 0 lo)
def slD (d : D) (lo hi : Option Int) (m : M) : R D := match d with
  | .str x => if x.length ≤ sizeLine then .ok (.str (cutS x lo hi)) m else .no
  | .tup ds => .ok (.tup (cutD ds lo hi)) m
  | d => match viewS d m with
    | some ds => .ok (.lst (cutD ds lo hi)) m
    | none => .no
def joinD (d e : D) (m : M) : R D := match d with
  | .str a => match (viewQ e m).bind asStrs with
    | some ys => if (ys.map (·.length)).sum + ys.length * a.length ≤ 16777216 then .ok (.str (Txt.join a ys)) m else .no
    | none => .no
  | _ => .no
def popAtD (d e : D) (m : M) : R D := match d, e with
  | .ref k, .int i => match m[k]? with
    | some (.lst ds) => if -(2 ^ 63) ≤ i ∧ i < 2 ^ 63 then
        match seqIndex? i ds.length with
        | some j => match ds[j]? with
          | some y => .ok y (m.set k (.lst (ds.eraseIdx j)))
          | none => .no
        | none => .no
      else .no
    | _ => .no
  | _, _ => .no
def isiD (d : D) (c : String) (m : M) : R D := match tyD d m with
  | some t => match kitB t c with
    | some b => .ok (.bl b) m
    | none => .no
  | none => .no
/-- the new list of a comprehension -/
def lcGo (step : D → M → R (Option D)) : List D → List D → M → R (List D)
  | [], acc, m => .ok acc m
  | x :: xs, acc, m => match step x m with
    | .ok (some y) m => lcGo step xs (acc ++ [y]) m
    | .ok none m => lcGo step xs acc m
    | _ => .no
/-- the new dict of a comprehension -/
def dcGo (step : D → M → R (Key × D)) : List D → List (Key × D) → M → R (List (Key × D))
  | [], acc, m => .ok acc m
  | x :: xs, acc, m => match step x m with
    | .ok y m => dcGo step xs (putD acc y.1 y.2) m
    | _ => .no
/-- a part of an f-string -/
def fmtD (d : D) (m : M) : R D := match d with
  | .str y => if y.length ≤ sizeLine then .ok (.str y) m else .no
  | .int i => if i.natAbs.log2 < 1920 then .ok (.str (toString i)) m else .no
  | _ => .no
def keyR (r : R D) : R Key := r.bind fun d m => match keyOf d with
  | some k => .ok k m
  | none => .no
def partD (r : R D) (m : M) : R (Option Int) := match r with
  | .ok (.int i) m => .ok (some i) m
  | .ok _ _ => .no
  | .ex c m => .ex c m
  | .no => .no
def isNoP : T → Bool
  | .noP => true
  | _ => false
def pvD : Bool → D → Bool
  | false, _ => true
  | true, .str y => decide (y.length ≤ 1000000)
  | true, .int i => decide (i.natAbs.log2 < 1920)
  | true, _ => false
def strR (r : R D) : R D := match r with
  | .ok (.str x) m => .ok (.str x) m
  | _ => .no
def noEx (r : R D) : R D := match r with
  | .ok d m => .ok d m
  | _ => .no
def lenR (r : R D) : R D := match r with
  | .ok (.int i) m => if 0 ≤ i ∧ i < 2 ^ 62 then .ok (.int i) m else .no
  | _ => .no
def blO (neg : Bool) (r : R D) : R D := match r with
  | .ok (.bl b) m => .ok (.bl (neg ^^ b)) m
  | _ => .no
/-- the own def of a class, by its table -/
def semO (fs : List Sem) (tbl : List (Str × Nat)) (c : Str) : Option Sem := (tbl.lookup c).bind fun j => fs[j]?
def tyO (tbl : List (Str × Nat)) (d : D) (m : M) : Bool := match d with
  | .obj c _ => (tbl.lookup c).isSome
  | d => (tyD d m).isSome
def obD (fs : List Sem) (tbl : List (Str × Nat)) : OB → D → D → M → R D
  | .inO, d, .obj c gs, m => match semO fs tbl c with
    | some sem => blO false (callD sem [.obj c gs, d] m)
    | none => .no
  | .notInO, d, .obj c gs, m => match semO fs tbl c with
    | some sem => blO true (callD sem [.obj c gs, d] m)
    | none => .no
  | .eqO, .obj c gs, e, m => if tyO tbl e m then match semO fs tbl c with
      | some sem => blO false (callD sem [.obj c gs, e] m)
      | none => .no
    else .no
  | .neO, .obj c gs, e, m => if tyO tbl e m then match semO fs tbl c with
      | some sem => blO true (callD sem [.obj c gs, e] m)
      | none => .no
    else .no
  | .ixO, .obj c gs, e, m => match semO fs tbl c with
    | some sem => callD sem [.obj c gs, e] m
    | none => .no
  | .addO, .obj c gs, .obj c' gs', m => if c = c' then match semO fs tbl c with
      | some sem => callD sem [.obj c gs, .obj c' gs'] m
      | none => .no
    else .no
  | .subO, .obj c gs, .obj c' gs', m => if c = c' then match semO fs tbl c with
      | some sem => callD sem [.obj c gs, .obj c' gs'] m
      | none => .no
    else .no
  | _, _, _, _ => .no
/-- an instance, frozen or our own: its class, its fields -/
def insD (d : D) (m : M) : Option (Str × List (Str × D)) := match d with
  | .obj c gs => some (c, gs)
  | .ref i => match m[i]? with
    | some (.ins c gs) => some (c, gs)
    | _ => none
  | _ => none
def prD (fs : List Sem) : Pr → List D → M → R D
  | .xnew n f fl, [d], m => if pvD fl d then .ok (.exv n [(f, d)]) m else .no
  | .xnew0 n, [_], m => .ok (.exv n []) m
  | .strx tbl, [.exv n gs], m => match tbl.lookup n with
    | some j => match fs[j]? with
      | some sem => strR (callD sem [.exv n gs] m)
      | none => .no
    | none => .no
  | .strx tbl, [.obj c gs], m => match semO fs tbl c with
    | some sem => strR (callD sem [.obj c gs] m)
    | none => .no
  | .lenO tbl, [.obj c gs], m => match semO fs tbl c with
    | some sem => lenR (callD sem [.obj c gs] m)
    | none => .no
  | .onew c j, ds, m => match fs[j]? with
    | some sem => mkD sem c ds m
    | none => .no
  | .lstO ti tl, [.obj c gs], m => match semO fs ti c, semO fs tl c with
    | some si, some sl => (noEx (callD si [.obj c gs] m)).bind fun d m1 => match d with
      | .ref j => match m1[j]? with
        | some (.itr _) => (noEx (callD sl [.obj c gs] m1)).bind fun e m2 => match e, m2[j]? with
          | .int n, some (.itr ds) => if 0 ≤ n ∧ n ≤ 16777216 ∧ ds.length ≤ sizeLine then .ok (.lst ds) (m2.set j .gone) else .no
          | _, _ => .no
        | _ => .no
      | _ => .no
    | _, _ => .no
  | .onewD c j d, ds, m => match fs[j]? with
    | some sem => mkD sem c (ds ++ [.int d]) m
    | none => .no
  | _, _, _ => .no
def mrG : Mr → D → M → Bool
  | .fldx _ _, _, _ => true
  | .isx _ _, _, _ => true
  | .lrng, _, _ => true
  | .lstr, _, _ => true
  | .ofld _ _, _, _ => true
  | .litems, _, _ => true
  | .lvals, _, _ => true
  | .ometh y tbl, .obj c gs, _ => (tbl.lookup c).isSome && (gs.lookup y).isNone
  | .ometh _ _, _, _ => false
  | .oprop _ _, _, _ => true
  | .isO _ _, _, _ => true
  | .get2, d, _ => isDct d
def mrD (fs : List Sem) : Mr → D → List D → M → R D
  | .fldx f cs, .exv n gs, [], m => if cs.contains n then match gs.lookup f with
      | some d => .ok d m
      | none => .no
    else .no
  | .isx _ tbl, .exv n _, [], m => match tbl.lookup n with
    | some b => .ok (.bl b) m
    | none => .no
  | .lrng, .int j, [], m => if -(2 ^ 62) ≤ j ∧ j ≤ 16777216 then .ok (.lst ((List.range j.toNat).map fun (i : Nat) => D.int (i : Int))) m else .no
  | .lstr, .str x, [], m => if x.cps.size ≤ sizeLine then .ok (.lst (x.cps.toList.map fun c => D.str ⟨#[c]⟩)) m else .no
  | .litems, d, [], m => match viewD d m with
    | some es => .ok (.lst (es.map fun p => .tup [keyD p.1, p.2])) m
    | none => .no
  | .lvals, d, [], m => match viewD d m with
    | some es => .ok (.lst (es.map (·.2))) m
    | none => .no
  | .ofld f cs, d, [], m => match insD d m with
    | some (c, gs) => if cs.contains c then match gs.lookup f with
        | some v => .ok v m
        | none => .no
      else .no
    | none => .no
  | .ometh _ tbl, .obj c gs, ds, m => match semO fs tbl c with
    | some sem => callD sem (.obj c gs :: ds) m
    | none => .no
  | .oprop _ tbl, .obj c gs, [], m => match semO fs tbl c with
    | some sem => noEx (callD sem [.obj c gs] m)
    | none => .no
  | .isO c cs, .obj c' _, [], m => if cs.contains c' then .ok (.bl (decide (c' = c))) m else .no
  | .isO c cs, d, [], m => match tyD d m with
    | some _ => if cs.contains c then .ok (.bl false) m else .no
    | none => .no
  | .get2, .dct kvs, [k, v], m => match keyOf k, keysOf kvs with
    | some k, some es => .ok ((findK es k).getD v) m
    | _, _ => .no
  | _, _, _, _ => .no
/-- the pairs of a dict display -/
def pairsD : List D → Option (List (Key × D))
  | [] => some []
  | k :: v :: r => match keyOf k, pairsD r with
    | some k, some r => some ((k, v) :: r)
    | _, _ => none
  | _ => none
def dcteD (ds : List D) (m : M) : R D := match pairsD ds with
  | some kvs => .ok (dctOf (mrgD kvs)) m
  | none => .no
def zipD : List D → List D → List D
  | x :: xs, y :: ys => .tup [x, y] :: zipD xs ys
  | _, _ => []
def enumD (n : Nat) : List D → List D
  | [] => []
  | x :: xs => .tup [.int (n : Int), x] :: enumD (n + 1) xs
def itD : IK → List D → M → R D
  | .vals, [.dct kvs], m => match keysOf kvs with
    | some es => .ok (.lst (es.map (·.2))) m
    | none => .no
  | .zip, [.tup xs, .tup ys], m => .ok (.lst (zipD xs ys)) m
  | .zip, [.lst xs, .lst ys], m => .ok (.lst (zipD xs ys)) m
  | .enum, [.lst xs], m => .ok (.lst (enumD 0 xs)) m
  | _, _, _ => .no
mutual
def evE (fs : List Sem) : T → Env → M → R D
  | .iter k es, env, m => (evA fs es env m).bind fun ds m => itD k ds m
  | .obin o tbl a b, env, m => (evE fs a env m).bind fun d m => (evE fs b env m).bind fun e m => obD fs tbl o d e m
  | .onewK c j es e, env, m => (evA fs es env m).bind fun ds m => (evE fs e env m).bind fun d m => match fs[j]? with
    | some sem => mkD sem c (ds ++ [d]) m
    | none => .no
  | .fmt a, env, m => (evE fs a env m).bind fun d m => fmtD d m
  | .fstr es, env, m => evJ fs es Str.empty env m
  | .dc own g it k v, env, m => (evE fs it env m).bind fun d m => match viewI d m with
    | some xs => if xs.length ≤ sizeLine then
        (dcGo (fun x m => match asgG g x (wipeD env (own.map (·.2))) with
          | some env2 => (keyR (evE fs k env2 m)).bind fun kk m => (evE fs v env2 m).bind fun y m => .ok (kk, y) m
          | none => .no) xs [] m).bind fun ys m => .ok (dctOf ys) m
      else .no
    | none => .no
  | .prm p es, env, m => (evA fs es env m).bind fun ds m => prD fs p ds m
  | .mth p a es, env, m => (evE fs a env m).bind fun d m => if mrG p d m then (evA fs es env m).bind fun ds m => mrD fs p d ds m else .no
  | .dcte es, env, m => (evA fs es env m).bind fun ds m => dcteD ds m
  | .dmrg a b, env, m => (evE fs a env m).bind fun d m => match viewD d m with
    | some es => if es.length ≤ 1000 then (evE fs b env m).bind fun e m => match viewD e m with
        | some gs => if gs.length ≤ 1000 then .ok (dctOf (gs.foldl (fun acc kv => putD acc kv.1 kv.2) (mrgD es))) m else .no
        | none => .no
      else .no
    | none => .no
  | .var i, env, m => match env[i]? with
    | some (some d) => .ok d m
    | _ => .no
  | .non, _, m => .ok .non m
  | .bl b, _, m => .ok (.bl b) m
  | .int i, _, m => .ok (.int i) m
  | .str x, _, m => .ok (.str x) m
  | .gint _ i, _, m => .ok (.int i) m
  | .bin o a b, env, m => (evE fs a env m).bind fun d m => (evE fs b env m).bind fun e m => bopD o d e m
  | .neg a, env, m => (evE fs a env m).bind fun d m => match d with
    | .int i => .ok (.int (-i)) m
    | _ => .no
  | .cmp o a b, env, m => (evE fs a env m).bind fun d m => (evE fs b env m).bind fun e m => copD o d e m
  | .chain o p a b c, env, m => (evE fs a env m).bind fun d m => (evE fs b env m).bind fun e m => (copD o d e m).bind fun t m => match t with
    | .bl true => (evE fs c env m).bind fun g m => copD p e g m
    | .bl false => .ok (.bl false) m
    | _ => .no
  | .and a b, env, m => (evE fs a env m).bind fun d m => (truthB d m).bind fun t m => if t then evE fs b env m else .ok d m
  | .or a b, env, m => (evE fs a env m).bind fun d m => (truthB d m).bind fun t m => if t then .ok d m else evE fs b env m
  | .not a, env, m => (evE fs a env m).bind fun d m => (truthB d m).bind fun t m => .ok (.bl (!t)) m
  | .ite c a b, env, m => (evE fs c env m).bind fun d m => (truthB d m).bind fun t m => if t then evE fs a env m else evE fs b env m
  | .tup es, env, m => (evA fs es env m).bind fun ds m => if ds.length ≤ sizeLine then .ok (.tup ds) m else .no
  | .lst es, env, m => (evA fs es env m).bind fun ds m => if ds.length ≤ sizeLine then .ok (.lst ds) m else .no
  | .lstM es, env, m => (evA fs es env m).bind fun ds m => if ds.length ≤ sizeLine then .ok (.ref m.length) (m ++ [.lst ds]) else .no
  | .nil, _, _ => .no
  | .cons _ _, _, _ => .no
  | .ix a b, env, m => (evE fs a env m).bind fun d m => (evE fs b env m).bind fun e m => ixD d e m
  | .sl a lo hi, env, m => (evE fs a env m).bind fun d m => (if isNoP lo then R.ok none m else partD (evE fs lo env m) m).bind fun l m => (if isNoP hi then R.ok none m else partD (evE fs hi env m) m).bind fun h m => slD d l h m
  | .noP, _, _ => .no
  | .call j es, env, m => (evA fs es env m).bind fun ds m => match fs[j]? with
    | some sem => callD sem ds m
    | none => .no
  | .blt b es, env, m => (evA fs es env m).bind fun ds m => bfD b ds m
  | .isi a c, env, m => (evE fs a env m).bind fun d m => isiD d c m
  | .join a b, env, m => (evE fs a env m).bind fun d m => match d with
    | .str x => (evE fs b env m).bind fun e m => joinD (.str x) e m
    | _ => .no
  | .popAt a b, env, m => (evE fs a env m).bind fun d m => match d with
    | .ref k => match m[k]? with
      | some (.lst _) => (evE fs b env m).bind fun e m => popAtD (.ref k) e m
      | _ => .no
    | _ => .no
  | .dct0, _, m => .ok (.dct []) m
  | .dctI k v, _, m => .ok (.dct [(.int k, .int v)]) m
  | .rng1 a, env, m => (evE fs a env m).bind fun d m => rngD [d] m
  | .rng2 a b, env, m => (evE fs a env m).bind fun d m => (evE fs b env m).bind fun e m => rngD [d, e] m
  | .lc own g it c e, env, m => (evE fs it env m).bind fun d m => match viewI d m with
    | some xs => if xs.length ≤ sizeLine then
        (lcGo (fun x m => match asgG g x (wipeD env (own.map (·.2))) with
          | some env2 => (if isNoP c then R.ok true m else (evE fs c env2 m).bind truthB).bind fun t m => if t then (evE fs e env2 m).bind fun y m => .ok (some y) m else .ok none m
          | none => .no) xs [] m).bind fun ys m => .ok (.lst ys) m
      else .no
    | none => .no
/-- the texts of an f-string one behind the other -/
def evJ (fs : List Sem) : T → Str → Env → M → R D
  | .nil, acc, _, m => .ok (.str acc) m
  | .cons a es, acc, env, m => (evE fs a env m).bind fun d m => match d with
    | .str y => if (acc ++ y).length ≤ sizeLine then evJ fs es (acc ++ y) env m else .no
    | _ => .no
  | _, _, _, _ => .no
def evA (fs : List Sem) : T → Env → M → R (List D)
  | .nil, _, m => .ok [] m
  | .cons a es, env, m => (evE fs a env m).bind fun d m => (evA fs es env m).bind fun ds m => .ok (d :: ds) m
  | _, _, _ => .no
end
def evT (fs : List Sem) (e : T) (env : Env) (m : M) : R Bool := (evE fs e env m).bind truthB

/-! ### does the text stand there -/
/-- the tables of a program: whole numbers, errors with a field, who is whose kin -/
structure Tb where
  gints : List (Str × Int) := []
  xcs : List (Str × Str × Bool) := []
  xsub : List (Str × Str × Bool) := []
  xc0 : List Str := []
  xis : List (Str × Str × Bool) := []
  ocl : List (Str × List Str) := []
structure Ck where
  N : List Str
  sc : Scope
  raw : Option Scope
  fns : List (Str × Nat)
  mths : List (Str × Str × Nat)
  prps : List (Str × Str)
  mkrs : List (Str × Nat × Option (Str × Int))
  tb : Tb
def visB (sc : Scope) (x : Str) : Bool := match sc.names.lookup x with
  | some .local => true
  | some .cell => true
  | some .free => true
  | _ => false
def okN (x : Str) : Bool := !(x == ("__debug__" : Str)) && !(x == ("__classdict__" : Str)) && decide (x ≠ "__name__")
def glB (sc : Scope) (x : Str) : Bool := decide (sc.names.lookup x = some .globalImplicit) && okN x
def plainB : Expr → Bool
  | .Starred _ _ => false
  | _ => true
def noSliceB : Expr → Bool
  | .Slice _ _ _ _ => false
  | _ => true
def noCall0 : Expr → Bool
  | .Call (.Name _ _) [] [] _ => false
  | _ => true
def noSet : Expr → Bool
  | .Set _ _ _ => false
  | _ => true
def locB (C : Ck) (x : Str) : Bool := match C.sc.names.lookup x with
  | some .local => true
  | some .cell => match C.raw with
    | none => true
    | some s => decide (s.names.lookup x = some .cell)
  | _ => false
mutual
def chkG (C : Ck) : G → Expr → Bool
  | .name i, .Name x _ => decide (C.N[i]? = some x) && locB C x
  | .tup gs, .Tuple es _ _ => chkGs C gs es
  | _, _ => false
def chkGs (C : Ck) : G → List Expr → Bool
  | .nil, [] => true
  | .cons g gs, e :: es => plainB e && chkG C g e && chkGs C gs es
  | _, _ => false
end
def hasCl (C : Ck) (c : Str) : Bool := C.tb.ocl.any fun r => decide (r.1 = c)
def hasFld (C : Ck) (c f : Str) : Bool := C.tb.ocl.any fun r => decide (r.1 = c) && r.2.contains f
/-- the table's entries are methods y with n arguments -/
def mthB (C : Ck) (y : Str) (n : Nat) (tbl : List (Str × Nat)) : Bool := tbl.all fun r => decide (C.fns.length ≤ r.2) && decide (C.mths[r.2 - C.fns.length]? = some (r.1, y, n)) && hasCl C r.1
def prpB (C : Ck) (y : Str) (tbl : List (Str × Nat)) : Bool := tbl.all fun r => decide (C.fns.length + C.mths.length ≤ r.2) && decide (C.prps[r.2 - (C.fns.length + C.mths.length)]? = some (r.1, y)) && hasCl C r.1
def mkrB (C : Ck) (c : Str) (n : Nat) (kw : Option (Str × Int)) (j : Nat) : Bool := decide (C.fns.length + C.mths.length + C.prps.length ≤ j) && decide (C.mkrs[j - (C.fns.length + C.mths.length + C.prps.length)]? = some (c, n, kw)) && hasCl C c
def prC (C : Ck) : Pr → Expr → Option (List Expr)
  | .lenO tbl, .Call (.Name x _) [p] [] _ => if decide (x = "len") && glB C.sc x && plainB p && mthB C "__len__" 1 tbl then some [p] else none
  | .lstO ti tl, .Call (.Name x _) [p] [] _ => if decide (x = "list") && glB C.sc x && plainB p && mthB C "__iter__" 1 ti && mthB C "__len__" 1 tl then some [p] else none
  | .onew c j, .Call (.Name x _) (p :: ps) [] _ => if decide (x = c) && glB C.sc x && (p :: ps).all plainB && mkrB C c (p :: ps).length none j then some (p :: ps) else none
  | .onewD c j d, .Call (.Name x _) (p :: ps) [] _ => if decide (x = c) && glB C.sc x && (p :: ps).all plainB && C.mkrs.any (fun r => match r.2.2 with
      | some (_, e) => decide (e = d) && mkrB C c (p :: ps).length r.2.2 j
      | none => false) then some (p :: ps) else none
  | .xnew n f fl, .Call (.Name x _) [p] [] _ => if decide (x = n) && glB C.sc x && plainB p && C.tb.xcs.contains (n, f, fl) then some [p] else none
  | .xnew0 n, .Call (.Name x _) [p] [] _ => if decide (x = n) && glB C.sc x && plainB p && C.tb.xc0.contains n then some [p] else none
  | .strx tbl, .Call (.Name x _) [p] [] _ => if decide (x = "str") && glB C.sc x && plainB p && tbl.all (fun r => decide (C.fns.length ≤ r.2) && decide (C.mths[r.2 - C.fns.length]? = some (r.1, ("__str__" : Str), 1))) then some [p] else none
  | _, _ => none
def mrC (C : Ck) : Mr → Expr → Option (Expr × List Expr)
  | .ofld f cs, .Attribute p g _ => if decide (g = f) && noCall0 p && cs.all (fun c => hasFld C c f) then some (p, []) else none
  | .oprop y tbl, .Attribute p g _ => if decide (g = y) && noCall0 p && prpB C y tbl then some (p, []) else none
  | .ometh y tbl, .Call (.Attribute p g ap) ps [] pos => if decide (g = y) && noCall0 p && ps.all plainB && decide (ps.length < 20) && (ap.endLine == pos.line) && mthB C y (ps.length + 1) tbl then some (p, ps) else none
  | .isO c cs, .Call (.Name x _) [p, .Name y _] [] _ => if decide (x = "isinstance") && glB C.sc x && plainB p && glB C.sc y && decide (y = c) && cs.all (fun c => hasCl C c) && hasCl C c && cs.contains c then some (p, []) else none
  | .fldx f cs, .Attribute p g _ => if decide (g = f) && noCall0 p && cs.all (fun c => C.tb.xcs.contains (c, f, false) || C.tb.xcs.contains (c, f, true)) then some (p, []) else none
  | .isx c tbl, .Call (.Name x _) [p, .Name y _] [] _ => if decide (x = "isinstance") && glB C.sc x && plainB p && glB C.sc y && decide (y = c) && tbl.all (fun r => C.tb.xis.contains (r.1, c, r.2)) then some (p, []) else none
  | .lrng, .Call (.Name x _) [.Call (.Name y _) [p] [] _] [] _ => if decide (x = "list") && glB C.sc x && decide (y = "range") && glB C.sc y && plainB p then some (p, []) else none
  | .litems, .Call (.Name x _) [.Call (.Attribute p y ap) [] [] cp] [] _ => if decide (x = "list") && glB C.sc x && decide (y = "items") && noCall0 p && (ap.endLine == cp.line) then some (p, []) else none
  | .lvals, .Call (.Name x _) [.Call (.Attribute p y ap) [] [] cp] [] _ => if decide (x = "list") && glB C.sc x && decide (y = "values") && noCall0 p && (ap.endLine == cp.line) then some (p, []) else none
  | .lstr, .Call (.Name x _) [p] [] _ => if decide (x = "list") && glB C.sc x && plainB p then some (p, []) else none
  | .get2, .Call (.Attribute p x ap) [q, r] [] pos => if decide (x = "get") && noCall0 p && plainB q && plainB r && (ap.endLine == pos.line) then some (p, [q, r]) else none
  | _, _ => none
def isTupE : Expr → Bool
  | .Tuple _ _ _ => true
  | _ => false
def itC (C : Ck) (tg : Expr) : IK → Expr → Option (List Expr)
  | .vals, .Call (.Attribute p x ap) [] [] pos => if decide (x = "values") && noCall0 p && (ap.endLine == pos.line) then some [p] else none
  | .zip, .Call (.Name x _) [p, q] [] _ => if decide (x = "zip") && glB C.sc x && plainB p && plainB q && isTupE tg then some [p, q] else none
  | .enum, .Call (.Name x _) [p] [] _ => if decide (x = "enumerate") && glB C.sc x && plainB p && isTupE tg then some [p] else none
  | _, _ => none
def flatPairs : List (Option Expr) → List Expr → Option (List Expr)
  | [], [] => some []
  | some k :: ks, v :: vs => (flatPairs ks vs).map fun r => k :: v :: r
  | _, _ => none
def clsNames : List String := ["int", "bool", "str", "tuple", "list", "dict"]
mutual
def chk (C : Ck) : T → Expr → Bool
  | .prm p es, e => match prC C p e with
    | some ps => chkA C es ps
    | none => false
  | .mth p a es, e => match mrC C p e with
    | some (q, ps) => chk C a q && chkA C es ps
    | none => false
  | .obin o tbl a b, e => (match o, e with
    | .inO, .Compare p [.In] [r] _ => !(behindInMarks .In r) && chk C a p && chk C b r && mthB C "__contains__" 2 tbl
    | .notInO, .Compare p [.NotIn] [r] _ => !(behindInMarks .NotIn r) && chk C a p && chk C b r && mthB C "__contains__" 2 tbl
    | .eqO, .Compare p [.Eq] [r] _ => !(behindInMarks .Eq r) && chk C a p && chk C b r && mthB C "__eq__" 2 tbl
    | .neO, .Compare p [.NotEq] [r] _ => !(behindInMarks .NotEq r) && chk C a p && chk C b r && mthB C "__eq__" 2 tbl
    | .ixO, .Subscript p q _ => noSliceB q && chk C a p && chk C b q && mthB C "__getitem__" 2 tbl
    | .addO, .BinOp p .Add r _ => chk C a p && chk C b r && mthB C "__add__" 2 tbl
    | .subO, .BinOp p .Sub r _ => chk C a p && chk C b r && mthB C "__sub__" 2 tbl
    | _, _ => false)
  | .onewK c j es e, .Call (.Name x _) (p :: ps) [⟨some kw, q, _⟩] _ => decide (x = c) && glB C.sc x && chkA C es (p :: ps) && chk C e q && C.mkrs.any (fun r => match r.2.2 with
      | some (kk, _) => decide (kk = kw) && mkrB C c (p :: ps).length r.2.2 j
      | none => false)
  | .fmt a, .FormattedValue p (-1) none _ => chk C a p
  | .fstr es, .JoinedStr ps _ => decide (2 ≤ ps.length) && chkA C es ps
  | .dc own g it k v, .DictComp kx vx [⟨tg, iter, ifs, asy⟩] scope _ => decide (asy = 0) && (match it, iter with
        | .rng1 a, .Call (.Name x _) [p] [] _ => decide (x = "range") && glB C.sc x && plainB p && chk C a p
        | .rng2 a b, .Call (.Name x _) [p, q] [] _ => decide (x = "range") && glB C.sc x && plainB p && plainB q && chk C a p && chk C b q
        | .iter k es, p => (match itC C tg k p with
          | some ps => chkA C es ps
          | none => false)
        | a, p => chk C a p) && noSet iter && blkC C.N C.sc scope own && chkG { C with sc := relS scope C.sc, raw := some scope } g tg && (gSlots g).all (fun i => (own.map (·.2)).contains i) && ifs.isEmpty && chk { C with sc := relS scope C.sc, raw := some scope } k kx &&
      chk { C with sc := relS scope C.sc, raw := some scope } v vx
  | .dmrg a b, .Dict [none, none] [p, q] _ => chk C a p && chk C b q
  | .dcte es, .Dict ks vs _ => match flatPairs ks vs with
    | some ps => decide (ks ≠ []) && decide (ks.length ≤ 15) && chkA C es ps
    | none => false
  | .var i, .Name x _ => decide (C.N[i]? = some x) && visB C.sc x && okN x
  | .non, .Constant .none _ _ => true
  | .bl b, .Constant (.bool c) _ _ => b == c
  | .int i, .Constant (.int j) _ _ => i == j
  | .str x, .Constant (.str y) _ _ => decide (x = y)
  | .gint x i, .Name y _ => decide (x = y) && glB C.sc y && decide ((x, i) ∈ C.tb.gints)
  | .bin o a b, .BinOp p q r _ => decide (q = bopO o) && chk C a p && chk C b r
  | .neg a, .UnaryOp .USub p _ => chk C a p
  | .not a, .UnaryOp .Not p _ => chk C a p
  | .cmp o a b, .Compare p [q] [r] _ => decide (q = copO o) && !(behindInMarks q r) && chk C a p && chk C b r
  | .chain o o2 a b c, .Compare p [q, q2] [r, r2] _ => decide (q = copO o) && decide (q2 = copO o2) && !(behindInMarks q2 r2) && chk C a p && chk C b r && chk C c r2
  | .and a b, .BoolOp .And (p :: q :: rest) pos => chk C a p && (if rest.isEmpty then chk C b q else chk C b (.BoolOp .And (q :: rest) pos))
  | .or a b, .BoolOp .Or (p :: q :: rest) pos => chk C a p && (if rest.isEmpty then chk C b q else chk C b (.BoolOp .Or (q :: rest) pos))
  | .ite c a b, .IfExp p q r _ => chk C c p && chk C a q && chk C b r
  | .tup es, .Tuple ps _ _ => chkA C es ps
  | .lst es, .List ps _ => chkA C es ps
  | .lstM es, .List ps _ => chkA C es ps
  | .ix a b, .Subscript p q _ => noSliceB q && chk C a p && chk C b q
  | .sl a lo hi, .Subscript p (.Slice l h none _) _ => chk C a p && (match l with
        | none => isNoP lo
        | some q => !isNoP lo && chk C lo q) && (match h with
        | none => isNoP hi
        | some q => !isNoP hi && chk C hi q)
  | .call j es, .Call (.Name x _) ps [] _ => decide (C.fns[j]? = some (x, ps.length)) && glB C.sc x && chkA C es ps
  | .blt b es, .Call (.Name x _) (p :: ps) [] _ => decide (x = bfX b) && glB C.sc x && chkA C es (p :: ps)
  | .isi a c, .Call (.Name x _) [p, .Name y _] [] _ => decide (x = "isinstance") && glB C.sc x && plainB p && glB C.sc y && decide (y = Str.ofString c) && decide (c ∈ clsNames) && chk C a p
  | .join a b, .Call (.Attribute p x ap) [q] [] pos => decide (x = "join") && noCall0 p && plainB q && (ap.endLine == pos.line) && chk C a p && chk C b q
  | .popAt a b, .Call (.Attribute p x ap) [q] [] pos => decide (x = "pop") && noCall0 p && plainB q && (ap.endLine == pos.line) && chk C a p && chk C b q
  | .dct0, .Dict [] [] _ => true
  | .dctI k v, .Dict [some (.Constant (.int i) _ _)] [.Constant (.int j) _ _] _ => decide (k = i) && decide (v = j)
  | .lc own g it c e, .ListComp elt [⟨tg, iter, ifs, asy⟩] scope _ => decide (asy = 0) && (match it, iter with
        | .rng1 a, .Call (.Name x _) [p] [] _ => decide (x = "range") && glB C.sc x && plainB p && chk C a p
        | .rng2 a b, .Call (.Name x _) [p, q] [] _ => decide (x = "range") && glB C.sc x && plainB p && plainB q && chk C a p && chk C b q
        | .iter k es, p => (match itC C tg k p with
          | some ps => chkA C es ps
          | none => false)
        | a, p => chk C a p) && noSet iter && blkC C.N C.sc scope own && chkG { C with sc := relS scope C.sc, raw := some scope } g tg && (gSlots g).all (fun i => (own.map (·.2)).contains i) &&
      (match ifs with
        | [] => isNoP c
        | [q] => !isNoP c && chk { C with sc := relS scope C.sc, raw := some scope } c q
        | _ => false) && chk { C with sc := relS scope C.sc, raw := some scope } e elt
  | _, _ => false
def chkA (C : Ck) : T → List Expr → Bool
  | .nil, [] => true
  | .cons a es, p :: ps => plainB p && chk C a p && chkA C es ps
  | _, _ => false
end
def chkI (C : Ck) (tg : Expr) (it : T) (iter : Expr) : Bool := match it, iter with
  | .rng1 a, .Call (.Name x _) [p] [] _ => decide (x = "range") && glB C.sc x && plainB p && chk C a p
  | .rng2 a b, .Call (.Name x _) [p, q] [] _ => decide (x = "range") && glB C.sc x && plainB p && plainB q && chk C a p && chk C b q
  | .iter k es, p => (match itC C tg k p with
    | some ps => chkA C es ps
    | none => false)
  | a, p => chk C a p
end HB
namespace HB
open PySem L2

/-! ### what stands around -/
def Callee (P : Program) (w : World) (K : PySem.W.Frag) (mg : Str → Option Value) (base : Heap) (k : Nat) (x : Str) (n : Nat) (sem : Sem) : Prop :=
  ∃ (f : Addr) (fd : FuncData) (ps : List Str), mg x = some (.ref f) ∧ PySem.W.keepIn K (.ref f) = true ∧ Binds K fd ps [] ∧ ps.length = n ∧ FnG P w K mg base k f fd ps (spD K mg n sem)
/-- a method of an own class -/
def Mth (P : Program) (w : World) (K : PySem.W.Frag) (mg : Str → Option Value) (base : Heap) (k : Nat) (c y : Str) (n : Nat) (sem : Sem) : Prop :=
  ∃ (C f : Addr) (j : Nat), mg c = some (.ref C) ∧ PySem.W.findIn K (.ref C) y = some (some (.ref f)) ∧ PySem.W.isFn K (.ref f) = true ∧ PySem.W.keepIn K (.ref f) = true ∧ PySem.W.fnIn K f = true ∧ j + 2 ≤ k ∧ FnE0 P w K mg base f n (spD K mg n sem) j
/-- a property of an own class -/
def Prp (P : Program) (w : World) (K : PySem.W.Frag) (mg : Str → Option Value) (base : Heap) (k : Nat) (c y : Str) (sem : Sem) : Prop :=
  ∃ (C p f : Addr) (fd : FuncData) (ps : List Str) (j : Nat), mg c = some (.ref C) ∧ PropOf K C y p f ∧ Binds K fd ps [] ∧ ps.length = 1 ∧ j + 2 ≤ k ∧ FnG P w K mg base j f fd ps (spD K mg 1 sem)
/-- an own class called -/
def Mkr (P : Program) (w : World) (K : PySem.W.Frag) (mg : Str → Option Value) (base : Heap) (k : Nat) (c : Str) (n : Nat) (kw : Option (Str × Int)) (sem : Sem) : Prop :=
  ∃ (C f : Addr) (fd : FuncData) (ps : List Str) (j : Nat), mg c = some (.ref C) ∧ (c == ("__debug__" : Str)) = false ∧ Mk K C f ∧ j + 2 ≤ k ∧ (match kw with
    | none => Binds K fd ps [] ∧ ps.length = n + 1 ∧ FnG P w K mg base j f fd ps (spD K mg (n + 1) sem)
    | some (x, d) => ps.length = n + 2 ∧ FnG P w K mg base j f fd ps (spD K mg (n + 2) sem) ∧ (∃ g, KBn K fd ps (n + 1) [x] g (fun vs zs => vs ++ zs)) ∧ ∃ g, KBn K fd ps (n + 1) [] g (fun vs _ => vs ++ [V.int d]))
/-- what an own class says -/
structure OCl (K : PySem.W.Frag) (C : Addr) : Prop where
  cl : Cls K C
  ha : PySem.W.findIn K (.ref C) "__class__" = some (some (.builtin "object.__class__"))
  hn : PySem.W.specialIn K (.builtin "object.__class__") "__get__" = some (some (.builtin "getset_descriptor.__get__"))
  ht : PySem.W.takesIn K (.builtin "object.__class__") = some true
  hm : PySem.W.mroIn K C (.type "object") = some true
  ne : PySem.W.findIn K (.ref C) "__ne__" = some (some (.builtin "object.__ne__"))
  sf : PySem.W.selfFirst K C = true
  ty : ∀ t ∈ (["NoneType", "bool", "int", "str", "tuple", "list", "dict"] : List String), PySem.W.kitOne K (.type t) (.ref C) = some false ∧ PySem.W.notFirst K C (.type t) = true
/-- the tables are right -/
structure TbOk (P : Program) (w : World) (K : PySem.W.Frag) (mg : Str → Option Value) (tb : Tb) : Prop where
  gi : ∀ x i, (x, i) ∈ tb.gints → ∃ t, mg x = some (.int i t)
  xok : ∀ x f fl, (x, f, fl) ∈ tb.xcs → XOk P w K mg x f fl
  xsb : ∀ r x b, (r, x, b) ∈ tb.xsub → ∃ A B, mg r = some (.ref A) ∧ mg x = some (.ref B) ∧ PySem.W.exmOne K (.ref A) (.ref B) = some b
  xo0 : ∀ x ∈ tb.xc0, XOk0 K mg x
  xis : ∀ r c b, (r, c, b) ∈ tb.xis → ∃ A, mg r = some (.ref A) ∧ XCl K A ∧ ((∃ B, mg c = some (.ref B) ∧ PySem.W.kitOne K (.ref A) (.ref B) = some b) ∨ ∃ z, mg c = none ∧ bootBuiltins c = some (.type z) ∧ PySem.W.kitOne K (.ref A) (.type z) = some b)
  sup : mg "super" = none
  ocl : ∀ c fs, (c, fs) ∈ tb.ocl → ∃ C, mg c = some (.ref C) ∧ OCl K C ∧ ∀ f ∈ fs, NoAttr K C f
  okn : ∀ c fs c' fs', (c, fs) ∈ tb.ocl → (c', fs') ∈ tb.ocl → ∀ C C', mg c = some (.ref C) → mg c' = some (.ref C') → PySem.W.kitOne K (.ref C) (.ref C') = some (decide (c = c')) ∧ PySem.W.notFirst K C (.ref C') = true
structure GdE (X : Cx) (W : WX) (C : Ck) (fs : List Sem) (k : Nat) : Prop where
  N : X.N = C.N
  sc : X.env.scope = C.sc
  fn : ∀ x, (match C.raw with
    | none => True
    | some s => s.names.lookup x = some .cell) → X.fn x = true
  nd : X.N.Nodup
  calm : X.calm = true
  room : Room k X.A
  gd : X.A.guards = some []
  tk : Takes X W
  fl : C.fns.length ≤ fs.length
  fl4 : C.fns.length + C.mths.length + C.prps.length + C.mkrs.length ≤ fs.length
  fok : ∀ (j : Nat) x n sem, C.fns[j]? = some (x, n) → fs[j]? = some sem → Callee X.prog X.w X.K X.mg X.base k x n sem
  mok : ∀ (j : Nat) c y n sem, C.mths[j]? = some (c, y, n) → fs[C.fns.length + j]? = some sem → Mth X.prog X.w X.K X.mg X.base k c y n sem
  pok : ∀ (j : Nat) c y sem, C.prps[j]? = some (c, y) → fs[C.fns.length + C.mths.length + j]? = some sem → Prp X.prog X.w X.K X.mg X.base k c y sem
  cok : ∀ (j : Nat) c n kw sem, C.mkrs[j]? = some (c, n, kw) → fs[C.fns.length + C.mths.length + C.prps.length + j]? = some sem → Mkr X.prog X.w X.K X.mg X.base k c n kw sem
  tb : TbOk X.prog X.w X.K X.mg C.tb
  bs : ∃ o, X.base.get? sysModules = some o
  nob : ∀ x ∈ bltAll, X.mg x = none
theorem RdE.of0 {K : PySem.W.Frag} {mg : Str → Option Value} {W : WX} {σ : L2.St} {rho : List Addr} {F H : Hp} {Q : VK} {r : R D} (h : RdE K mg W σ (relD K mg) rho F H Q r) (n : ∀ c m, r ≠ .ex c m) : RdO K mg rho F H Q r := by
  cases r with
  | ok d m => exact h
  | ex c m => exact absurd rfl (n c m)
  | no => exact h
section
variable {X : Cx} {W : WX}
/-! ### the single steps -/
theorem step_var {i : Nat} {se : SE} (hse : ∀ env m, se env m = match env[i]? with
    | some (some d) => .ok d m
    | _ => .no) : ∀ σ H Q, tE X W se σ H Q → tVar i σ H Q := by
  rintro σ H Q ⟨rho, F, env, m, A, En, h⟩
  rw [hse] at h
  split at h
  · rename_i d e
    obtain ⟨v, hv, r⟩ := En.2 i d e
    exact ⟨v, hv, h v _ _ _ Step.refl A r⟩
  · exact h.elim
theorem step_c {v : V} {d : D} {se : SE} (hse : ∀ env m, se env m = .ok d m) (hr : ∀ rho F, Rp X.K X.mg rho F v d) : ∀ σ H Q, tE X W se σ H Q → tC v σ H Q := by
  rintro σ H Q ⟨rho, F, env, m, A, En, h⟩
  rw [hse] at h
  exact h v _ _ _ Step.refl A (hr rho F)
/-- two operands, then an operator by data that raises nothing -/
theorem step_op {f : Value → Value → PySem.Sem Value} {g : D → D → M → R D} {sa sb : SE} {r : R2} (hr : r = fun x y H Q => ∃ rho F m d e, Abs X.K X.mg rho F H m ∧ Rp X.K X.mg rho F x d ∧ Rp X.K X.mg rho F y e ∧ RdO X.K X.mg rho F H Q (g d e m))
    (nx : ∀ d e m c m', g d e m ≠ .ex c m') :
    ∀ σ H Q, tE X W (fun env m => (sa env m).bind fun d m => (sb env m).bind fun e m => g d e m) σ H Q → tOp r (tE X W sa) (tE X W sb) σ H Q := by
  rintro σ H Q ⟨rho, F, env, m, A, En, h⟩
  refine ⟨rho, F, env, m, A, En, RdE.bind h fun d m1 v r1 F1 H1 s1 A1 q1 h1 => ?_⟩
  refine ⟨r1, F1, env, m1, A1, En.mono s1.onto, RdE.bind h1 fun e m2 u r2 F2 H2 s2 A2 q2 h2 => ?_⟩
  rw [hr]
  exact ⟨r2, F2, m2, d, e, A2, q1.mono s2.onto, q2, h2.of0 fun c m' => nx d e m2 c m'⟩
/-- one operand -/
theorem step_un {g : D → M → R D} {sa : SE} {r : V → Hp → VK → Prop} (hr : ∀ rho F H m d x Q, Abs X.K X.mg rho F H m → Rp X.K X.mg rho F x d → RdE X.K X.mg W [] (relD X.K X.mg) rho F H Q (g d m) → r x H Q) (nx : ∀ d m c m', g d m ≠ .ex c m') :
    ∀ σ H Q, tE X W (fun env m => (sa env m).bind fun d m => g d m) σ H Q → tUn r (tE X W sa) σ H Q := by
  rintro σ H Q ⟨rho, F, env, m, A, En, h⟩
  refine ⟨rho, F, env, m, A, En, RdE.bind h fun d m1 v r1 F1 H1 s1 A1 q1 h1 => ?_⟩
  refine hr r1 F1 H1 m1 d v Q A1 q1 ?_
  cases e : g d m1 with
  | ok d m => rw [e] at h1; exact h1
  | ex c m => exact absurd e (nx _ _ _ _)
  | no => rw [e] at h1; exact h1
theorem truth_m {d : D} {m m' : M} {b : Bool} (h : truthB d m = .ok b m') : m' = m := by
  unfold truthB at h
  split at h
  · cases h; rfl
  · cases h; rfl
  · cases h; rfl
  · split at h <;> cases h; rfl
  · split at h <;> cases h; rfl
/-- a value by its truth -/
theorem step_truth {sa : SE} : ∀ σ H Q, tT X W (fun env m => (sa env m).bind truthB) σ H Q → (tE X W sa) σ H (fun x H1 => ∃ k, TruV X.K x H1 k ∧ Q k H1) := by
  rintro σ H Q ⟨rho, F, env, m, A, En, h⟩
  refine ⟨rho, F, env, m, A, En, RdE.bind h fun d m1 v r1 F1 H1 s1 A1 q1 h1 => ?_⟩
  cases e : truthB d m1 with
  | ok b m2 =>
    rw [e] at h1
    obtain ⟨t1, rfl⟩ := truth_of A1 q1 e
    exact ⟨b, t1, h1 b _ _ _ Step.refl A1 rfl⟩
  | ex c m2 => exact absurd e truth_noex
  | no => rw [e] at h1; exact h1.elim
theorem step_and {sa sb : SE} : ∀ σ H Q, tE X W (fun env m => (sa env m).bind fun d m => (truthB d m).bind fun t m => if t then sb env m else .ok d m) σ H Q → tAndT X.K (tE X W sa) (tE X W sb) σ H Q := by
  rintro σ H Q ⟨rho, F, env, m, A, En, h⟩
  refine ⟨rho, F, env, m, A, En, RdE.bind h fun d m1 v r1 F1 H1 s1 A1 q1 h1 => ?_⟩
  cases e : truthB d m1 with
  | ok b m2 =>
    rw [e] at h1
    obtain ⟨t1, rfl⟩ := truth_of A1 q1 e
    refine ⟨b, t1, ?_⟩
    cases b with
    | true => exact iteT ⟨r1, F1, env, m2, A1, En.mono s1.onto, h1⟩
    | false => exact iteF (h1 v _ _ _ Step.refl A1 q1)
  | ex c m2 => exact absurd e truth_noex
  | no => rw [e] at h1; exact h1.elim
theorem step_or {sa sb : SE} : ∀ σ H Q, tE X W (fun env m => (sa env m).bind fun d m => (truthB d m).bind fun t m => if t then .ok d m else sb env m) σ H Q → tOrT X.K (tE X W sa) (tE X W sb) σ H Q := by
  rintro σ H Q ⟨rho, F, env, m, A, En, h⟩
  refine ⟨rho, F, env, m, A, En, RdE.bind h fun d m1 v r1 F1 H1 s1 A1 q1 h1 => ?_⟩
  cases e : truthB d m1 with
  | ok b m2 =>
    rw [e] at h1
    obtain ⟨t1, rfl⟩ := truth_of A1 q1 e
    refine ⟨b, t1, ?_⟩
    cases b with
    | true => exact iteT (h1 v _ _ _ Step.refl A1 q1)
    | false => exact iteF ⟨r1, F1, env, m2, A1, En.mono s1.onto, h1⟩
  | ex c m2 => exact absurd e truth_noex
  | no => rw [e] at h1; exact h1.elim
theorem step_not {sa : SE} : ∀ σ H Q, tE X W (fun env m => (sa env m).bind fun d m => (truthB d m).bind fun t m => .ok (.bl (!t)) m) σ H Q → tNotT X.K (tE X W sa) σ H Q := by
  rintro σ H Q ⟨rho, F, env, m, A, En, h⟩
  refine ⟨rho, F, env, m, A, En, RdE.bind h fun d m1 v r1 F1 H1 s1 A1 q1 h1 => ?_⟩
  cases e : truthB d m1 with
  | ok b m2 =>
    rw [e] at h1
    obtain ⟨t1, rfl⟩ := truth_of A1 q1 e
    exact ⟨b, t1, h1 _ _ _ _ Step.refl A1 .bl⟩
  | ex c m2 => exact absurd e truth_noex
  | no => rw [e] at h1; exact h1.elim
/-- tests -/
theorem step_andT {sa sb : SE} : ∀ σ H Q, tT X W (fun env m => ((sa env m).bind fun d m => (truthB d m).bind fun t m => if t then sb env m else .ok d m).bind truthB) σ H Q →
    tAnd (tT X W fun env m => (sa env m).bind truthB) (tT X W fun env m => (sb env m).bind truthB) σ H Q := by
  rintro σ H Q ⟨rho, F, env, m, A, En, h⟩
  refine ⟨rho, F, env, m, A, En, ?_⟩
  dsimp only at h ⊢
  cases ea : sa env m with
  | ok d m1 =>
    rw [ea] at h
    show RdE _ _ _ _ _ _ _ _ _ (truthB d m1)
    cases e : truthB d m1 with
    | ok b m2 =>
      have := truth_m e
      subst this
      simp only [R.bind, e] at h
      intro v r1 F1 H1 s1 A1 q1
      subst q1
      cases v with
      | true => exact iteT ⟨r1, F1, env, m2, A1, En.mono s1.onto, RdE.step (show RdE X.K X.mg W σ relB rho F H Q ((sb env m2).bind truthB) from h) s1⟩
      | false =>
        have h' : RdE X.K X.mg W σ relB rho F H Q (truthB d m2) := by simpa [R.bind] using h
        rw [e] at h'
        exact iteF (h' _ _ _ _ s1 A1 rfl)
    | ex c m2 => exact absurd e truth_noex
    | no => simp only [R.bind, e] at h; exact h
  | ex c m1 => rw [ea] at h; exact h
  | no => rw [ea] at h; exact h
theorem step_orT {sa sb : SE} : ∀ σ H Q, tT X W (fun env m => ((sa env m).bind fun d m => (truthB d m).bind fun t m => if t then .ok d m else sb env m).bind truthB) σ H Q →
    tOr (tT X W fun env m => (sa env m).bind truthB) (tT X W fun env m => (sb env m).bind truthB) σ H Q := by
  rintro σ H Q ⟨rho, F, env, m, A, En, h⟩
  refine ⟨rho, F, env, m, A, En, ?_⟩
  dsimp only at h ⊢
  cases ea : sa env m with
  | ok d m1 =>
    rw [ea] at h
    show RdE _ _ _ _ _ _ _ _ _ (truthB d m1)
    cases e : truthB d m1 with
    | ok b m2 =>
      have := truth_m e
      subst this
      simp only [R.bind, e] at h
      intro v r1 F1 H1 s1 A1 q1
      subst q1
      cases v with
      | false => exact iteF ⟨r1, F1, env, m2, A1, En.mono s1.onto, RdE.step (show RdE X.K X.mg W σ relB rho F H Q ((sb env m2).bind truthB) from h) s1⟩
      | true =>
        have h' : RdE X.K X.mg W σ relB rho F H Q (truthB d m2) := by simpa [R.bind] using h
        rw [e] at h'
        exact iteT (h' _ _ _ _ s1 A1 rfl)
    | ex c m2 => exact absurd e truth_noex
    | no => simp only [R.bind, e] at h; exact h
  | ex c m1 => rw [ea] at h; exact h
  | no => rw [ea] at h; exact h
theorem step_notT {sa : SE} : ∀ σ H Q, tT X W (fun env m => ((sa env m).bind fun d m => (truthB d m).bind fun t m => .ok (.bl (!t)) m).bind truthB) σ H Q → tNot (tT X W fun env m => (sa env m).bind truthB) σ H Q := by
  rintro σ H Q ⟨rho, F, env, m, A, En, h⟩
  refine ⟨rho, F, env, m, A, En, ?_⟩
  dsimp only at h ⊢
  cases ea : sa env m with
  | ok d m1 =>
    rw [ea] at h
    show RdE _ _ _ _ _ _ _ _ _ (truthB d m1)
    cases e : truthB d m1 with
    | ok b m2 =>
      have := truth_m e
      subst this
      simp only [R.bind, e] at h
      intro v r1 F1 H1 s1 A1 q1
      subst q1
      exact h _ _ _ _ s1 A1 rfl
    | ex c m2 => exact absurd e truth_noex
    | no => simp only [R.bind, e] at h; exact h
  | ex c m1 => rw [ea] at h; exact h
  | no => rw [ea] at h; exact h
theorem step_ite {sc sa sb : SE} : ∀ σ H Q, tE X W (fun env m => (sc env m).bind fun d m => (truthB d m).bind fun t m => if t then sa env m else sb env m) σ H Q →
    tIf (tT X W fun env m => (sc env m).bind truthB) (tE X W sa) (tE X W sb) σ H Q := by
  rintro σ H Q ⟨rho, F, env, m, A, En, h⟩
  refine ⟨rho, F, env, m, A, En, ?_⟩
  dsimp only at h ⊢
  cases ea : sc env m with
  | ok d m1 =>
    rw [ea] at h
    show RdE _ _ _ _ _ _ _ _ _ (truthB d m1)
    cases e : truthB d m1 with
    | ok b m2 =>
      have := truth_m e
      subst this
      simp only [R.bind, e] at h
      intro v r1 F1 H1 s1 A1 q1
      subst q1
      cases v with
      | true => exact iteT ⟨r1, F1, env, m2, A1, En.mono s1.onto, RdE.step (by simpa using h) s1⟩
      | false => exact iteF ⟨r1, F1, env, m2, A1, En.mono s1.onto, RdE.step (by simpa using h) s1⟩
    | ex c m2 => exact absurd e truth_noex
    | no => simp only [R.bind, e] at h; exact h
  | ex c m1 => rw [ea] at h; exact h
  | no => rw [ea] at h; exact h
theorem step_iteT {sc sa sb : SE} : ∀ σ H Q, tT X W (fun env m => ((sc env m).bind fun d m => (truthB d m).bind fun t m => if t then sa env m else sb env m).bind truthB) σ H Q →
    (tT X W fun env m => (sc env m).bind truthB) σ H (fun c H1 => if c = true then (tT X W fun env m => (sa env m).bind truthB) σ H1 Q else (tT X W fun env m => (sb env m).bind truthB) σ H1 Q) := by
  rintro σ H Q ⟨rho, F, env, m, A, En, h⟩
  refine ⟨rho, F, env, m, A, En, ?_⟩
  dsimp only at h ⊢
  cases ea : sc env m with
  | ok d m1 =>
    rw [ea] at h
    show RdE _ _ _ _ _ _ _ _ _ (truthB d m1)
    cases e : truthB d m1 with
    | ok b m2 =>
      have := truth_m e
      subst this
      simp only [R.bind, e] at h
      intro v r1 F1 H1 s1 A1 q1
      subst q1
      cases v with
      | true => exact iteT ⟨r1, F1, env, m2, A1, En.mono s1.onto, RdE.step (by simpa [R.bind] using h) s1⟩
      | false => exact iteF ⟨r1, F1, env, m2, A1, En.mono s1.onto, RdE.step (by simpa [R.bind] using h) s1⟩
    | ex c m2 => exact absurd e truth_noex
    | no => simp only [R.bind, e] at h; exact h
  | ex c m1 => rw [ea] at h; exact h
  | no => rw [ea] at h; exact h
theorem pt_ifExp {c a b : Expr} {pos : Pos} {tc ta tb : TT} (hc : PT X c tc) (ha : PT X a ta) (hb : PT X b tb) : PT X (.IfExp c a b pos) (fun σ H Q => tc σ H fun c H1 => if c = true then ta σ H1 Q else tb σ H1 Q) := by
  refine ⟨fun pins s σ H Q I h => ?_⟩
  have e : isTrue (.IfExp c a b pos) X.env (eval (.IfExp c a b pos) X.env) = (do
      if ← isTrue c X.env (eval c X.env) then isTrue a X.env (eval a X.env) else isTrue b X.env (eval b X.env)) := by first | rfl | simp only [isTrue]
  rw [e]
  refine wpAny_bind (thn (hc.run pins s σ H _ I h) fun t s1 ⟨H1, I1, q1⟩ => ?_)
  cases t with
  | true => exact ha.run pins s1 σ H1 Q I1 q1
  | false => exact hb.run pins s1 σ H1 Q I1 q1
/-- argument lists -/
theorem step_cons {sa : SE} {sr : SA} : ∀ σ H Q, tA X W (fun env m => (sa env m).bind fun d m => (sr env m).bind fun ds m => .ok (d :: ds) m) σ H Q → tCons (tE X W sa) (tA X W sr) σ H Q := by
  rintro σ H Q ⟨rho, F, env, m, A, En, h⟩
  refine ⟨rho, F, env, m, A, En, RdE.bind h fun d m1 v r1 F1 H1 s1 A1 q1 h1 => ?_⟩
  refine ⟨r1, F1, env, m1, A1, En.mono s1.onto, RdE.bind h1 fun e m2 u r2 F2 H2 s2 A2 q2 h2 => ?_⟩
  exact h2 _ _ _ _ Step.refl A2 (.cons (q1.mono s2.onto) q2)
theorem step_nil : ∀ σ H Q, tA X W (fun env m => .ok [] m) σ H Q → tNil σ H Q := by
  rintro σ H Q ⟨rho, F, env, m, A, En, h⟩
  exact h _ _ _ _ Step.refl A .nil
theorem step_tup {sr : SA} : ∀ σ H Q, tE X W (fun env m => (sr env m).bind fun ds m => if ds.length ≤ sizeLine then .ok (.tup ds) m else .no) σ H Q → tTup (tA X W sr) σ H Q := by
  rintro σ H Q ⟨rho, F, env, m, A, En, h⟩
  refine ⟨rho, F, env, m, A, En, RdE.bind h fun ds m1 vs r1 F1 H1 s1 A1 q1 h1 => ?_⟩
  split at h1
  · rename_i hl
    exact ⟨by rw [q1.length]; exact hl, fun p np => RdO.newT (RdE.of0 h1 (fun _ _ z => nomatch z)) A1 q1 np⟩
  · exact h1.elim
theorem step_lst {sr : SA} : ∀ σ H Q, tE X W (fun env m => (sr env m).bind fun ds m => if ds.length ≤ sizeLine then .ok (.lst ds) m else .no) σ H Q → tLst (tA X W sr) σ H Q := by
  rintro σ H Q ⟨rho, F, env, m, A, En, h⟩
  refine ⟨rho, F, env, m, A, En, RdE.bind h fun ds m1 vs r1 F1 H1 s1 A1 q1 h1 => ?_⟩
  split at h1
  · rename_i hl
    exact ⟨by rw [q1.length]; exact hl, fun p np => RdO.newL (RdE.of0 h1 (fun _ _ z => nomatch z)) A1 q1 np⟩
  · exact h1.elim
theorem step_lstM {sr : SA} : ∀ σ H Q, tE X W (fun env m => (sr env m).bind fun ds m => if ds.length ≤ sizeLine then .ok (.ref m.length) (m ++ [.lst ds]) else .no) σ H Q → tLst (tA X W sr) σ H Q := by
  rintro σ H Q ⟨rho, F, env, m, A, En, h⟩
  refine ⟨rho, F, env, m, A, En, RdE.bind h fun ds m1 vs r1 F1 H1 s1 A1 q1 h1 => ?_⟩
  split at h1
  · rename_i hl
    exact ⟨by rw [q1.length]; exact hl, fun p np => RdO.newLM (RdE.of0 h1 (fun _ _ z => nomatch z)) A1 q1 np⟩
  · exact h1.elim
end
end HB
namespace HB
open PySem L2

/-! ### operators never raise -/
theorem bop_noex {o : BOp} {d e : D} {m : M} {c : Exc} {m' : M} : bopD o d e m ≠ .ex c m' := by
  intro h
  cases o <;> simp only [bopD, addD, subD, mulD, fdivD, modD, powD] at h <;> (repeat' split at h) <;> cases h
theorem eqB_noex {d e : D} {m : M} {c : Exc} {m' : M} : eqB d e m ≠ .ex c m' := by
  intro h
  unfold eqB at h
  (repeat' split at h) <;> cases h
theorem inB_noex {d e : D} {m : M} {c : Exc} {m' : M} : inB d e m ≠ .ex c m' := by
  intro h
  unfold inB at h
  (repeat' split at h) <;> cases h
theorem cop_noex {o : COp} {d e : D} {m : M} {c : Exc} {m' : M} : copD o d e m ≠ .ex c m' := by
  intro h
  cases o
  case eq =>
    simp only [copD, eqD, blR] at h
    split at h
    · cases h
    · rename_i q; exact eqB_noex q
    · cases h
  case ne =>
    simp only [copD, neD, notR] at h
    cases q : eqB d e m with
    | ok b m => rw [q] at h; cases h
    | ex c m => exact eqB_noex q
    | no => rw [q] at h; cases h
  case inn =>
    simp only [copD, inD, blR] at h
    split at h
    · cases h
    · rename_i q; exact inB_noex q
    · cases h
  case notIn =>
    simp only [copD, notInD, notR] at h
    cases q : inB d e m with
    | ok b m => rw [q] at h; cases h
    | ex c m => exact inB_noex q
    | no => rw [q] at h; cases h
  all_goals (simp only [copD, ltD, leD, gtD, geD, isND, notND] at h; (repeat' split at h) <;> cases h)
/-- a comparison hands back a truth value -/
theorem eqB_bl {d e f : D} {m m' : M} (h : eqD d e m = .ok f m') : ∃ b, f = .bl b := by
  unfold eqD blR at h
  split at h
  · cases h; exact ⟨_, rfl⟩
  · cases h
  · cases h
theorem cop_bl {o : COp} {d e f : D} {m m' : M} (h : copD o d e m = .ok f m') : ∃ b, f = .bl b := by
  cases o
  case eq => exact eqB_bl h
  case ne =>
    simp only [copD, neD] at h
    cases q : notR (eqB d e m) with
    | ok b m => rw [q] at h; cases h; exact ⟨_, rfl⟩
    | ex c m => rw [q] at h; cases h
    | no => rw [q] at h; cases h
  case inn =>
    simp only [copD, inD] at h
    cases q : inB d e m with
    | ok b m => rw [q] at h; cases h; exact ⟨_, rfl⟩
    | ex c m => rw [q] at h; cases h
    | no => rw [q] at h; cases h
  case notIn =>
    simp only [copD, notInD] at h
    cases q : notR (inB d e m) with
    | ok b m => rw [q] at h; cases h; exact ⟨_, rfl⟩
    | ex c m => rw [q] at h; cases h
    | no => rw [q] at h; cases h
  all_goals (simp only [copD, ltD, leD, gtD, geD, isND, notND] at h; (repeat' split at h) <;> cases h <;> exact ⟨_, rfl⟩)
section
variable {X : Cx} {W : WX}
theorem od_bin (o : BOp) : OpD X (binaryOp (bopO o)) (bopD o) := by
  cases o
  · exact od_add
  · exact od_sub
  · exact od_mul
  · exact od_fdiv
  · exact od_mod
  · exact od_pow
theorem od_cmp (hu : X.A.units + 66 < cLine) (o : COp) : OpD X (compareOp (copO o)) (copD o) := by
  have hu' : X.A.units + 64 < cLine := by omega
  cases o
  · exact od_eq hu
  · exact od_ne hu
  · exact od_lt
  · exact od_le
  · exact od_gt
  · exact od_ge
  · exact od_isN
  · exact od_notN
  · exact od_in (by omega)
  · exact od_notIn (by omega)
/-! ### plain arguments -/
theorem star_cons {e : Expr} {es : List Expr} {env : PySem.Env} (h : plainB e = true) : starEach (e :: es) env = (false, eval e env) :: starEach es env := by
  cases e <;> first | rfl | (simp [plainB] at h)
theorem star_any {env : PySem.Env} {pos : Pos} : ∀ {es : List Expr}, es.all plainB = true → (backTo pos (starEach es env)).any (·.1) = false
  | [], _ => rfl
  | e :: es, h => by
    simp only [List.all_cons, Bool.and_eq_true] at h
    rw [star_cons h.1]
    have ih := star_any (env := env) (pos := pos) h.2
    simp only [backTo, List.map_cons, List.any_cons, Bool.false_or] at ih ⊢
    exact ih
theorem chkA_plain {C : Ck} : ∀ {t : T} {ps : List Expr}, chkA C t ps = true → ps.all plainB = true
  | t, [], _ => rfl
  | .cons a es, p :: ps, h => by
    simp only [chkA, Bool.and_eq_true] at h
    simp only [List.all_cons, Bool.and_eq_true]
    exact ⟨h.1.1, chkA_plain h.2⟩
/-! ### subscripts -/
theorem atI_of {K : PySem.W.Frag} {mg : Str → Option Value} {rho : List Addr} {F : Hp} {vs : List V} {ds : List D} {i : Int} {d : D} (r : RpL K mg rho F vs ds) (h : atI ds i = some d) : ∃ v, atI vs i = some v ∧ Rp K mg rho F v d := by
  unfold atI at h ⊢
  rw [r.length]
  cases e : ixN ds.length i with
  | none => rw [e] at h; cases h
  | some j => rw [e] at h; exact r.get h
theorem ix_noex {d e : D} {m : M} {c : Exc} {m' : M} : ixD d e m ≠ .ex c m' := by
  intro h
  unfold ixD at h
  (repeat' split at h) <;> cases h
theorem IxR.imp {r r' : R2} (h : IxR X r) (k : ∀ x y H Q, r' x y H Q → r x y H Q) : IxR X r' := fun value slice pins s σ H x y v u Q I rx ry q hs => h value slice pins s σ H x y v u Q I rx ry (k _ _ _ _ q) hs
theorem ix_dict (hu : X.A.units + 1 < cLine) : IxR X (fun x y H Q => ∃ a v, x = .ref a ∧ DGet H a y (some v) ∧ Q v H) := by
  intro value slice pins s σ H x y v u Q I rx ry h hs
  obtain ⟨a, w, rfl, g, q⟩ := h
  obtain rfl : v = Value.ref a := rx
  have ty := dict_typeIs I g
  unfold PyProof.Rows.subscriptTail
  refine wpAny_bind ?_
  rw [getitemInPython_of_ne ty.not_modules]
  refine wpAny_bind (wpAny_specialOf ty PySem.F.slot_dict_getitem.lookup ?_)
  have last : wpAny (model X.prog X.w) X.A (subscripted slice false (.ref a) u) (fun r s3 => wpAny (model X.prog X.w) X.A (letTemporaryGo value (.ref a) r >>= fun _ => pure r) (EP X pins σ Q) X.xe s3) X.xe s := by
    rw [hs]
    exact wpAny_operating (d_getItem hu I g ry fun w' s3 I3 rw' => wpAny_bind (wpAny_letTemporaryGo (wpAny_pure ⟨w, H, I3, rw', q⟩)))
  first
    | exact wpAny_pure (wpAny_bind last)
    | exact wpAny_bind (wpAny_pure (wpAny_bind last))
    | exact wpAny_bind last
theorem ix_or {r r' : R2} (h : IxR X r) (h' : IxR X r') : IxR X (fun x y H Q => r x y H Q ∨ r' x y H Q) := fun value slice pins s σ H x y v u Q I rx ry q hs => by
  rcases q with q | q
  · exact h value slice pins s σ H x y v u Q I rx ry q hs
  · exact h' value slice pins s σ H x y v u Q I rx ry q hs
theorem ix_data (hu : X.A.units + 1 < cLine) : IxR X (fun x y H Q => ∃ rho F m d e, Abs X.K X.mg rho F H m ∧ Rp X.K X.mg rho F x d ∧ Rp X.K X.mg rho F y e ∧ RdO X.K X.mg rho F H Q (ixD d e m)) := IxR.imp (ix_or ix_seq (ix_dict hu)) (by
  rintro x y H Q ⟨rho, F, m, d, e, A, r1, r2, h⟩
  unfold ixD at h
  split at h
  · rename_i es hv
    split at h
    · rename_i k hk
      split at h
      · rename_i v hf
        obtain ⟨p, kvs, rfl, hp, kr⟩ := r1.viewD A hv
        have ek := r2.keyV hk
        subst ek
        rcases kr.find k with ⟨v', d', f1, f2, f3⟩ | ⟨f1, f2⟩
        · rw [hf] at f2
          cases f2
          exact .inr ⟨p, v', rfl, .inl ⟨kvs, k, hp, rfl, f1.symm⟩, h.here A f3⟩
        · rw [hf] at f2; cases f2
      · exact h.elim
    · exact h.elim
  refine .inl ?_
  split at h
  · cases r2
    split at h
    · split at h
      · split at h
        · rename_i hc _ c hi
          cases r1
          exact .inr (.inr ⟨_, _, c, rfl, rfl, hc, hi, h.here A .str⟩)
        · exact h.elim
      · exact h.elim
    · split at h
      · rename_i ds hv
        split at h
        · rename_i e hi
          obtain ⟨p, vs, rfl, hp, q1⟩ := r1.viewQ A hv
          obtain ⟨v, hv', rv⟩ := atI_of q1 hi
          rcases hp with hp | hp
          · exact .inl ⟨p, vs, _, v, rfl, rfl, hp, hv', h.here A rv⟩
          · exact .inr (.inl ⟨p, vs, _, v, rfl, rfl, hp, hv', h.here A rv⟩)
        · exact h.elim
      · exact h.elim
  · exact h.elim)
theorem cut_of {K : PySem.W.Frag} {mg : Str → Option Value} {rho : List Addr} {F : Hp} {vs : List V} {ds : List D} (r : RpL K mg rho F vs ds) (lo hi : Option Int) : RpL K mg rho F (cutV vs lo hi) (cutD ds lo hi) := by
  unfold cutV cutD
  rw [r.length]
  exact (r.drop _).take _
theorem SlR.imp {r r' : V → Option Int → Option Int → Hp → VK → Prop} (h : SlR X r) (k : ∀ x lo hi H Q, r' x lo hi H Q → r x lo hi H Q) : SlR X r' := fun pins s σ H x v vl vu lo hi sl Q I rx hs pl pu q => h pins s σ H x v vl vu lo hi sl Q I rx hs pl pu (k _ _ _ _ _ q)
theorem sl_data : SlR X (fun x lo hi H Q => ∃ rho F m d, Abs X.K X.mg rho F H m ∧ Rp X.K X.mg rho F x d ∧ RdO X.K X.mg rho F H Q (slD d lo hi m)) := SlR.imp (sl_str.or (sl_tupA.or sl_list)) (by
  rintro x lo hi H Q ⟨rho, F, m, d, A, r1, h⟩
  unfold slD at h
  split at h
  · split at h
    · rename_i hc
      cases r1
      exact .inl ⟨_, rfl, hc, h.here A .str⟩
    · exact h.elim
  · rename_i ds
    obtain ⟨p, vs, rfl, hp, q1⟩ := r1.tupH A
    refine .inr (.inl ⟨p, vs, rfl, hp, fun hw => ?_, fun _ l nl => h.newT A (cut_of q1 lo hi) nl⟩)
    have e : cutD ds lo hi = ds := by
      unfold cutD
      rw [q1.length] at hw
      rw [hw.1, hw.2]
      simp
    rw [e] at h
    exact h.here A r1
  · split at h
    · rename_i ds hv
      obtain ⟨p, vs, rfl, hp, q1⟩ := r1.viewS A hv
      exact .inr (.inr ⟨p, vs, rfl, hp, fun l nl => h.newL A (cut_of q1 lo hi) nl⟩)
    · exact h.elim)
theorem sl_noex {d : D} {lo hi : Option Int} {m : M} {c : Exc} {m' : M} : slD d lo hi m ≠ .ex c m' := by
  intro h
  unfold slD at h
  (repeat' split at h) <;> cases h
/-- a part of a slice -/
def tP (X : Cx) (W : WX) (b : Bool) (se : SE) : TO := fun σ H Q => ∃ rho F env m, Abs X.K X.mg rho F H m ∧ RpEnv X.K X.mg rho F σ env ∧ RdE X.K X.mg W σ (fun _ _ (v d : Option Int) => v = d) rho F H Q (if b then R.ok none m else partD (se env m) m)
theorem po_data {se : SE} {p : Expr} (h : PE X p (tE X W se)) : PO X (some p) (tP X W false se) := by
  refine ⟨fun pins s σ H Q I q => (po_some h).run pins s σ H Q I ?_⟩
  obtain ⟨rho, F, env, m, A, En, q⟩ := q
  refine ⟨rho, F, env, m, A, En, ?_⟩
  simp only [Bool.false_eq_true, if_false] at q
  cases e : se env m with
  | ok d m1 =>
    rw [e] at q
    unfold partD at q
    split at q
    · rename_i z
      cases z
      intro v r1 F1 H1 s1 A1 q1
      cases q1
      exact ⟨_, rfl, q _ _ _ _ s1 A1 rfl⟩
    · exact q.elim
    · rename_i z; cases z
    · rename_i z; cases z
  | ex c m1 => rw [e] at q; exact q
  | no => rw [e] at q; exact q
theorem po_data0 {se : SE} : PO X none (tP X W true se) := by
  refine ⟨fun pins s σ H Q I q => po_none.run pins s σ H Q I ?_⟩
  obtain ⟨rho, F, env, m, A, En, q⟩ := q
  exact q none _ _ _ Step.refl A rfl
end
end HB
namespace HB
open PySem L2
/-! ### an object aside: neither ours nor standing still -/
section
variable {K : PySem.W.Frag} {mg : Str → Option Value} {rho rho' : List Addr} {F F' H H' : Hp} {m : M} {p : Addr} {o : HO}
theorem Abs.side (A : Abs K mg rho F H m) (nr : p ∉ rho) (nF : F p = none) : Abs K mg rho F (upd H p o) m := by
  refine ⟨fun b u h => ?_, A.len, A.nd, fun i a x hi hm => ?_, fun a ha => ?_⟩
  · rw [upd_ne (ne_of_none h nF)]; exact A.ex b u h
  · have ne : a ≠ p := fun e => nr (by rw [← e]; exact List.mem_of_getElem? hi)
    exact (A.own i a x hi hm).mono ⟨fun h => h, Same.refl F⟩ rfl fun u h => by rw [upd_ne ne]; exact h
  · have ne : a ≠ p := fun e => nr (by rw [← e]; exact ha)
    rw [upd_ne ne]; exact A.all a ha
theorem Abs.sideFix (A : Abs K mg rho F H m) (nr : p ∉ rho) (nF : F p = none) (hp : H p = some o) : Abs K mg rho (upd F p o) H m := by
  have sF : Same F (upd F p o) := fun b u h => by rw [upd_ne (ne_of_none h nF)]; exact h
  refine ⟨fun b u h => ?_, A.len, A.nd, fun i a x hi hm => ?_, A.all⟩
  · by_cases e : b = p
    · subst e; rw [upd_same] at h; rw [← h]; exact hp
    · rw [upd_ne e] at h; exact A.ex b u h
  · have ne : a ≠ p := fun e => nr (by rw [← e]; exact List.mem_of_getElem? hi)
    exact (A.own i a x hi hm).mono ⟨fun h => h, sF⟩ (upd_ne ne) fun u h => h
/-- a thing that was not there may change -/
theorem Step.side (s : Step rho F H rho' F' H') (np : H p = none) : Step rho F H rho' F' (upd H' p o) := by
  refine ⟨s.pre, s.ex, fun a u h => ?_, fun a u h hn => ?_⟩
  · rw [upd_ne (ne_of_none h np)]; exact s.dom a u h
  · rw [upd_ne (ne_of_none h np)]; exact s.old a u h hn
theorem Step.sideFix (s : Step rho F H rho' F' H') (np : H p = none) (nF : F' p = none) : Step rho F H rho' (upd F' p o) H' := by
  refine ⟨s.pre, s.ex.trans fun b u h => by rw [upd_ne (ne_of_none h nF)]; exact h, s.dom, fun a u h hn => ?_⟩
  obtain ⟨h1, h2⟩ := s.old a u h hn
  exact ⟨h1, by rw [upd_ne (ne_of_none h np)]; exact h2⟩
end
/-! ### what is walked, by data -/
structure Walks (K : PySem.W.Frag) (mg : Str → Option Value) (J : It) (rho : List Addr) (F : Hp) (xs : List D) : Prop where
  stop : ∀ rho2 F2 H m, Onto rho F rho2 F2 → Abs K mg rho2 F2 H m → J.stop xs.length H
  go : ∀ (i : Nat) d rho2 F2 H m, xs[i]? = some d → Onto rho F rho2 F2 → Abs K mg rho2 F2 H m → J.go i H ∧ ∀ v H', J.yld i H v H' → ∃ F3, Step rho2 F2 H rho2 F3 H' ∧ Abs K mg rho2 F3 H' m ∧ Rp K mg rho2 F3 v d
section
variable {K : PySem.W.Frag} {mg : Str → Option Value} {rho : List Addr} {F : Hp}
theorem walks_list {a : Addr} {vs : List V} {ds : List D} (h : ∀ F2 H, Same F F2 → Same F2 H → SqL K H a vs) (r : RpL K mg rho F vs ds) : Walks K mg (Itl K a) rho F ds where
  stop := fun r2 F2 H m on A => ⟨vs, h F2 H on.ex A.ex, by rw [r.length]; exact Nat.le_refl _⟩
  go := fun i d r2 F2 H m hd on A => by
    obtain ⟨v, hv, rv⟩ := r.get hd
    refine ⟨⟨vs, v, h F2 H on.ex A.ex, hv⟩, fun u H' y => ?_⟩
    obtain ⟨e, y⟩ := y
    subst e
    have := y vs (h F2 H' on.ex A.ex)
    rw [hv] at this
    cases this
    exact ⟨F2, Step.refl, A, rv.mono on⟩
theorem walks_tup {a : Addr} {vs : List V} {ds : List D} (h : ∀ F2 H, Same F F2 → Same F2 H → SqT K H a vs) (r : RpL K mg rho F vs ds) : Walks K mg (Itt K a) rho F ds where
  stop := fun r2 F2 H m on A => ⟨vs, h F2 H on.ex A.ex, by rw [r.length]; exact Nat.le_refl _⟩
  go := fun i d r2 F2 H m hd on A => by
    obtain ⟨v, hv, rv⟩ := r.get hd
    refine ⟨⟨vs, v, h F2 H on.ex A.ex, hv⟩, fun u H' y => ?_⟩
    obtain ⟨e, y⟩ := y
    subst e
    have := y vs (h F2 H' on.ex A.ex)
    rw [hv] at this
    cases this
    exact ⟨F2, Step.refl, A, rv.mono on⟩
theorem walks_str {x : Str} : Walks K mg (Its x) rho F (x.cps.toList.map fun c => D.str ⟨#[c]⟩) where
  stop := fun r2 F2 H m on A => by show x.cps.size ≤ _; simp
  go := fun i d r2 F2 H m hd on A => by
    rw [List.getElem?_map, Option.map_eq_some_iff] at hd
    obtain ⟨c, hc, rfl⟩ := hd
    have hc' : x.cps[i]? = some c := by rw [← Array.getElem?_toList]; exact hc
    refine ⟨by show i < x.cps.size; exact (Array.getElem?_eq_some_iff.mp hc').1, fun u H' y => ?_⟩
    obtain ⟨e, c', e1, e2⟩ := y
    subst e
    rw [hc'] at e1; cases e1
    subst e2
    exact ⟨F2, Step.refl, A, .str⟩
theorem walks_rng {lo : Int} {n : Nat} : Walks K mg (Itr lo n) rho F ((List.range n).map fun (i : Nat) => D.int (lo + (i : Int))) where
  stop := fun r2 F2 H m on A => by show n ≤ _; simp
  go := fun i d r2 F2 H m hd on A => by
    rw [List.getElem?_map, Option.map_eq_some_iff] at hd
    obtain ⟨c, hc, rfl⟩ := hd
    have hi : i < n := by have := (List.getElem?_eq_some_iff.mp hc).1; simpa using this
    have hc' : c = i := by
      rw [List.getElem?_range hi] at hc
      cases hc; rfl
    subst hc'
    refine ⟨hi, fun u H' y => ?_⟩
    obtain ⟨e, e2⟩ := y
    subst e
    subst e2
    exact ⟨F2, Step.refl, A, .int⟩
end
section
variable {K : PySem.W.Frag} {mg : Str → Option Value} {rho : List Addr} {F : Hp}
theorem KVr.get {kvs : List (Key × V)} {es : List (Key × D)} (r : KVr K mg rho F kvs es) : ∀ {i : Nat} {k : Key} {d : D}, es[i]? = some (k, d) → ∃ v, kvs[i]? = some (k, v) ∧ Rp K mg rho F v d := by
  induction r with
  | nil => intro i k d h; simp at h
  | cons h t ih =>
    intro i k d hd
    cases i with
    | zero => simp at hd; obtain ⟨rfl, rfl⟩ := hd; exact ⟨_, rfl, h⟩
    | succ i => obtain ⟨v, q1, q2⟩ := ih (i := i) (k := k) (d := d) (by simpa using hd); exact ⟨v, by simpa using q1, q2⟩
theorem walks_keys {p : Addr} {o : Obj} {kvs : List (Key × V)} {es : List (Key × D)} (h : F p = some (.frz o (.dK kvs))) (r : KVr K mg rho F kvs es) : Walks K mg (Itk p o kvs) rho F (keysL es) where
  stop := fun r2 F2 H m on A => ⟨A.ex _ _ (on.ex _ _ h), by rw [r.length]; simp [keysL]⟩
  go := fun i d r2 F2 H m hd on A => by
    unfold keysL at hd
    rw [List.getElem?_map, Option.map_eq_some_iff] at hd
    obtain ⟨⟨k, d0⟩, h1, rfl⟩ := hd
    obtain ⟨v, hv, _⟩ := r.get h1
    refine ⟨⟨A.ex _ _ (on.ex _ _ h), (List.getElem?_eq_some_iff.mp hv).1⟩, fun u H' y => ?_⟩
    obtain ⟨e, k', v', e1, e2⟩ := y
    subst e
    rw [hv] at e1; cases e1
    subst e2
    exact ⟨F2, Step.refl, A, by cases k <;> first | exact .int | exact .str⟩
theorem walks_vals {p : Addr} {o : Obj} {kvs : List (Key × V)} {es : List (Key × D)} (h : F p = some (.frz o (.dK kvs))) (r : KVr K mg rho F kvs es) : Walks K mg (Itd p o kvs) rho F (es.map (·.2)) where
  stop := fun r2 F2 H m on A => ⟨A.ex _ _ (on.ex _ _ h), by rw [r.length]; simp⟩
  go := fun i d r2 F2 H m hd on A => by
    rw [List.getElem?_map, Option.map_eq_some_iff] at hd
    obtain ⟨⟨k, d0⟩, h1, rfl⟩ := hd
    obtain ⟨v, hv, rv⟩ := r.get h1
    refine ⟨⟨A.ex _ _ (on.ex _ _ h), (List.getElem?_eq_some_iff.mp hv).1⟩, fun u H' y => ?_⟩
    obtain ⟨e, k', e1⟩ := y
    subst e
    rw [hv] at e1; cases e1
    exact ⟨F2, Step.refl, A, rv.mono on⟩
theorem zip_get : ∀ {xs ys : List D} {i : Nat} {d : D}, (zipD xs ys)[i]? = some d → ∃ a b, xs[i]? = some a ∧ ys[i]? = some b ∧ d = .tup [a, b]
  | [], _, i, d, h => by simp [zipD] at h
  | _ :: _, [], i, d, h => by simp [zipD] at h
  | x :: xs, y :: ys, 0, d, h => by simp [zipD] at h; exact ⟨x, y, rfl, rfl, h.symm⟩
  | x :: xs, y :: ys, i + 1, d, h => by
    simp only [zipD, List.getElem?_cons_succ] at h ⊢
    exact zip_get h
theorem zip_len : ∀ (xs ys : List D), (zipD xs ys).length = min xs.length ys.length
  | [], _ => by simp [zipD]
  | _ :: _, [] => by simp [zipD]
  | x :: xs, y :: ys => by
    simp only [zipD, List.length_cons, zip_len xs ys]
    omega
theorem enum_get : ∀ {xs : List D} {n i : Nat} {d : D}, (enumD n xs)[i]? = some d → ∃ a, xs[i]? = some a ∧ d = .tup [.int ((n + i : Nat) : Int), a]
  | [], n, i, d, h => by simp [enumD] at h
  | x :: xs, n, 0, d, h => by simp [enumD] at h; exact ⟨x, rfl, by simpa using h.symm⟩
  | x :: xs, n, i + 1, d, h => by
    simp only [enumD, List.getElem?_cons_succ] at h ⊢
    obtain ⟨a, h1, h2⟩ := enum_get h
    exact ⟨a, h1, by rw [h2, Nat.add_right_comm, Nat.add_assoc]⟩
theorem enum_len : ∀ (xs : List D) (n : Nat), (enumD n xs).length = xs.length
  | [], _ => rfl
  | x :: xs, n => by simp [enumD, enum_len xs]
theorem walks_zip {a b : Addr} {vs ws : List V} {xs ys : List D} (ha : ∀ F2 H, Same F F2 → Same F2 H → SqL K H a vs) (hb : ∀ F2 H, Same F F2 → Same F2 H → SqL K H b ws) (ra : RpL K mg rho F vs xs) (rb : RpL K mg rho F ws ys) : Walks K mg (Itz K a b) rho F (zipD xs ys) where
  stop := fun r2 F2 H m on A => ⟨vs, ws, ha F2 H on.ex A.ex, hb F2 H on.ex A.ex, by rw [zip_len, ra.length, rb.length]; omega⟩
  go := fun i d r2 F2 H m hd on A => by
    obtain ⟨x, y, h1, h2, rfl⟩ := zip_get hd
    obtain ⟨v, hv, rv⟩ := ra.get h1
    obtain ⟨w, hw, rw'⟩ := rb.get h2
    refine ⟨⟨vs, ws, v, w, ha F2 H on.ex A.ex, hb F2 H on.ex A.ex, hv, hw⟩, fun u H' y => ?_⟩
    obtain ⟨T, x', y', rfl, nT, rfl, k1, k2⟩ := y
    have e1 := k1 vs (ha F2 H on.ex A.ex)
    have e2 := k2 ws (hb F2 H on.ex A.ex)
    rw [hv] at e1; cases e1
    rw [hw] at e2; cases e2
    obtain ⟨st, A'⟩ := A.fresh (o := .tup [v, w]) nT
    exact ⟨_, st, A', .tup (SqT.of upd_same) (.cons ((rv.mono on).mono st.onto) (.cons ((rw'.mono on).mono st.onto) .nil))⟩
theorem walks_zipT {a b : Addr} {vs ws : List V} {xs ys : List D} (ha : ∀ F2 H, Same F F2 → Same F2 H → SqT K H a vs) (hb : ∀ F2 H, Same F F2 → Same F2 H → SqT K H b ws) (ra : RpL K mg rho F vs xs) (rb : RpL K mg rho F ws ys) : Walks K mg (RZ.ItzT K a b) rho F (zipD xs ys) where
  stop := fun r2 F2 H m on A => ⟨vs, ws, ha F2 H on.ex A.ex, hb F2 H on.ex A.ex, by rw [zip_len, ra.length, rb.length]; omega⟩
  go := fun i d r2 F2 H m hd on A => by
    obtain ⟨x, y, h1, h2, rfl⟩ := zip_get hd
    obtain ⟨v, hv, rv⟩ := ra.get h1
    obtain ⟨w, hw, rw'⟩ := rb.get h2
    refine ⟨⟨vs, ws, v, w, ha F2 H on.ex A.ex, hb F2 H on.ex A.ex, hv, hw⟩, fun u H' y => ?_⟩
    obtain ⟨T, x', y', rfl, nT, rfl, k1, k2⟩ := y
    have e1 := k1 vs (ha F2 H on.ex A.ex)
    have e2 := k2 ws (hb F2 H on.ex A.ex)
    rw [hv] at e1; cases e1
    rw [hw] at e2; cases e2
    obtain ⟨st, A'⟩ := A.fresh (o := .tup [v, w]) nT
    exact ⟨_, st, A', .tup (SqT.of upd_same) (.cons ((rv.mono on).mono st.onto) (.cons ((rw'.mono on).mono st.onto) .nil))⟩
theorem walks_enum {a : Addr} {vs : List V} {xs : List D} (ha : ∀ F2 H, Same F F2 → Same F2 H → SqL K H a vs) (ra : RpL K mg rho F vs xs) : Walks K mg (Ite K a) rho F (enumD 0 xs) where
  stop := fun r2 F2 H m on A => ⟨vs, ha F2 H on.ex A.ex, by rw [enum_len, ra.length]; exact Nat.le_refl _⟩
  go := fun i d r2 F2 H m hd on A => by
    obtain ⟨x, h1, rfl⟩ := enum_get hd
    obtain ⟨v, hv, rv⟩ := ra.get h1
    refine ⟨⟨vs, v, ha F2 H on.ex A.ex, hv⟩, fun u H' y => ?_⟩
    obtain ⟨T, x', rfl, nT, rfl, k1⟩ := y
    have e1 := k1 vs (ha F2 H on.ex A.ex)
    rw [hv] at e1; cases e1
    obtain ⟨st, A'⟩ := A.fresh (o := .tup [.int (i : Nat), v]) nT
    rw [Nat.zero_add]
    exact ⟨_, st, A', .tup (SqT.of upd_same) (.cons .int (.cons ((rv.mono on).mono st.onto) .nil))⟩
end
def tI (X : Cx) (W : WX) (se : SE) : TI := fun σ H Rr => ∃ rho F env m, Abs X.K X.mg rho F H m ∧ RpEnv X.K X.mg rho F σ env ∧ match se env m with
  | .ok d m1 => match viewI d m1 with
    | some xs => ∀ J rho' F' H', Step rho F H rho' F' H' → Abs X.K X.mg rho' F' H' m1 → Walks X.K X.mg J rho' F' xs → Rr J H'
    | none => False
  | .ex c m1 => ∀ cls dx rho' F' H', Step rho F H rho' F' H' → Abs X.K X.mg rho' F' H' m1 → RpX X.K X.mg rho' F' c cls dx → W cls dx σ H'
  | .no => False
section
variable {X : Cx} {W : WX}
theorem piOr {tg e : Expr} {w1 w2 : TI} (h1 : PI X tg e w1) (h2 : PI X tg e w2) : PI X tg e (fun σ H Rr => w1 σ H Rr ∨ w2 σ H Rr) := ⟨fun pins s σ H Rr I q => by
  rcases q with q | q
  · exact h1.run pins s σ H Rr I q
  · exact h2.run pins s σ H Rr I q⟩
theorem piImp {tg e : Expr} {w1 w2 : TI} (h1 : PI X tg e w1) (k : ∀ σ H Rr, w2 σ H Rr → w1 σ H Rr) : PI X tg e w2 := ⟨fun pins s σ H Rr I q => h1.run pins s σ H Rr I (k _ _ _ q)⟩
theorem pi_data {tg p : Expr} {se : SE} (h : PE X p (tE X W se)) : PI X tg p (tI X W se) := by
  refine piImp (piOr (pi_keys h) (piOr (pi_list h) (piOr (pi_tup h) (pi_str h)))) ?_
  rintro σ H Rr ⟨rho, F, env, m, A, En, q⟩
  cases e : se env m with
  | no => rw [e] at q; exact q.elim
  | ex c m1 =>
    rw [e] at q
    exact .inr (.inl ⟨rho, F, env, m, A, En, by rw [e]; exact q⟩)
  | ok d m1 =>
    rw [e] at q
    simp only at q
    split at q
    · rename_i xs hv
      unfold viewI at hv
      split at hv
      · cases hv
        refine .inr (.inr (.inl ⟨rho, F, env, m, A, En, ?_⟩))
        rw [e]
        intro v r1 F1 H1 s1 A1 q1
        cases q1 with
        | tup hs hr => exact ⟨_, rfl, ⟨_, sqT_mono A1.ex hs⟩, q _ _ _ _ s1 A1 (walks_tup (fun F2 H2 e1 e2 => sqT_mono e2 (sqT_mono e1 hs)) hr)⟩
      · cases hv
        refine .inr (.inl ⟨rho, F, env, m, A, En, ?_⟩)
        rw [e]
        intro v r1 F1 H1 s1 A1 q1
        cases q1 with
        | lst hs hr => exact ⟨_, rfl, ⟨_, SqL.of (A1.ex _ _ hs)⟩, q _ _ _ _ s1 A1 (walks_list (fun F2 H2 e1 e2 => SqL.of (e2 _ _ (e1 _ _ hs))) hr)⟩
      · cases hv
        refine .inr (.inl ⟨rho, F, env, m, A, En, ?_⟩)
        rw [e]
        intro v r1 F1 H1 s1 A1 q1
        cases q1 with
        | scr hs => exact ⟨_, rfl, ⟨_, A1.ex.seq hs⟩, q _ _ _ _ s1 A1 (walks_list (fun F2 H2 e1 e2 => e2.seq (e1.seq hs)) (RpL.ints _))⟩
      · cases hv
        refine .inr (.inr (.inr ⟨rho, F, env, m, A, En, ?_⟩))
        rw [e]
        intro v r1 F1 H1 s1 A1 q1
        cases q1
        exact ⟨_, rfl, q _ _ _ _ s1 A1 walks_str⟩
      · rw [Option.map_eq_some_iff] at hv
        obtain ⟨es, hk, rfl⟩ := hv
        refine .inl ⟨rho, F, env, m, A, En, ?_⟩
        rw [e]
        intro v r1 F1 H1 s1 A1 q1
        obtain ⟨p, o, ks, es', rfl, hp, hk', kr, _⟩ := q1.frzD A1.ex
        rw [hk] at hk'
        cases hk'
        exact ⟨p, o, rfl, .inl ⟨ks, A1.ex _ _ hp, q _ _ _ _ s1 A1 (walks_keys hp kr)⟩⟩
      · cases hv
    · exact q.elim
theorem pi_rng1 {tg a : Expr} {p pos : Pos} {sa : SE} (hg : Gl X "range") (hm : X.mg "range" = none) (hl : plainB a = true) (h : PE X a (tE X W sa)) : PI X tg (.Call (.Name "range" p) [a] [] pos) (tI X W fun env m => (sa env m).bind fun d m => rngD [d] m) := by
  refine piImp (pi_range1 hg hm (pa_cons h pa_nil (star_cons hl)) (star_cons hl)) ?_
  rintro σ H Rr ⟨rho, F, env, m, A, En, q⟩
  refine ⟨rho, F, env, m, A, En, ?_⟩
  dsimp only at q
  cases e : sa env m with
  | no => rw [e] at q; exact q
  | ex c m1 => rw [e] at q; exact q
  | ok d m1 =>
    rw [e] at q
    intro v r1 F1 H1 s1 A1 q1
    show ∃ j : Int, [v] = [V.int j] ∧ _
    simp only [R.bind, rngD] at q
    split at q
    · rename_i d' m2 hd
      split at hd
      · rename_i j hj
        cases hj
        split at hd
        · rename_i hc
          cases hd
          cases q1
          refine ⟨j, rfl, hc.1, hc.2, q _ _ _ _ s1 A1 ?_⟩
          have := walks_rng (K := X.K) (mg := X.mg) (rho := r1) (F := F1) (lo := 0) (n := j.toNat)
          simpa using this
        · cases hd
      · rename_i hj; cases hj
      · cases hd
    · rename_i hd
      exfalso
      (repeat' split at hd) <;> cases hd
    · exact q.elim
theorem pi_rng2 {tg a b : Expr} {p pos : Pos} {sa sb : SE} (hg : Gl X "range") (hm : X.mg "range" = none) (hl : plainB a = true) (hl2 : plainB b = true) (h : PE X a (tE X W sa)) (h2 : PE X b (tE X W sb)) :
    PI X tg (.Call (.Name "range" p) [a, b] [] pos) (tI X W fun env m => (sa env m).bind fun d m => (sb env m).bind fun e m => rngD [d, e] m) := by
  refine piImp (pi_range2 hg hm (pa_cons h (pa_cons h2 pa_nil (star_cons hl2)) (star_cons hl)) (by rw [star_cons hl, star_cons hl2]; rfl) (star_cons hl2)) ?_
  rintro σ H Rr ⟨rho, F, env, m, A, En, q⟩
  refine ⟨rho, F, env, m, A, En, ?_⟩
  dsimp only at q
  cases e : sa env m with
  | no => rw [e] at q; exact q
  | ex c m1 => rw [e] at q; exact q
  | ok d m1 =>
    rw [e] at q
    intro v r1 F1 H1 s1 A1 q1
    refine ⟨r1, F1, env, m1, A1, En.mono s1.onto, ?_⟩
    simp only [R.bind] at q
    cases e2 : sb env m1 with
    | no => rw [e2] at q; exact q
    | ex c m2 => rw [e2] at q; exact fun cls dx r2 F2 H2 s2 => q cls dx r2 F2 H2 (s1.trans s2)
    | ok d2 m2 =>
      rw [e2] at q
      intro u r2 F2 H2 s2 A2 q2
      show ∃ i j : Int, [v, u] = [V.int i, V.int j] ∧ _
      simp only [rngD] at q
      split at q
      · rename_i d' m3 hd
        split at hd
        · rename_i j hj; cases hj
        · rename_i i j hj
          cases hj
          split at hd
          · rename_i hc
            cases hd
            cases q1
            cases q2
            exact ⟨i, j, rfl, hc, q _ _ _ _ (s1.trans s2) A2 walks_rng⟩
          · cases hd
        · cases hd
      · rename_i hd
        exfalso
        (repeat' split at hd) <;> cases hd
      · exact q.elim
end
end HB
namespace HB
open PySem L2 PySem.Spec PyProof.Rows
/-! ### a new instance, by data -/
section
variable {K : PySem.W.Frag} {mg : Str → Option Value} {rho rho' : List Addr} {F F' H H2 : Hp} {m m2 : M}
/-- the caller's state behind the making -/
theorem Abs.made {x dx : Addr} {oi : HO} (A : Abs K mg rho F H m) (nx : H x = none) (nd : H dx = none) (st : Step [x] F (upd (upd H dx (.own x)) x oi) rho' F' H2) (A2 : Abs K mg rho' F' H2 m2) :
    Step rho F H rho F' H2 ∧ Abs K mg rho F' H2 m := by
  have up : ∀ a o, H a = some o → upd (upd H dx (.own x)) x oi a = some o := fun a o h => by rw [upd_ne (ne_of_none h nx), upd_ne (ne_of_none h nd)]; exact h
  have nx' : ∀ a o, H a = some o → a ∉ [x] := fun a o h z => by rw [List.mem_singleton.mp z, nx] at h; cases h
  have s2 : Step rho F H rho F' H2 := ⟨⟨[], by simp, by simp⟩, st.ex, fun a o h => ⟨o, (st.old a o (up a o h) (nx' a o h)).1⟩, fun a o h _ => st.old a o (up a o h) (nx' a o h)⟩
  refine ⟨s2, ⟨A2.ex, A.len, A.nd, fun i a o hi ho => ?_, fun a ha => let ⟨u, hu⟩ := A.all a ha; ⟨u, (st.old a u (up a u hu) (nx' a u hu)).1⟩⟩⟩
  obtain ⟨u, hu⟩ := A.all a (List.mem_of_getElem? hi)
  obtain ⟨h1, h2⟩ := st.old a u (up a u hu) (nx' a u hu)
  exact (A.own i a o hi ho).mono s2.onto h2 fun v hv => by rw [hu] at hv; cases hv; exact h1
theorem make_data {W : WX} {σ : L2.St} {Q : VK} {np : Nat} {sem : Sem} {c : Str} {C x dx : Addr} {ds : List D} {vs : List V} (A : Abs K mg rho F H m) (r : RpL K mg rho F vs ds) (hn : ds.length + 1 = np) (mc : mg c = some (.ref C)) (nx : H x = none) (nd : H dx = none) (ne : dx ≠ x)
    (h : RdE K mg W σ (relD K mg) rho F H Q (mkD sem c ds m)) : spD K mg np sem (.ref x :: vs) (upd (upd H dx (.own x)) x (.ins C dx [])) (fun v H2 => v = .non ∧ Q (.ref x) H2) (fun cls d H' => W cls d σ H') := by
  unfold mkD at h
  split at h
  · rename_i hc
    have Fx : F x = none := by
      cases e : F x with
      | none => rfl
      | some u => rw [A.ex x u e] at nx; cases nx
    have A0 : Abs K mg [x] F (upd (upd H dx (.own x)) x (.ins C dx [])) [.ins c []] := by
      refine ⟨fun a o e => ?_, rfl, by simp, fun i a o hi ho => ?_, fun a ha => ?_⟩
      · rw [upd_ne (ne_of_none (A.ex a o e) nx), upd_ne (ne_of_none (A.ex a o e) nd)]; exact A.ex a o e
      · cases i with
        | zero =>
          simp at hi ho
          subst hi; subst ho
          exact ⟨Fx, C, dx, [], upd_same, mc, .nil⟩
        | succ i => simp at hi
      · rw [List.mem_singleton.mp ha]; exact ⟨_, upd_same⟩
    refine ⟨by rw [List.length_cons, r.length]; exact hn, [x], F, .ref 0 :: ds, [.ins c []], A0, .cons (.ref rfl) (r.free (Same.refl F) hc), ?_⟩
    split at h
    · rename_i c' fs mr hs
      rw [hs]
      split at h
      · rename_i hf
        simp only [Bool.and_eq_true, decide_eq_true_eq] at hf
        obtain ⟨hf, rfl⟩ := hf
        intro v r2 F2 H2 s2 A2 q2
        cases q2
        refine ⟨rfl, ?_⟩
        have hi : r2[0]? = some x := s2.ix rfl
        obtain ⟨nF, C', dx', fs', h0, hc', rf⟩ := A2.own 0 x _ hi rfl
        obtain ⟨st, A3⟩ := A.made nx nd s2 A2
        have nr : x ∉ rho := A.notmem nx
        have A4 := A3.sideFix nr nF h0
        have st4 := Step.sideFix (o := .ins C' dx' fs') st nx nF
        refine h _ _ _ _ st4 A4 (.obj upd_same hc' ?_)
        exact rf.free (fun b u hb => by rw [upd_ne (ne_of_none hb nF)]; exact hb) hf
      · exact h.elim
    · rename_i e mr hs
      rw [hs]
      split at h
      · rename_i hf
        intro cls d r2 F2 H2 s2 A2 rx
        obtain ⟨st, A3⟩ := A.made nx nd s2 A2
        exact h cls d _ _ _ st A3 (rx.free (Same.refl F2) hf)
      · exact h.elim
    · exact h.elim
  · exact h.elim
end
/-! ### makers by FnG, with keywords -/
section
variable {X : Cx} {k n : Nat} {f C : Addr} {fd : FuncData} {ps ks : List Str} {sp : Sp} {W : WX} {x : Str} {p pos : Pos} {e : Expr} {es : List Expr} {kws : List Keyword} {t tk : TA} {g : List Value → List Value → List Value} {gV : List V → List V → List V}
theorem runG_makeK {pins : List (Addr × Obj)} {σ : L2.St} {H : Hp} {s : Shared} {Q : VK} {us ws : List Value} {vs zs : List V} (mk : Mk X.K C f) (G : FnG X.prog X.w X.K X.mg X.base k f fd ps sp) (hr : Room (k + 1) X.A) (hgd : X.A.guards = some []) (hb : KBn X.K fd ps (n + 1) ks g gV) (tkk : Takes X W)
    (I : Inv X pins σ H s) (r : Vals vs us) (rz : Vals zs ws) (l1 : vs.length = n) (l2 : zs.length = ks.length) (l3 : ∀ x, (gV (V.ref x :: vs) zs).length = ps.length)
    (h : ∀ x dx, H x = none → H dx = none → dx ≠ x → sp (gV (.ref x :: vs) zs) (upd (upd H dx (.own x)) x (.ins C dx [])) (fun v H2 => v = .non ∧ Q (.ref x) H2) (fun cls d H' => W cls d σ H')) :
    wpAny (model X.prog X.w) X.A (call (.ref C) us (ks.zip ws)) (EP X pins σ Q) X.xe s := by
  have want := h (s.heap.objs.size + 1) s.heap.objs.size (I.hok.fresh (Nat.le_succ _)) (I.hok.fresh (Nat.le_refl _)) (Nat.ne_of_lt (Nat.lt_succ_self _))
  have I2 := Inv.made (C := C) I
  have r1 : Vals (V.ref (s.heap.objs.size + 1) :: vs) (Value.ref (s.heap.objs.size + 1) :: us) := .cons rfl r
  have r2 := hb.rel r1 rz
  have n1 : (Value.ref (s.heap.objs.size + 1) :: us).length = n + 1 := by rw [List.length_cons, ← r.length, l1]
  have go := G _ X.stack _ _ ⟨Value.ref (s.heap.objs.size + 1) :: us, ks.zip ws⟩ _ _ _ _ (hr.make C us (ks.zip ws)) (by rw [under_guards]; exact hgd) (I2.env0.make C us (ks.zip ws)) (hb.to _ _ ws I2.kIn n1 (rz.length.symm.trans l2)) r2 (l3 _) want
  refine wpAny_call (make_map (f := f) I.kIn mk.makes mk.init (beq_iff_eq.mp mk.fn) (codeAny_mono go ?_))
  rintro (ex | fl) s2 hq
  · exact tkk ex s2 (XE.of_call I2 (fun cls d H' z => z) hq)
  · cases fl
    case ret u =>
      obtain ⟨v, H2, I3, rv, ev, q3⟩ := I2.after hq
      subst ev
      exact ⟨rv, ⟨V.ref (s.heap.objs.size + 1), H2, I3, rfl, q3⟩⟩
    all_goals exact hq.elim
/-- C(e, .., k = v, ..) -/
theorem peG_makeK (mk : Mk X.K C f) (G : FnG X.prog X.w X.K X.mg X.base k f fd ps sp) (hr : Room (k + 1) X.A) (hgd : X.A.guards = some []) (hg : Gl X x) (hm : X.mg x = some (.ref C)) (hb : KBn X.K fd ps (n + 1) ks g gV) (tkk : Takes X W) (ha : PA X (e :: es) t) (hkw : PK X kws tk)
    (hall : (backToKw pos (keywordEach kws X.env)).all (·.1.isSome) = true) (hks : (backToKw pos (keywordEach kws X.env)).filterMap (·.1) = ks) (hdb : (x == ("__debug__" : Str)) = false)
    (he : starEach (e :: es) X.env = (false, eval e X.env) :: starEach es X.env) (hpl : ((backTo pos (starEach (e :: es) X.env)).any (·.1) || (backToKw pos (keywordEach kws X.env)).any (·.1.isNone)) = false) :
    PE X (.Call (.Name x p) (e :: es) kws pos) (fun σ H Q => t σ H fun vs H1 => tk σ H1 fun zs H2 => vs.length = n ∧ zs.length = ks.length ∧ (∀ x, (gV (V.ref x :: vs) zs).length = ps.length) ∧ ∀ x dx, H2 x = none → H2 dx = none → dx ≠ x →
      sp (gV (.ref x :: vs) zs) (upd (upd H2 dx (.own x)) x (.ins C dx [])) (fun v H3 => v = .non ∧ Q (.ref x) H3) (fun cls d H' => W cls d σ H')) := by
  refine ⟨fun pins s σ H Q I h => ?_⟩
  refine wpAny_Call_Name_kw (ld_glob I hg hm ?_ hdb)
  refine PySem.W.callWith_KW (h₀ := X.base) I.ok.mod.kin mk.kp hall (thn (ha.run pos pins s σ H _ I h) ?_) hpl he
  rintro us s1 ⟨vs, H1, I1, r, q⟩
  refine thn (hkw.run pos pins s1 σ H1 _ I1 q) ?_
  rintro ws s2 ⟨zs, H2, I2, rz, l1, l2, l3, q2⟩
  refine ⟨I2.kIn, ?_⟩
  rw [hks]
  exact runG_makeK mk G hr hgd hb tkk I2 r rz l1 l2 l3 q2
end
end HB
namespace HB
open PySem L2
/-! ### targets -/
theorem wipe_get (σ : L2.St) (j : Nat) : ∀ vs : List Nat, (L2.wipe σ vs)[j]? = if j ∈ vs then (σ[j]?).map (fun _ => none) else σ[j]?
  | [] => by simp [L2.wipe]
  | v :: vs => by
    unfold L2.wipe
    by_cases h : v = j
    · subst h
      have hl : (L2.wipe σ vs).length = σ.length := wipe_length σ vs
      rw [List.getElem?_set_self']
      have := wipe_get σ v vs
      by_cases hv : v < σ.length
      · have e : σ[v]? = some σ[v] := by simp [hv]
        rw [e] at this ⊢
        simp only [List.mem_cons, true_or, if_true, Option.map_some]
        split at this <;> rw [this] <;> rfl
      · have e : σ[v]? = none := by simpa using hv
        rw [e] at this ⊢
        simp only [List.mem_cons, true_or, if_true, Option.map_none]
        split at this <;> rw [this] <;> rfl
    · rw [List.getElem?_set_ne h, wipe_get σ j vs]
      have : j ≠ v := fun e => h e.symm
      simp [this]
theorem wipe_set {σ : L2.St} {i : Nat} {x : Option V} {vs : List Nat} (h : i ∈ vs) : L2.wipe (σ.set i x) vs = L2.wipe σ vs := by
  apply List.ext_getElem?
  intro j
  rw [wipe_get, wipe_get]
  by_cases hj : j ∈ vs
  · rw [if_pos hj, if_pos hj]
    by_cases e : i = j
    · subst e
      rw [List.getElem?_set_self']
      cases σ[i]? <;> rfl
    · rw [List.getElem?_set_ne e]
  · rw [if_neg hj, if_neg hj, List.getElem?_set_ne (fun e => hj (by rw [← e]; exact h))]
/-- σ2 is σ but for the slots gs -/
def SetIn (σ σ2 : L2.St) (gs : List Nat) : Prop := ∀ vs : List Nat, (∀ i ∈ gs, i ∈ vs) → L2.wipe σ2 vs = L2.wipe σ vs
def tG (X : Cx) (g : G) : TG := fun v σ H Q => ∃ rho F env m d, Abs X.K X.mg rho F H m ∧ RpEnv X.K X.mg rho F σ env ∧ Rp X.K X.mg rho F v d ∧ match asgG g d env with
  | some env2 => ∀ σ2, RpEnv X.K X.mg rho F σ2 env2 → SetIn σ σ2 (gSlots g) → Q σ2 H
  | none => False
def tGs (X : Cx) (g : G) : TGs := fun vs σ H Q => ∃ rho F env m ds, Abs X.K X.mg rho F H m ∧ RpEnv X.K X.mg rho F σ env ∧ RpL X.K X.mg rho F vs ds ∧ match asgGs g ds env with
  | some env2 => ∀ σ2, RpEnv X.K X.mg rho F σ2 env2 → SetIn σ σ2 (gSlots g) → Q σ2 H
  | none => False
section
variable {X : Cx} {C : Ck}
structure GdT (X : Cx) (C : Ck) : Prop where
  N : X.N = C.N
  sc : X.env.scope = C.sc
  fn : ∀ x, (match C.raw with
    | none => True
    | some s => s.names.lookup x = some .cell) → X.fn x = true
  nd : X.N.Nodup
  calm : X.calm = true
theorem GdE.t {W : WX} {fs : List Sem} {k : Nat} (g : GdE X W C fs k) : GdT X C := ⟨g.N, g.sc, g.fn, g.nd, g.calm⟩
theorem asgEach_len (env : PySem.Env) : ∀ es : List Expr, (assignEach es env).length = es.length
  | [] => rfl
  | e :: es => by
    cases e <;> simp [assignEach, asgEach_len env es]
theorem asgEach_cons {e : Expr} {es : List Expr} {env : PySem.Env} (h : plainB e = true) : assignEach (e :: es) env = (false, assign e env) :: assignEach es env := by
  cases e <;> first | rfl | (simp [plainB] at h)
theorem asgEach_star {env : PySem.Env} : ∀ {es : List Expr}, es.all plainB = true → (assignEach es env).findIdx? (·.1) = none
  | [], _ => rfl
  | e :: es, h => by
    simp only [List.all_cons, Bool.and_eq_true] at h
    rw [asgEach_cons h.1]
    simp [List.findIdx?_cons, asgEach_star h.2]
theorem chkGs_plain : ∀ {g : G} {es : List Expr}, chkGs C g es = true → es.all plainB = true
  | g, [], _ => rfl
  | .cons g gs, e :: es, h => by
    simp only [chkGs, Bool.and_eq_true] at h
    simp only [List.all_cons, Bool.and_eq_true]
    exact ⟨h.1.1, chkGs_plain h.2⟩
theorem asgGs_len : ∀ {g : G} {ds : List D} {env env2 : Env} {es : List Expr}, chkGs C g es = true → asgGs g ds env = some env2 → ds.length = es.length
  | .nil, [], _, _, [], _, _ => rfl
  | .cons g gs, d :: ds, env, env2, e :: es, h, q => by
    simp only [chkGs, Bool.and_eq_true] at h
    simp only [asgGs] at q
    split at q
    · simp [asgGs_len h.2 q]
    · cases q
theorem SetIn.trans {σ σ1 σ2 : L2.St} {a b : List Nat} (h : SetIn σ σ1 a) (h' : SetIn σ1 σ2 b) : SetIn σ σ2 (a ++ b) := fun vs hv =>
  (h' vs fun i hi => hv i (List.mem_append_right _ hi)).trans (h vs fun i hi => hv i (List.mem_append_left _ hi))
mutual
theorem sndG (Gd : GdT X C) : ∀ (g : G) {e : Expr}, chkG C g e = true → PG X e (tG X g)
  | .name i, .Name x pos, h => by
    simp only [chkG, Bool.and_eq_true, decide_eq_true_eq] at h
    obtain ⟨h1, h2⟩ := h
    have hx : Loc X.env.scope x ∧ (X.fn x = true ∨ X.env.scope.names.lookup x = some .local) := by
      unfold locB at h2
      rw [Gd.sc]
      split at h2
      · rename_i e; exact ⟨.inl e, .inr e⟩
      · rename_i e
        refine ⟨.inr e, .inl (Gd.fn x ?_)⟩
        split at h2
        · rename_i e2; first | trivial | (rw [e2]; trivial)
        · rename_i s e2; first | (rw [e2]; simpa using h2) | simpa using h2
      · cases h2
    refine ⟨fun pins s σ H v u Q I r q => ?_⟩
    refine (pg_name (i := i) Gd.nd (by rw [Gd.N]; exact h1) hx.1 hx.2).run pins s σ H v u Q I r ?_
    obtain ⟨rho, F, env, m, d, A, En, rv, q⟩ := q
    simp only [asgG] at q
    exact q _ (En.set rv i) fun vs hv => wipe_set (hv i (by simp [gSlots]))
  | .tup gs, .Tuple es k pos, h => by
    simp only [chkG] at h
    refine ⟨fun pins s σ H v u Q I r q => ?_⟩
    refine (pg_tup (n := es.length) Gd.calm (sndGs Gd gs h) (asgEach_len _ _) (asgEach_star (chkGs_plain h))).run pins s σ H v u Q I r ?_
    obtain ⟨rho, F, env, m, d, A, En, rv, q⟩ := q
    cases d with
    | tup ds =>
      simp only [asgG] at q
      obtain ⟨p, vs, rfl, hp, hr⟩ := rv.tupH A
      refine ⟨p, vs, rfl, hp, ?_, rho, F, env, m, ds, A, En, hr, q⟩
      split at q
      · rename_i env2 he
        rw [hr.length]
        exact asgGs_len h he
      · exact q.elim
    | _ => simp only [asgG] at q
  | .nil, _, h => by simp [chkG] at h
  | .cons _ _, _, h => by simp [chkG] at h
  | .name _, .BoolOp .., h | .name _, .NamedExpr .., h | .name _, .BinOp .., h | .name _, .UnaryOp .., h | .name _, .Lambda .., h | .name _, .IfExp .., h | .name _, .Dict .., h | .name _, .Set .., h | .name _, .ListComp .., h | .name _, .SetComp .., h
  | .name _, .DictComp .., h | .name _, .GeneratorExp .., h | .name _, .Await .., h | .name _, .Yield .., h | .name _, .YieldFrom .., h | .name _, .Compare .., h | .name _, .Call .., h | .name _, .FormattedValue .., h | .name _, .JoinedStr .., h
  | .name _, .Constant .., h | .name _, .Attribute .., h | .name _, .Subscript .., h | .name _, .Starred .., h | .name _, .List .., h | .name _, .Tuple .., h | .name _, .Slice .., h => by simp [chkG] at h
  | .tup _, .BoolOp .., h | .tup _, .NamedExpr .., h | .tup _, .BinOp .., h | .tup _, .UnaryOp .., h | .tup _, .Lambda .., h | .tup _, .IfExp .., h | .tup _, .Dict .., h | .tup _, .Set .., h | .tup _, .ListComp .., h | .tup _, .SetComp .., h
  | .tup _, .DictComp .., h | .tup _, .GeneratorExp .., h | .tup _, .Await .., h | .tup _, .Yield .., h | .tup _, .YieldFrom .., h | .tup _, .Compare .., h | .tup _, .Call .., h | .tup _, .FormattedValue .., h | .tup _, .JoinedStr .., h
  | .tup _, .Constant .., h | .tup _, .Attribute .., h | .tup _, .Subscript .., h | .tup _, .Starred .., h | .tup _, .List .., h | .tup _, .Name .., h | .tup _, .Slice .., h => by simp [chkG] at h
theorem sndGs (Gd : GdT X C) : ∀ (g : G) {es : List Expr}, chkGs C g es = true → PGs X es (tGs X g)
  | .nil, [], _ => ⟨fun pins s σ H vs us Q I r q => by
    refine pgs_nil.run pins s σ H vs us Q I r ?_
    obtain ⟨rho, F, env, m, ds, A, En, rv, q⟩ := q
    cases rv with
    | nil => exact ⟨rfl, q σ En fun _ _ => rfl⟩
    | cons a b => simp [asgGs] at q⟩
  | .cons g gs, e :: es, h => by
    simp only [chkGs, Bool.and_eq_true] at h
    obtain ⟨⟨h0, h1⟩, h2⟩ := h
    refine ⟨fun pins s σ H vs us Q I r q => ?_⟩
    refine (pgs_cons (sndG Gd g h1) (sndGs Gd gs h2) (by rw [asgEach_cons h0]; rfl)).run pins s σ H vs us Q I r ?_
    obtain ⟨rho, F, env, m, ds, A, En, rv, q⟩ := q
    cases rv with
    | nil => simp [asgGs] at q
    | cons a b =>
      rename_i d _ ds
      simp only [asgGs] at q
      refine ⟨_, _, rfl, rho, F, env, m, d, A, En, a, ?_⟩
      cases e1 : asgG g d env with
      | none => rw [e1] at q; exact q
      | some env2 =>
        rw [e1] at q
        intro σ2 En2 s2
        refine ⟨rho, F, env2, m, ds, A, En2, b, ?_⟩
        simp only at q
        cases e2 : asgGs gs ds env2 with
        | none => rw [e2] at q; exact q
        | some env3 =>
          rw [e2] at q
          exact fun σ3 En3 s3 => q σ3 En3 (s2.trans s3)
  | .nil, _ :: _, h => by simp [chkGs] at h
  | .cons _ _, [], h => by simp [chkGs] at h
  | .name _, _, h => by simp [chkGs] at h
  | .tup _, _, h => by simp [chkGs] at h
end
end
end HB
namespace HB
open PySem L2
abbrev W0 : WX := fun _ _ _ _ => False
def lcStep (g : G) (vs : List Nat) (cB : Bool) (sc se : SE) (env : Env) (x : D) (m : M) : R (Option D) := match asgG g x (wipeD env vs) with
  | some env2 => (if cB then R.ok true m else (sc env2 m).bind truthB).bind fun t m => if t then (se env2 m).bind fun y m => .ok (some y) m else .ok none m
  | none => .no
def lcE (g : G) (vs : List Nat) (cB : Bool) (si sc se : SE) : SE := fun env m => (si env m).bind fun d m => match viewI d m with
  | some xs => if xs.length ≤ sizeLine then (lcGo (lcStep g vs cB sc se env) xs [] m).bind fun ys m => .ok (.lst ys) m else .no
  | none => .no
def tCond (X : Cx) (cB : Bool) (sc : SE) : TT := if cB then tYes else tT X W0 (fun env m => (sc env m).bind truthB)
section
variable {X : Cx} {W : WX}
theorem step_lc {g : G} {vs : List Nat} {cB : Bool} {si sc se : SE} (hgs : ∀ i ∈ gSlots g, i ∈ vs) : ∀ σ H Q, tE X W (lcE g vs cB si sc se) σ H Q → tLc (tI X W si) (tG X g) (tCond X cB sc) (tE X W0 se) vs σ H Q := by
  rintro σ H Q ⟨rho, F, env, m, A, En, h⟩
  refine ⟨rho, F, env, m, A, En, ?_⟩
  unfold lcE at h
  cases ei : si env m with
  | no => rw [ei] at h; exact h
  | ex c m1 => rw [ei] at h; exact h
  | ok d m1 =>
    rw [ei] at h
    simp only [R.bind] at h ⊢
    cases ev : viewI d m1 with
    | none => rw [ev] at h; exact h
    | some xs =>
      rw [ev] at h
      simp only at h ⊢
      split at h
      · rename_i hz
        intro J r1 F1 H1 s1 A1 wk Dl nD
        have nr1 : Dl ∉ r1 := A1.notmem nD
        have nF1 : F1 Dl = none := by
          cases e : F1 Dl with
          | none => rfl
          | some u => rw [A1.ex Dl u e] at nD; cases nD
        refine ⟨fun i n Hi => n = xs.length - i ∧ i ≤ xs.length ∧ ∃ ri Fi mi accV accD, Step r1 F1 H1 ri Fi Hi ∧ Abs X.K X.mg ri Fi Hi mi ∧ Hi Dl = some (.lst accV) ∧ Fi Dl = none ∧ Dl ∉ ri ∧ RpL X.K X.mg ri Fi accV accD ∧ accD.length ≤ i ∧
          RdE X.K X.mg W σ (relD X.K X.mg) rho F H Q ((lcGo (lcStep g vs cB sc se env) (xs.drop i) accD mi).bind fun ys m => .ok (.lst ys) m), ?_, ?_⟩
        · exact ⟨xs.length, by simp, Nat.zero_le _, r1, F1, m1, [], [], Step.refl.side nD, A1.side nr1 nF1, upd_same, nF1, nr1, .nil, Nat.le_refl _, h⟩
        · rintro i n Hi ⟨rfl, hi, ri, Fi, mi, accV, accD, st, Ai, hD, nFi, nri, racc, hacc, hq⟩
          by_cases hlt : i < xs.length
          · right
            have ex : xs[i]? = some xs[i] := by simp [hlt]
            obtain ⟨hgo, hy⟩ := wk.go i xs[i] ri Fi Hi mi ex st.onto Ai
            refine ⟨hgo, fun H' => i + 1 ≤ xs.length ∧ ∃ ri Fi mi accV accD, Step r1 F1 H1 ri Fi H' ∧ Abs X.K X.mg ri Fi H' mi ∧ H' Dl = some (.lst accV) ∧ Fi Dl = none ∧ Dl ∉ ri ∧ RpL X.K X.mg ri Fi accV accD ∧ accD.length ≤ i + 1 ∧
              RdE X.K X.mg W σ (relD X.K X.mg) rho F H Q ((lcGo (lcStep g vs cB sc se env) (xs.drop (i + 1)) accD mi).bind fun ys m => .ok (.lst ys) m), ?_, ?_⟩
            · rintro H' ⟨h1, h2⟩
              exact ⟨xs.length - (i + 1), by omega, rfl, h1, h2⟩
            · intro v H2 hyl
              obtain ⟨F3, st3, A3, rv⟩ := hy v H2 hyl
              obtain ⟨hD2, hF2⟩ := st3.old Dl _ hD nri
              rw [nFi] at hF2
              have dr : xs.drop i = xs[i] :: xs.drop (i + 1) := (List.drop_eq_getElem_cons hlt)
              rw [dr] at hq
              simp only [lcGo] at hq
              refine ⟨ri, F3, wipeD env vs, mi, xs[i], A3, ((En.mono s1.onto).mono (st.trans st3).onto).wipe vs, rv, ?_⟩
              cases eg : asgG g xs[i] (wipeD env vs) with
              | none =>
                simp only [lcStep, eg] at hq
                exact hq
              | some env2 =>
                intro σ2 En2 hset
                have hw : L2.wipe σ2 vs = L2.wipe σ vs := by
                  rw [hset vs hgs]
                  apply List.ext_getElem?
                  intro j
                  rw [wipe_get, wipe_get]
                  by_cases hj : j ∈ vs
                  · rw [if_pos hj, if_pos hj]
                    cases σ[j]? <;> rfl
                  · rw [if_neg hj, if_neg hj]
                refine ⟨hw, ?_⟩
                simp only [lcStep, eg] at hq
                -- the test
                have after : ∀ (t : Bool) (mt : M) (rt : List Addr) (Ft Ht : Hp), Step ri F3 H2 rt Ft Ht → Abs X.K X.mg rt Ft Ht mt →
                    RdE X.K X.mg W σ (relD X.K X.mg) rho F H Q (((match (if t = true then (se env2 mt).bind fun y m => R.ok (some y) m else R.ok none mt : R (Option D)) with
                      | .ok (some y) m => lcGo (lcStep g vs cB sc se env) (xs.drop (i + 1)) (accD ++ [y]) m
                      | .ok none m => lcGo (lcStep g vs cB sc se env) (xs.drop (i + 1)) accD m
                      | _ => .no) : R (List D)).bind fun ys m => .ok (.lst ys) m) →
                    if t = true then tE X W0 se σ2 Ht (fun y H4 => ∃ acc, H4 Dl = some (.lst acc) ∧ acc.length < sizeLine ∧ i + 1 ≤ xs.length ∧ ∃ ri Fi mi accV accD, Step r1 F1 H1 ri Fi (upd H4 Dl (.lst (acc ++ [y]))) ∧ Abs X.K X.mg ri Fi (upd H4 Dl (.lst (acc ++ [y]))) mi ∧ (upd H4 Dl (.lst (acc ++ [y]))) Dl = some (.lst accV) ∧ Fi Dl = none ∧ Dl ∉ ri ∧ RpL X.K X.mg ri Fi accV accD ∧ accD.length ≤ i + 1 ∧
                      RdE X.K X.mg W σ (relD X.K X.mg) rho F H Q ((lcGo (lcStep g vs cB sc se env) (xs.drop (i + 1)) accD mi).bind fun ys m => .ok (.lst ys) m))
                    else (i + 1 ≤ xs.length ∧ ∃ ri Fi mi accV accD, Step r1 F1 H1 ri Fi Ht ∧ Abs X.K X.mg ri Fi Ht mi ∧ Ht Dl = some (.lst accV) ∧ Fi Dl = none ∧ Dl ∉ ri ∧ RpL X.K X.mg ri Fi accV accD ∧ accD.length ≤ i + 1 ∧
                      RdE X.K X.mg W σ (relD X.K X.mg) rho F H Q ((lcGo (lcStep g vs cB sc se env) (xs.drop (i + 1)) accD mi).bind fun ys m => .ok (.lst ys) m)) := by
                  intro t mt rt Ft Ht st4 A4 hq4
                  obtain ⟨hD4, hF4⟩ := st4.old Dl _ hD2 nri
                  rw [hF2] at hF4
                  have nrt : Dl ∉ rt := by
                    obtain ⟨q, e1, e2⟩ := st4.pre
                    rw [e1]
                    intro z
                    rcases List.mem_append.mp z with z | z
                    · exact nri z
                    · rw [e2 _ z] at hD2; cases hD2
                  cases t with
                  | false =>
                    refine iteF ⟨hlt, rt, Ft, mt, accV, accD, (st.trans st3).trans st4, A4, hD4, hF4, nrt, racc.mono (st3.trans st4).onto, by omega, ?_⟩
                    simpa using hq4
                  | true =>
                    refine iteT ⟨rt, Ft, env2, mt, A4, En2.mono st4.onto, ?_⟩
                    simp only [if_true] at hq4
                    cases es : se env2 mt with
                    | no => rw [es] at hq4; exact hq4
                    | ex c m5 => rw [es] at hq4; exact hq4.elim
                    | ok y m5 =>
                      rw [es] at hq4
                      intro yv r5 F5 H5 st5 A5 ry
                      obtain ⟨hD5, hF5⟩ := st5.old Dl _ hD4 nrt
                      rw [hF4] at hF5
                      have nr5 : Dl ∉ r5 := by
                        obtain ⟨q, e1, e2⟩ := st5.pre
                        rw [e1]
                        intro z
                        rcases List.mem_append.mp z with z | z
                        · exact nrt z
                        · rw [e2 _ z] at hD4; cases hD4
                      refine ⟨accV, hD5, by rw [racc.length]; omega, hlt, r5, F5, m5, accV ++ [yv], accD ++ [y], (((st.trans st3).trans st4).trans st5).side nD, A5.side nr5 hF5, upd_same, hF5, nr5, ?_, by simp; omega, hq4⟩
                      exact (racc.mono ((st3.trans st4).trans st5).onto).append (.cons ry .nil)
                unfold tCond
                cases cB with
                | true =>
                  simp only [if_true, R.bind] at hq ⊢
                  exact after true mi ri F3 H2 Step.refl A3 hq
                | false =>
                  simp only [Bool.false_eq_true, if_false] at hq ⊢
                  refine ⟨ri, F3, env2, mi, A3, En2, ?_⟩
                  dsimp only
                  cases ec : (sc env2 mi).bind truthB with
                  | no => rw [ec] at hq; exact hq.elim
                  | ex c m4 => rw [ec] at hq; exact hq.elim
                  | ok t m4 =>
                    rw [ec] at hq
                    simp only [R.bind] at hq
                    intro tv r4 F4 H4 st4 A4 et
                    subst et
                    exact after _ m4 r4 F4 H4 st4 A4 hq
          · left
            have e : i = xs.length := by omega
            subst e
            refine ⟨wk.stop ri Fi Hi mi st.onto Ai, ?_⟩
            simp only [List.drop_length, lcGo, R.bind] at hq
            exact hq _ _ _ _ (s1.trans (st.sideFix nD nFi)) (Ai.sideFix nri nFi hD) (.lst upd_same (racc.mono ⟨fun h => h, fun b u h => by rw [upd_ne (ne_of_none h nFi)]; exact h⟩))
      · exact h.elim
end
end HB
namespace HB
open PySem L2
def isBoolOp : Expr → Bool
  | .BoolOp _ _ _ => true
  | _ => false
structure SndE (X : Cx) (W : WX) (fs : List Sem) (e : T) (pe : Expr) : Prop where
  v : PE X pe (tE X W (evE fs e))
  t : PT X pe (tT X W (evT fs e))
  w : isBoolOp pe = true → PW X pe (tT X W (evT fs e))
def SndP (fs : List Sem) (e : T) : Prop := ∀ X W C k, GdE X W C fs k → (∀ pe, chk C e pe = true → SndE X W fs e pe) ∧ (∀ ps, chkA C e ps = true → PA X ps (tA X W (evA fs e)))
section
variable {X : Cx} {W : WX} {C : Ck} {fs : List Sem} {k : Nat}
/-- a test by the truth of its value -/
theorem SndE.plain {e : T} {pe : Expr} (h : PE X pe (tE X W (evE fs e))) (he : ∀ whole, isTrue pe X.env whole = (do let v ← whole; standAt pe.pos; holding [v] (truthy v))) (nb : isBoolOp pe = false) : SndE X W fs e pe :=
  ⟨h, PT.imp (pt_truth h he) fun σ H Q q => step_truth σ H Q q, fun z => by rw [nb] at z; cases z⟩
theorem vis_of {sc : Scope} {x : Str} (h : visB sc x = true) : Vis sc x := by
  unfold visB at h
  split at h
  · rename_i e; exact .inl e
  · rename_i e; exact .inr (.inl e)
  · rename_i e; exact .inr (.inr e)
  · cases h
theorem okN_of {x : Str} (h : okN x = true) : (x == ("__debug__" : Str)) = false ∧ (x == ("__classdict__" : Str)) = false ∧ x ≠ "__name__" := by
  simp only [okN, Bool.and_eq_true, Bool.not_eq_true', decide_eq_true_eq] at h
  exact ⟨h.1.1, h.1.2, h.2⟩
theorem gl_of (g : GdE X W C fs k) {x : Str} (h : glB C.sc x = true) : Gl X x ∧ (x == ("__debug__" : Str)) = false ∧ x ≠ "__name__" := by
  simp only [glB, Bool.and_eq_true, decide_eq_true_eq] at h
  obtain ⟨h1, h2⟩ := h
  obtain ⟨a, _, c⟩ := okN_of h2
  refine ⟨?_, a, c⟩
  show X.env.scope.names.lookup x = _
  rw [g.sc]; exact h1
theorem GdE.blk (g : GdE X W C fs k) {scope : Scope} {own : List (Str × Nat)} (s : Shared) (H : Hp) (A : Addr) (cl : List (Str × Addr)) (fp : List Addr) :
    GdE (X.blk s H scope (compEnvC scope cl A X.env) fp) W0 { C with sc := relS scope C.sc, raw := some scope } fs k where
  N := g.N
  sc := by show relS scope X.env.scope = _; rw [g.sc]
  fn := fun x h => by
    show (scope.names.lookup x == some .cell) = true
    simp only at h
    rw [h]; rfl
  nd := g.nd
  calm := g.calm
  room := g.room
  gd := g.gd
  tk := takes0
  fl := g.fl
  fl4 := g.fl4
  fok := g.fok
  mok := g.mok
  pok := g.pok
  cok := g.cok
  tb := g.tb
  bs := g.bs
  nob := g.nob
theorem units_of (g : GdE X W C fs k) : X.A.units + 130 < cLine := by have := g.room.un; omega
theorem blt_call (g : GdE X W C fs k) (b : BF) : CallD X (bfV b) (bfD b) := by
  cases b
  · exact cd_abs
  · exact cd_max g.calm
  · exact cd_min g.calm
  · exact cd_sum g.calm
  · exact cd_int
  · exact cd_str
  · exact cd_len
  · exact cd_all g.calm
  · exact cd_any g.calm
  · exact cd_tuple
  · exact cd_list g.calm
  · exact cd_listM
  · exact cd_repr g.gd (units_of g) g.bs
  · exact cd_sorted g.calm
  · exact cd_dict g.calm
  · exact cd_dictM g.calm
  · exact cd_iter
theorem bfD_noex {b : BF} {ds : List D} {m : M} {c : Exc} {m' : M} : bfD b ds m ≠ .ex c m' := by
  intro h
  cases b <;> simp only [bfD, absD, maxD, minD, sumD, intD, strD, lenD, allD, anyD, tupleD, listD, listMD, reprD, sortedD, dictD, dictMD, iterD] at h <;> (repeat' split at h) <;> cases h
theorem boot_bf (b : BF) : bootBuiltins (bfX b) = some (bfV b) := by
  cases b <;> decide +kernel
theorem mem_bf (b : BF) : bfX b ∈ bltAll := by
  cases b <;> decide +kernel
/-- f(e, ..), f a built-in -/
theorem pe_blt (g : GdE X W C fs k) {b : BF} {e : Expr} {es : List Expr} {p pos : Pos} {sa : SA} (hg : glB C.sc (bfX b) = true) (hp : (e :: es).all plainB = true) (ha : PA X (e :: es) (tA X W sa)) :
    PE X (.Call (.Name (bfX b) p) (e :: es) [] pos) (tE X W fun env m => (sa env m).bind fun ds m => bfD b ds m) := by
  obtain ⟨hgl, hd, hn⟩ := gl_of g hg
  simp only [List.all_cons, Bool.and_eq_true] at hp
  have key : ∀ σ H Q, tE X W (fun env m => (sa env m).bind fun ds m => bfD b ds m) σ H Q → tCB (fun xs H Q => ∃ rho F m ds, Abs X.K X.mg rho F H m ∧ RpL X.K X.mg rho F xs ds ∧ RdO X.K X.mg rho F H Q (bfD b ds m)) (tA X W sa) σ H Q := by
    rintro σ H Q ⟨rho, F, env, m, A, En, h⟩
    refine ⟨rho, F, env, m, A, En, RdE.bind h fun ds m1 vs r1 F1 H1 s1 A1 q1 h1 => ?_⟩
    exact ⟨r1, F1, m1, ds, A1, q1, h1.of0 fun c m' => bfD_noex⟩
  have cd := blt_call g b
  have hm := g.nob _ (mem_bf b)
  have bt := boot_bf b
  cases hv : bfV b with
  | builtin id =>
    rw [hv] at cd bt
    exact PE.imp (pe_callB cd hgl hm bt ha hn hd (star_cons hp.1) (star_any hp.2)) key
  | type T =>
    rw [hv] at cd bt
    exact PE.imp (pe_callTy cd hgl hm bt ha hn hd (star_cons hp.1) (star_any hp.2)) key
  | _ => cases b <;> simp [bfV] at hv
/-- isinstance(x, T) -/
theorem cls_boot {c : String} (h : c ∈ clsNames) : bootBuiltins (Str.ofString c) = some (.type c) ∧ Str.ofString c ∈ bltAll := by
  simp only [clsNames, List.mem_cons, List.not_mem_nil, or_false] at h
  rcases h with rfl | rfl | rfl | rfl | rfl | rfl <;> exact ⟨by decide +kernel, by decide +kernel⟩
theorem isi_noex {d : D} {c : String} {m : M} {e : Exc} {m' : M} : isiD d c m ≠ .ex e m' := by
  intro h
  unfold isiD at h
  (repeat' split at h) <;> cases h
theorem pe_isi (g : GdE X W C fs k) {a : Expr} {c : String} {p p2 pos : Pos} {sa : SE} (hg : glB C.sc "isinstance" = true) (hg2 : glB C.sc (Str.ofString c) = true) (hc : c ∈ clsNames) (hp : plainB a = true) (ha : PE X a (tE X W sa)) :
    PE X (.Call (.Name "isinstance" p) [a, .Name (Str.ofString c) p2] [] pos) (tE X W fun env m => (sa env m).bind fun d m => isiD d c m) := by
  obtain ⟨hgl, hd, hn⟩ := gl_of g hg
  obtain ⟨hgl2, hd2, hn2⟩ := gl_of g hg2
  obtain ⟨bt, mb⟩ := cls_boot hc
  refine PE.imp (pe_callB (x := "isinstance") (id := "isinstance") call_isi hgl (g.nob _ (by decide +kernel)) (by decide +kernel)
    (pa_cons ha (pa_cons (pe_bltn (v := .ty c) hgl2 (g.nob _ mb) bt rfl hn2 hd2) pa_nil) (star_cons hp)) hn hd (star_cons hp) rfl) ?_
  rintro σ H Q ⟨rho, F, env, m, A, En, h⟩
  refine ⟨rho, F, env, m, A, En, RdE.bind h fun d m1 v r1 F1 H1 s1 A1 q1 h1 => ?_⟩
  have h2 := h1.of0 fun c m' => isi_noex
  unfold isiD at h2
  split at h2
  · rename_i t ht
    split at h2
    · rename_i b hb
      exact ⟨v, .ty c, .type t, .type c, b, rfl, .ty c, ty_of A1 q1 ht, kit_ty hb, h2.here A1 .bl⟩
    · exact h2.elim
  · exact h2.elim
theorem base_plain {o : Expr} {name : Str} {env : PySem.Env} {whole : PySem.Sem Value} (h : noCall0 o = true) : attributeBase o name env whole = whole := by
  unfold attributeBase
  split
  · simp [noCall0] at h
  · rfl
theorem join_noex {d e : D} {m : M} {c : Exc} {m' : M} : joinD d e m ≠ .ex c m' := by
  intro h
  unfold joinD at h
  (repeat' split at h) <;> cases h
theorem popAt_noex {d e : D} {m : M} {c : Exc} {m' : M} : popAtD d e m ≠ .ex c m' := by
  intro h
  unfold popAtD at h
  (repeat' split at h) <;> cases h
theorem pe_joinD {a b : Expr} {ap pos : Pos} {sa sb : SE} (h0 : noCall0 a = true) (hp : plainB b = true) (hl : (ap.endLine == pos.line) = true) (ha : PE X a (tE X W sa)) (hb : PE X b (tE X W sb)) :
    PE X (.Call (.Attribute a "join" ap) [b] [] pos) (tE X W fun env m => (sa env m).bind fun d m => match d with
      | .str x => (sb env m).bind fun e m => joinD (.str x) e m
      | _ => .no) := by
  refine PE.imp (pe_join ha hb (star_cons hp) (base_plain h0) hl) ?_
  rintro σ H Q ⟨rho, F, env, m, A, En, h⟩
  refine ⟨rho, F, env, m, A, En, RdE.bind h fun d m1 v r1 F1 H1 s1 A1 q1 h1 => ?_⟩
  split at h1
  · cases q1
    refine ⟨⟨_, rfl⟩, r1, F1, env, m1, A1, En.mono s1.onto, RdE.bind h1 fun e m2 u r2 F2 H2 s2 A2 q2 h2 => ?_⟩
    have h3 := h2.of0 fun c m' => join_noex
    unfold joinD at h3
    simp only at h3
    split at h3
    · rename_i ys hy
      split at h3
      · rename_i hc
        cases hv : viewQ e m2 with
        | none => rw [hv] at hy; cases hy
        | some ds =>
          rw [hv] at hy
          have e1 := asStrs_eq (show asStrs ds = some ys from hy)
          subst e1
          obtain ⟨p, vs, rfl, hp, q3⟩ := q2.viewQ A2 hv
          have e2 := q3.strs
          subst e2
          exact ⟨_, p, ys, rfl, rfl, hp, hc, h3.here A2 .str⟩
      · exact h3.elim
    · exact h3.elim
  · exact h1.elim
theorem pe_popD {a b : Expr} {ap pos : Pos} {sa sb : SE} (h0 : noCall0 a = true) (hp : plainB b = true) (hl : (ap.endLine == pos.line) = true) (ha : PE X a (tE X W sa)) (hb : PE X b (tE X W sb)) :
    PE X (.Call (.Attribute a "pop" ap) [b] [] pos) (tE X W fun env m => (sa env m).bind fun d m => match d with
      | .ref k => match m[k]? with
        | some (.lst _) => (sb env m).bind fun e m => popAtD (.ref k) e m
        | _ => .no
      | _ => .no) := by
  refine PE.imp (pe_bm PySem.F.plainAttrs_list PySem.F.slot_list_pop PySem.F.type_list_pop mt_popAt ha (pa_cons hb pa_nil (star_cons hp)) (base_plain h0) (by rw [star_cons hp]; rfl) hl (star_cons hp) rfl) ?_
  rintro σ H Q ⟨rho, F, env, m, A, En, h⟩
  refine ⟨rho, F, env, m, A, En, RdE.bind h fun d m1 v r1 F1 H1 s1 A1 q1 h1 => ?_⟩
  split at h1
  · split at h1
    · rename_i kk ds hm
      cases q1 with
      | ref hi =>
        rename_i p
        obtain ⟨_, vs0, h00, _⟩ := A1.own _ _ _ hi hm
        refine ⟨.inl ⟨rfl, _, SqL.of h00⟩, r1, F1, env, m1, A1, En.mono s1.onto, RdE.bind h1 fun e m2 u r2 F2 H2 s2 A2 q2 h2 => ?_⟩
        have h3 := h2.of0 fun c m' => popAt_noex
        unfold popAtD at h3
        split at h3
        · rename_i k2 i e1 
          cases e1
          split at h3
          · rename_i ds2 hm2
            split at h3
            · rename_i hb63
              split at h3
              · rename_i j hj
                split at h3
                · rename_i y hy
                  cases q2
                  have hi2 := s2.ix hi
                  obtain ⟨nF, vs, h0, r⟩ := A2.own _ _ _ hi2 hm2
                  obtain ⟨yv, hyv, ry⟩ := r.get hy
                  obtain ⟨st, A3⟩ := A2.write (o := .lst (vs.eraseIdx j)) (y := .lst (ds2.eraseIdx j)) hi2 hm2 nF ⟨_, h0⟩ ⟨nF, _, upd_same, r.eraseIdx j⟩
                  exact ⟨_, vs, i, j, yv, rfl, rfl, h0, hb63.1, hb63.2, by rw [r.length]; exact hj, hyv, h3 _ _ _ _ st A3 ry⟩
                · exact h3.elim
              · exact h3.elim
            · exact h3.elim
          · exact h3.elim
        · exact h3.elim
    · exact h1.elim
  · exact h1.elim
end
end HB
namespace HB
open PySem L2
section
variable {fs : List Sem}
theorem some_sem {X : Cx} {W : WX} {C : Ck} {k : Nat} (g : GdE X W C fs k) {j : Nat} {x : Str} {n : Nat} (hj : C.fns[j]? = some (x, n)) : ∃ sem, fs[j]? = some sem := by
  have h1 := (List.getElem?_eq_some_iff.mp hj).1
  have h2 := g.fl
  exact ⟨fs[j], by simp [Nat.lt_of_lt_of_le h1 h2]⟩
theorem snd_call0 {X : Cx} {W : WX} {C : Ck} {k : Nat} (g : GdE X W C fs k) {j : Nat} {x : Str} {p pos : Pos} (hj : C.fns[j]? = some (x, 0)) (hg : glB C.sc x = true) :
    PE X (.Call (.Name x p) [] [] pos) (tE X W fun env m => (R.ok [] m : R (List D)).bind fun ds m => match fs[j]? with
      | some sem => callD sem ds m
      | none => .no) := by
  obtain ⟨sem, hf⟩ := some_sem g hj
  obtain ⟨hgl, hd, hn⟩ := gl_of g hg
  obtain ⟨f, fd, qs, hm, hk, hb, hl, G⟩ := g.fok j x 0 sem hj hf
  refine PE.imp (peG0 (dvs := []) (ds := []) G g.room g.gd hgl hm hk hb .nil g.tk hd) fun σ H Q q => ?_
  obtain ⟨rho, F, env, m, A, En, h⟩ := q
  simp only [R.bind, hf] at h
  exact ⟨by rw [hl]; rfl, call_data A .nil rfl h⟩
theorem snd_call {X : Cx} {W : WX} {C : Ck} {k : Nat} (g : GdE X W C fs k) {j : Nat} {x : Str} {e : Expr} {es : List Expr} {p pos : Pos} {sa : SA} (hj : C.fns[j]? = some (x, (e :: es).length)) (hg : glB C.sc x = true) (hpl : (e :: es).all plainB = true) (ha : PA X (e :: es) (tA X W sa)) (hlen : ∀ env m ds m1, sa env m = .ok ds m1 → ds.length = (e :: es).length) :
    PE X (.Call (.Name x p) (e :: es) [] pos) (tE X W fun env m => (sa env m).bind fun ds m => match fs[j]? with
      | some sem => callD sem ds m
      | none => .no) := by
  obtain ⟨sem, hf⟩ := some_sem g hj
  obtain ⟨hgl, hd, hn⟩ := gl_of g hg
  obtain ⟨f, fd, qs, hm, hk, hb, hl, G⟩ := g.fok j x (e :: es).length sem hj hf
  have key : ∀ σ H Q, tE X W (fun env m => (sa env m).bind fun ds m => match fs[j]? with
      | some sem => callD sem ds m
      | none => .no) σ H Q → tA X W sa σ H (fun vs H1 => (vs ++ ([] : List V)).length = qs.length ∧ spD X.K X.mg (e :: es).length sem (vs ++ ([] : List V)) H1 Q (fun cls d H' => W cls d σ H')) := by
    rintro σ H Q ⟨rho, F, env, m, A, En, h⟩
    refine ⟨rho, F, env, m, A, En, ?_⟩
    simp only [hf] at h
    cases ea : sa env m with
    | no => rw [ea] at h; exact h
    | ex c m1 => rw [ea] at h; exact h
    | ok ds m1 =>
      rw [ea] at h
      intro vs r1 F1 H1 s1 A1 q1
      have hl2 := hlen env m ds m1 ea
      rw [List.append_nil]
      exact ⟨by rw [q1.length, hl2, hl], call_data A1 q1 hl2 (RdE.step (show RdE X.K X.mg W σ (relD X.K X.mg) rho F H Q (callD sem ds m1) from h) s1)⟩
  simp only [List.all_cons, Bool.and_eq_true] at hpl
  exact PE.imp (peG (dvs := []) (ds := []) G g.room g.gd hgl hm hk hb .nil g.tk ha hd (star_cons hpl.1) (star_any hpl.2)) key
theorem evA_len {C : Ck} : ∀ {t : T} {ps : List Expr} {env : Env} {m m1 : M} {ds : List D}, chkA C t ps = true → evA fs t env m = .ok ds m1 → ds.length = ps.length
  | .nil, [], _, _, _, _, _, h => by simp only [evA] at h; cases h; rfl
  | .cons a es, p :: ps, env, m, m1, ds, hc, h => by
    simp only [chkA, Bool.and_eq_true] at hc
    simp only [evA] at h
    cases ea : evE fs a env m with
    | no => rw [ea] at h; cases h
    | ex c m2 => rw [ea] at h; cases h
    | ok d m2 =>
      rw [ea] at h
      simp only [R.bind] at h
      cases er : evA fs es env m2 with
      | no => rw [er] at h; cases h
      | ex c m3 => rw [er] at h; cases h
      | ok ds2 m3 =>
        rw [er] at h
        cases h
        simp [evA_len hc.2 er]
/-! ### the evaluator's word on expressions is sound -/
theorem noA {e : T} (h : ∀ C ps, chkA C e ps = false) {X : Cx} {W : WX} {C : Ck} : ∀ ps, chkA C e ps = true → PA X ps (tA X W (evA fs e)) := fun ps q => by rw [h] at q; cases q
def AllS (fs : List Sem) : T → Prop
  | .cons a es => SndP fs a ∧ AllS fs es
  | _ => True
theorem chkA_cons {C : Ck} {es : T} {p : Expr} {ps : List Expr} (h : chkA C es (p :: ps) = true) : ∃ a r, es = .cons a r ∧ plainB p = true ∧ chk C a p = true ∧ chkA C r ps = true := by
  cases es <;> first | (simp [chkA] at h; done) | skip
  simp only [chkA, Bool.and_eq_true] at h
  exact ⟨_, _, rfl, h.1.1, h.1.2, h.2⟩
theorem nil_of {es : T} {C : Ck} (h : chkA C es [] = true) : es = .nil := by
  cases es <;> first | rfl | (simp [chkA] at h)
theorem tup_of {tg : Expr} (h : isTupE tg = true) : ∃ elts kk tpos, tg = .Tuple elts kk tpos := by
  cases tg <;> first | exact ⟨_, _, _, rfl⟩ | (simp [isTupE] at h)
theorem itD_noex {k : IK} {ds : List D} {m : M} {c : Exc} {m' : M} : itD k ds m ≠ .ex c m' := by
  intro h
  unfold itD at h
  (repeat' split at h) <;> cases h
theorem zip_view {K : PySem.W.Frag} {mg : Str → Option Value} {rho : List Addr} {F H : Hp} (ex : Same F H) {ds : List D} {vs : List V} {d : D} {m m2 : M} (h : itD .zip ds m = .ok d m2) (r : RpL K mg rho F vs ds) :
    ∃ a b us ws xs ys, vs = [V.ref a, V.ref b] ∧ d = .lst (zipD xs ys) ∧ m2 = m ∧ RpL K mg rho F us xs ∧ RpL K mg rho F ws ys ∧ ((F a = some (.lst us) ∧ F b = some (.lst ws)) ∨ (SqT K F a us ∧ SqT K F b ws)) := by
  unfold itD at h
  split at h
  all_goals try contradiction
  · cases h
    cases r with
    | cons r1 r =>
      cases r with
      | cons r2 r =>
        cases r
        cases r1 with
        | tup h1 q1 =>
          cases r2 with
          | tup h2 q2 => exact ⟨_, _, _, _, _, _, rfl, rfl, rfl, q1, q2, .inr ⟨h1, h2⟩⟩
  · cases h
    cases r with
    | cons r1 r =>
      cases r with
      | cons r2 r =>
        cases r
        cases r1 with
        | lst h1 q1 =>
          cases r2 with
          | lst h2 q2 => exact ⟨_, _, _, _, _, _, rfl, rfl, rfl, q1, q2, .inl ⟨h1, h2⟩⟩
theorem enum_view {K : PySem.W.Frag} {mg : Str → Option Value} {rho : List Addr} {F H : Hp} (ex : Same F H) {ds : List D} {vs : List V} {d : D} {m m2 : M} (h : itD .enum ds m = .ok d m2) (r : RpL K mg rho F vs ds) :
    ∃ a us xs, vs = [V.ref a] ∧ d = .lst (enumD 0 xs) ∧ m2 = m ∧ RpL K mg rho F us xs ∧ F a = some (.lst us) := by
  unfold itD at h
  split at h
  all_goals try contradiction
  · cases h
    cases r with
    | cons r1 r =>
      cases r
      cases r1 with
      | lst h1 q1 => exact ⟨_, _, _, rfl, rfl, rfl, q1, h1⟩
/-- the further things that are walked -/
theorem snd_ik {X : Cx} {W : WX} {C : Ck} {k : Nat} (g : GdE X W C fs k) {ik : IK} {es : T} {iter tg : Expr} {ps : List Expr} (P : SndP fs es) (Pa : AllS fs es) (h : itC C tg ik iter = some ps) (hc : chkA C es ps = true) : PI X tg iter (tI X W (evE fs (.iter ik es))) := by
  have ev : ∀ env m, evE fs (.iter ik es) env m = (evA fs es env m).bind fun ds m => itD ik ds m := fun env m => by simp only [evE]
  unfold itC at h
  split at h
  all_goals try contradiction
  all_goals try (cases h; done)
  · -- values
    split at h
    · rename_i p x ap pos hb
      cases h
      simp only [Bool.and_eq_true, decide_eq_true_eq] at hb
      obtain ⟨⟨rfl, h2⟩, h3⟩ := hb
      obtain ⟨a, r, rfl, _, c1, c2⟩ := chkA_cons hc
      have := nil_of c2
      subst this
      refine piImp (pi_values ((Pa.1 X W C k g).1 _ c1).v (base_plain h2) h3) ?_
      rintro σ H Rr ⟨rho, F, env, m, A, En, q⟩
      refine ⟨rho, F, env, m, A, En, ?_⟩
      rw [ev] at q
      simp only [evA] at q
      cases e : evE fs a env m with
      | no => rw [e] at q; exact q.elim
      | ex c m1 => rw [e] at q; exact q
      | ok d m1 =>
        rw [e] at q
        simp only [R.bind] at q
        intro v r1 F1 H1 s1 A1 q1
        cases d with
        | dct kvs =>
          obtain ⟨p', o, ks, es', rfl, hp, hk', kr, _⟩ := q1.frzD A1.ex
          simp only [itD, hk', viewI] at q
          exact ⟨p', o, ks, rfl, A1.ex _ _ hp, q _ _ _ _ s1 A1 (walks_vals hp kr)⟩
        | _ => first | (simp only [itD] at q; done) | (simp only [itD] at q; exact q.elim)
    · cases h
  · -- zip
    split at h
    · rename_i x xp p1 p2 pos hb
      cases h
      simp only [Bool.and_eq_true, decide_eq_true_eq] at hb
      obtain ⟨⟨⟨⟨rfl, h2⟩, h3⟩, h4⟩, h5⟩ := hb
      obtain ⟨elts, kk, tpos, rfl⟩ := tup_of h5
      obtain ⟨gl, hd, hn⟩ := gl_of g h2
      refine piImp (RZ.pi_zipA gl (g.nob _ (by decide +kernel)) ((P X W C k g).2 _ hc) (star_cons h3) (by rw [star_cons h4]; rfl)) ?_
      rintro σ H Rr ⟨rho, F, env, m, A, En, q⟩
      refine ⟨rho, F, env, m, A, En, ?_⟩
      rw [ev] at q
      cases e : evA fs es env m with
      | no => rw [e] at q; exact q.elim
      | ex c m1 => rw [e] at q; exact q
      | ok ds m1 =>
        rw [e] at q
        simp only [R.bind] at q
        intro vs r1 F1 H1 s1 A1 q1
        cases e2 : itD .zip ds m1 with
        | no => rw [e2] at q; exact q.elim
        | ex c m2 => exact absurd e2 itD_noex
        | ok d m2 =>
          rw [e2] at q
          obtain ⟨a, b, us, ws, xs, ys, rfl, rfl, rfl, ra, rb, hz⟩ := zip_view A1.ex e2 q1
          simp only [viewI] at q
          refine ⟨a, b, us, ws, rfl, ?_⟩
          rcases hz with ⟨ha, hb⟩ | ⟨ha, hb⟩
          · exact .inl ⟨SqL.of (A1.ex _ _ ha), SqL.of (A1.ex _ _ hb), q _ _ _ _ s1 A1 (walks_zip (fun F2 H2 e1 e2 => SqL.of (e2 _ _ (e1 _ _ ha))) (fun F2 H2 e1 e2 => SqL.of (e2 _ _ (e1 _ _ hb))) ra rb)⟩
          · exact .inr ⟨sqT_mono A1.ex ha, sqT_mono A1.ex hb, q _ _ _ _ s1 A1 (walks_zipT (fun F2 H2 e1 e2 => sqT_mono e2 (sqT_mono e1 ha)) (fun F2 H2 e1 e2 => sqT_mono e2 (sqT_mono e1 hb)) ra rb)⟩
    · cases h
  · -- enumerate
    split at h
    · rename_i x xp p1 pos hb
      cases h
      simp only [Bool.and_eq_true, decide_eq_true_eq] at hb
      obtain ⟨⟨⟨rfl, h2⟩, h3⟩, h5⟩ := hb
      obtain ⟨elts, kk, tpos, rfl⟩ := tup_of h5
      obtain ⟨gl, hd, hn⟩ := gl_of g h2
      refine piImp (pi_enum gl (g.nob _ (by decide +kernel)) ((P X W C k g).2 _ hc) (star_cons h3)) ?_
      rintro σ H Rr ⟨rho, F, env, m, A, En, q⟩
      refine ⟨rho, F, env, m, A, En, ?_⟩
      rw [ev] at q
      cases e : evA fs es env m with
      | no => rw [e] at q; exact q.elim
      | ex c m1 => rw [e] at q; exact q
      | ok ds m1 =>
        rw [e] at q
        simp only [R.bind] at q
        intro vs r1 F1 H1 s1 A1 q1
        cases e2 : itD .enum ds m1 with
        | no => rw [e2] at q; exact q.elim
        | ex c m2 => exact absurd e2 itD_noex
        | ok d m2 =>
          rw [e2] at q
          obtain ⟨a, us, xs, rfl, rfl, rfl, ra, ha⟩ := enum_view A1.ex e2 q1
          simp only [viewI] at q
          exact ⟨a, us, rfl, SqL.of (A1.ex _ _ ha), q _ _ _ _ s1 A1 (walks_enum (fun F2 H2 e1 e2 => SqL.of (e2 _ _ (e1 _ _ ha))) ra)⟩
    · cases h
theorem snd_iter {X : Cx} {W : WX} {C : Ck} {k : Nat} (g : GdE X W C fs k) {it : T} {iter tg : Expr} (P : SndP fs it) (P1 : ∀ a, it = .rng1 a → SndP fs a) (P2 : ∀ a b, it = .rng2 a b → SndP fs a ∧ SndP fs b) (P3 : ∀ k es, it = .iter k es → SndP fs es ∧ AllS fs es) (h : chkI C tg it iter = true) : PI X tg iter (tI X W (evE fs it)) := by
  unfold chkI at h
  split at h
  · simp only [Bool.and_eq_true, decide_eq_true_eq] at h
    obtain ⟨⟨⟨hx, hg⟩, hp⟩, hc⟩ := h
    subst hx
    exact pi_rng1 (gl_of g hg).1 (g.nob _ (by decide +kernel)) hp (((P1 _ rfl) X W C k g).1 _ hc).v
  · simp only [Bool.and_eq_true, decide_eq_true_eq] at h
    obtain ⟨⟨⟨⟨⟨hx, hg⟩, hp⟩, hp2⟩, hc⟩, hc2⟩ := h
    subst hx
    exact pi_rng2 (gl_of g hg).1 (g.nob _ (by decide +kernel)) hp hp2 (((P2 _ _ rfl).1 X W C k g).1 _ hc).v (((P2 _ _ rfl).2 X W C k g).1 _ hc2).v
  · split at h
    · rename_i ps hi
      exact snd_ik g (P3 _ _ rfl).1 (P3 _ _ rfl).2 hi h
    · cases h
  · exact pi_data ((P X W C k g).1 _ h).v
theorem folded_plain {iter : Expr} {env : PySem.Env} (h : noSet iter = true) : ∀ x, foldedSetIterable iter env x = pure x := by
  intro x
  cases iter <;> first | rfl | (simp [noSet] at h)
end
end HB
namespace HB
open PySem L2
open PySem.HBX
/-! ### calls whose arguments are made ahead -/
section
variable {fs : List Sem}
def PrOk (fs : List Sem) (p : Pr) : Prop := ∀ (X : Cx) (W : WX) (C : Ck) (k : Nat), GdE X W C fs k → ∀ e ps, prC C p e = some ps → ∀ sa : SA, PA X ps (tA X W sa) → (∀ env m ds m1, sa env m = .ok ds m1 → ds.length = ps.length) →
  PE X e (tE X W fun env m => (sa env m).bind fun ds m => prD fs p ds m) ∧ (∀ whole, isTrue e X.env whole = (do let v ← whole; standAt e.pos; holding [v] (truthy v))) ∧ isBoolOp e = false
theorem pvV_of {fl : Bool} {d : D} {v : V} {K : PySem.W.Frag} {mg : Str → Option Value} {rho : List Addr} {F : Hp} (h : pvD fl d = true) (r : Rp K mg rho F v d) : pvV fl v := by
  cases fl with
  | false => trivial
  | true =>
    cases d <;> first | (simp [pvD] at h; done) | skip
    · cases r
      exact .inr ⟨_, rfl, by simpa [pvD] using h⟩
    · cases r
      exact .inl ⟨_, rfl, by simpa [pvD] using h⟩
theorem pr_xnew (n f : Str) (fl : Bool) : PrOk fs (.xnew n f fl) := by
  intro X W C k g e ps h sa ha hlen
  unfold prC at h
  split at h
  all_goals try contradiction
  all_goals try (cases h; done)
  · rename_i heq
    cases heq
    split at h
    · rename_i x xp p pos hc
      cases h
      simp only [Bool.and_eq_true, decide_eq_true_eq, List.contains_iff_mem] at hc
      obtain ⟨⟨⟨rfl, h2⟩, h3⟩, h4⟩ := hc
      obtain ⟨gl, hd, _⟩ := gl_of g h2
      obtain ⟨vn, Cl, fI, T, hv, hdb⟩ := g.tb.xok _ _ _ h4
      refine ⟨PE.imp (pe_xnew T hv g.tb.sup g.room ha gl hd (star_cons h3) rfl) ?_, fun _ => rfl, rfl⟩
      rintro σ H Q ⟨rho, F, env, m, A, En, h⟩
      refine ⟨rho, F, env, m, A, En, RdE.bind h fun ds m1 vs r1 F1 H1 s1 A1 q1 h1 => ?_⟩
      match ds, vs, q1, h1 with
      | [d], [v], .cons qv .nil, h1 =>
        simp only [prD] at h1
        split at h1
        · rename_i hp
          refine ⟨v, rfl, pvV_of hp qv, fun dd ee nd ne hne => ?_⟩
          obtain ⟨st, A'⟩ := A1.fresh (o := .xd [(f, v)]) nd
          have ne' : upd H1 dd (.xd [(f, v)]) ee = none := by rw [upd_ne (Ne.symm hne)]; exact ne
          obtain ⟨st2, A2⟩ := A'.fresh (o := XV (.ref Cl) (some dd) ee) ne'
          refine h1 _ _ _ _ (st.trans st2) A2 (.xv upd_same T.gC ?_ (.cons ((qv.mono st.onto).mono st2.onto) .nil))
          rw [upd_ne hne, upd_same]
        · exact h1.elim
      | [], _, _, h1 => simp only [prD] at h1; exact h1.elim
      | _ :: _ :: _, _, _, h1 => simp only [prD] at h1; exact h1.elim
    · cases h
theorem pr_xnew0 (n : Str) : PrOk fs (.xnew0 n) := by
  intro X W C k g e ps h sa ha hlen
  unfold prC at h
  split at h
  all_goals try contradiction
  all_goals try (cases h; done)
  · rename_i heq
    cases heq
    split at h
    · rename_i x xp p pos hc
      cases h
      simp only [Bool.and_eq_true, decide_eq_true_eq, List.contains_iff_mem] at hc
      obtain ⟨⟨⟨rfl, h2⟩, h3⟩, h4⟩ := hc
      obtain ⟨gl, hd, _⟩ := gl_of g h2
      obtain ⟨Cl, B, newId, initId, bmB, T, ei, gC, kC, _, _, hdb⟩ := g.tb.xo0 _ h4
      refine ⟨PE.imp (pe_xnew0 T ei gC kC gl ha hd (star_cons h3) rfl) ?_, fun _ => rfl, rfl⟩
      rintro σ H Q ⟨rho, F, env, m, A, En, h⟩
      refine ⟨rho, F, env, m, A, En, RdE.bind h fun ds m1 vs r1 F1 H1 s1 A1 q1 h1 => ?_⟩
      match ds, vs, q1, h1 with
      | [d], [v], .cons qv .nil, h1 =>
        simp only [prD] at h1
        refine ⟨v, rfl, fun ee ne => ?_⟩
        obtain ⟨st, A'⟩ := A1.fresh (o := XV (.ref Cl) none ee) ne
        exact h1 _ _ _ _ st A' (.xv0 upd_same gC)
      | [], _, _, h1 => simp only [prD] at h1; exact h1.elim
      | _ :: _ :: _, _, _, h1 => simp only [prD] at h1; exact h1.elim
    · cases h
/-- where an error's object and its dict stand -/
theorem Rp.xvAt {K : PySem.W.Frag} {mg : Str → Option Value} {rho : List Addr} {F H : Hp} {v : V} {n : Str} {gs : List (Str × D)} (e : Same F H) (r : Rp K mg rho F v (.exv n gs)) :
    ∃ a C d, v = .ref a ∧ H a = some (XV (.ref C) d a) ∧ mg n = some (.ref C) ∧ (∀ dd, d = some dd → ∃ fs, H dd = some (.xd fs) ∧ RpF K mg rho F fs gs) ∧ (d = none → gs = []) := by
  cases r with
  | xv0 h c => exact ⟨_, _, none, rfl, e _ _ h, c, (fun _ z => by cases z), fun _ => rfl⟩
  | xv h c q r => exact ⟨_, _, _, rfl, e _ _ h, c, fun dd z => by cases z; exact ⟨_, e _ _ q, r⟩, fun z => by cases z⟩
theorem lookup_in {α β : Type} [BEq α] [LawfulBEq α] {a : α} {b : β} : ∀ {l : List (α × β)}, l.lookup a = some b → (a, b) ∈ l
  | [], h => by cases h
  | (x, y) :: l, h => by
    simp only [List.lookup] at h
    split at h
    · rename_i e
      have := eq_of_beq e
      subst this; cases h
      exact List.mem_cons_self
    · exact List.mem_cons_of_mem _ (lookup_in h)
/-! ### what is asked of a receiver -/
def MrOk (fs : List Sem) (p : Mr) : Prop := ∀ (X : Cx) (W : WX) (C : Ck) (k : Nat), GdE X W C fs k → ∀ e q ps, mrC C p e = some (q, ps) → ∀ (sa : SE) (sb : SA), PE X q (tE X W sa) → PA X ps (tA X W sb) → (∀ env m ds m1, sb env m = .ok ds m1 → ds.length = ps.length) → (ps = [] → ∀ env m, sb env m = .ok [] m) →
  PE X e (tE X W fun env m => (sa env m).bind fun d m => if mrG p d m then (sb env m).bind fun ds m => mrD fs p d ds m else .no) ∧ (∀ whole, isTrue e X.env whole = (do let v ← whole; standAt e.pos; holding [v] (truthy v))) ∧ isBoolOp e = false
theorem RpF.lookF {K : PySem.W.Frag} {mg : Str → Option Value} {rho : List Addr} {F : Hp} {f : Str} {dv : D} : ∀ {fs : List (Str × V)} {gs : List (Str × D)}, RpF K mg rho F fs gs → gs.lookup f = some dv → ∃ v, fs.lookup f = some v ∧ Rp K mg rho F v dv
  | _, _, .nil, h => by cases h
  | _, _, .cons (n := n) r rs, h => by
    simp only [List.lookup] at h ⊢
    split at h
    · cases h; rename_i e; exact ⟨_, rfl, r⟩
    · exact RpF.lookF rs h
theorem mr_fldx (f : Str) (cs : List Str) : MrOk fs (.fldx f cs) := by
  intro X W C k g e q ps h sa sb ha hb _ h0
  unfold mrC at h
  split at h
  all_goals try contradiction
  all_goals try (cases h; done)
  · rename_i heq
    cases heq
    split at h
    · rename_i p gg pos hc
      cases h
      simp only [Bool.and_eq_true, decide_eq_true_eq, List.all_eq_true, Bool.or_eq_true, List.contains_iff_mem] at hc
      obtain ⟨⟨rfl, h2⟩, h3⟩ := hc
      refine ⟨PE.imp (pe_xfv ha (base_plain h2)) ?_, fun _ => rfl, rfl⟩
      rintro σ H Q ⟨rho, F, env, m, A, En, h⟩
      refine ⟨rho, F, env, m, A, En, RdE.bind h fun d m1 v r1 F1 H1 s1 A1 q1 h1 => ?_⟩
      simp only [mrG, if_true, h0 rfl, R.bind] at h1
      cases d with
      | exv n gs =>
        simp only [mrD] at h1
        split at h1
        · rename_i hn
          split at h1
          · rename_i dv hl
            obtain ⟨a, C', d, rfl, ha', hc', hd', hz⟩ := q1.xvAt A1.ex
            obtain ⟨vn, Cl, fI, T⟩ : ∃ vn Cl fI, ∃ fl, XTxt X.prog X.w X.K X.mg n gg vn fl Cl fI := by
              rcases h3 n (by simpa using hn) with z | z
              · obtain ⟨vn, Cl, fI, T, _⟩ := g.tb.xok _ _ _ z; exact ⟨vn, Cl, fI, _, T⟩
              · obtain ⟨vn, Cl, fI, T, _⟩ := g.tb.xok _ _ _ z; exact ⟨vn, Cl, fI, _, T⟩
            obtain ⟨fl, T⟩ := T
            have ec : C' = Cl := by have := Option.some.inj (hc'.symm.trans T.gC); cases this; rfl
            subst ec
            cases d with
            | none => rw [hz rfl] at hl; cases hl
            | some dd =>
              obtain ⟨fs', hfs, rf⟩ := hd' dd rfl
              obtain ⟨v, lv, rv⟩ := rf.lookF hl
              exact ⟨a, C', dd, fs', v, rfl, ha', hfs, ⟨T.ga, T.gg, T.exC, T.hdC⟩, T.noN, lv, h1 v _ _ _ Step.refl A1 rv⟩
          · exact h1.elim
        · exact h1.elim
      | _ => simp only [mrD] at h1; exact h1.elim
    · cases h
theorem mr_isx (c : Str) (tbl : List (Str × Bool)) : MrOk fs (.isx c tbl) := by
  intro X W C k g e q ps h sa sb ha hb _ h0
  unfold mrC at h
  split at h
  all_goals try contradiction
  all_goals try (cases h; done)
  · rename_i heq
    cases heq
    split at h
    · rename_i x xp p y yp pos hc
      cases h
      simp only [Bool.and_eq_true, decide_eq_true_eq, List.all_eq_true, List.contains_iff_mem] at hc
      obtain ⟨⟨⟨⟨⟨rfl, h2⟩, h3⟩, h4⟩, rfl⟩, h6⟩ := hc
      obtain ⟨gl, hd, hn⟩ := gl_of g h2
      obtain ⟨gl2, hd2, hn2⟩ := gl_of g h4
      have fin : ∀ (cv : V) (u : Value), ClsV cv u → PE X (.Name y yp) (tC cv) → (∀ r ∈ tbl, ∃ A, X.mg r.1 = some (.ref A) ∧ XCl X.K A ∧ PySem.W.kitOne X.K (.ref A) u = some r.2) →
          PE X (.Call (.Name "isinstance" xp) [q, .Name y yp] [] pos) (tE X W fun env m => (sa env m).bind fun d m => if mrG (.isx y tbl) d m then (sb env m).bind fun ds m => mrD fs (.isx y tbl) d ds m else .no) := by
        intro cv u hcv hpe hk
        refine PE.imp (pe_callB (x := "isinstance") (id := "isinstance") call_isv gl (g.nob _ (by decide +kernel)) (by decide +kernel) (pa_cons ha (pa_cons hpe pa_nil) (star_cons h3)) hn hd (star_cons h3) rfl) ?_
        rintro σ H Q ⟨rho, F, env, m, A, En, h⟩
        refine ⟨rho, F, env, m, A, En, RdE.bind h fun d m1 v r1 F1 H1 s1 A1 q1 h1 => ?_⟩
        simp only [mrG, if_true, h0 rfl, R.bind] at h1
        cases d with
        | exv n gs =>
          simp only [mrD] at h1
          split at h1
          · rename_i b hl
            obtain ⟨A', e1, e2, e3⟩ := hk _ (lookup_in hl)
            obtain ⟨a, C', d, rfl, ha', hc', hd', _⟩ := q1.xvAt A1.ex
            have ec : C' = A' := by have := Option.some.inj (hc'.symm.trans e1); cases this; rfl
            subst ec
            exact ⟨a, C', d, cv, u, b, rfl, hcv, ha', fun dd z => let ⟨fs, q, _⟩ := hd' dd z; ⟨fs, q⟩, e2, e3, h1 _ _ _ _ Step.refl A1 .bl⟩
          · exact h1.elim
        | _ => simp only [mrD] at h1; exact h1.elim
      refine ⟨?_, fun _ => rfl, rfl⟩
      cases tbl with
      | nil =>
        refine ⟨fun pins s σ H Q I h => ?_⟩
        refine (pe_callB (x := "isinstance") (id := "isinstance") (r := fun _ _ _ => False) (fun pins s σ H xs us Q I r h => h.elim) gl (g.nob _ (by decide +kernel)) (by decide +kernel) (pa_cons ha (pa_cons (te := fun _ _ _ => False) ⟨fun _ _ _ _ _ _ z => z.elim⟩ pa_nil) (star_cons h3)) hn hd (star_cons h3) rfl).run pins s σ H Q I ?_
        obtain ⟨rho, F, env, m, A, En, h⟩ := h
        refine ⟨rho, F, env, m, A, En, RdE.bind h fun d m1 v r1 F1 H1 s1 A1 q1 h1 => ?_⟩
        simp only [mrG, if_true, h0 rfl, R.bind] at h1
        cases d <;> (simp only [mrD, List.lookup] at h1; exact h1.elim)
      | cons r0 rest =>
        have key : ∀ r ∈ r0 :: rest, _ := fun r hr => g.tb.xis _ _ _ (h6 r hr)
        cases hm : X.mg y with
        | some cv =>
          obtain ⟨A0, _, _, z0⟩ := key r0 List.mem_cons_self
          have hB : ∃ B, cv = .ref B := by
            rcases z0 with ⟨B, hB, _⟩ | ⟨z, hz, _⟩
            · rw [hm] at hB; exact ⟨B, Option.some.inj hB⟩
            · rw [hm] at hz; cases hz
          obtain ⟨B, rfl⟩ := hB
          refine fin (.ref B) (.ref B) (.own B) (pe_glob gl2 hm rfl hd2) fun r hr => ?_
          obtain ⟨A', e1, e2, e3⟩ := key r hr
          refine ⟨A', e1, e2, ?_⟩
          rcases e3 with ⟨B', hB', e⟩ | ⟨z, hz, _⟩
          · rw [hm] at hB'; cases hB'; exact e
          · rw [hm] at hz; cases hz
        | none =>
          obtain ⟨A0, _, _, z0⟩ := key r0 List.mem_cons_self
          have hB : ∃ z, bootBuiltins y = some (.type z) := by
            rcases z0 with ⟨B, hB, _⟩ | ⟨z, hz, hb, _⟩
            · rw [hm] at hB; cases hB
            · exact ⟨z, hb⟩
          obtain ⟨z, hz⟩ := hB
          refine fin (.ty z) (.type z) (.ty z) (pe_bltn (v := .ty z) gl2 hm hz rfl hn2 hd2) fun r hr => ?_
          obtain ⟨A', e1, e2, e3⟩ := key r hr
          refine ⟨A', e1, e2, ?_⟩
          rcases e3 with ⟨B', hB', e⟩ | ⟨z', _, hb', e⟩
          · rw [hm] at hB'; cases hB'
          · rw [hz] at hb'; cases hb'; exact e
    · cases h
end
end HB
namespace HB
open PySem L2
section
variable {K : PySem.W.Frag} {mg : Str → Option Value} {rho rho' : List Addr} {F F' H : Hp}
theorem Rp.isDct {v : V} {kvs : List (D × D)} (e : Same F H) (r : Rp K mg rho F v (.dct kvs)) : ∃ a, v = .ref a ∧ IsD H a := by
  cases r with
  | dK h _ => exact ⟨_, rfl, .inl ⟨_, .inr ⟨_, e _ _ h⟩⟩⟩
end
/-- a dict's method with arguments, the dict locked or not -/
theorem pe_bmD {X : Cx} {o e : Expr} {es : List Expr} {to : TE} {t : TA} {name : Str} {apos cpos : Pos} {id : String} {r : V → List V → Hp → VK → Prop} (slot : Slot "dict" name id) (hty : typeOf (.builtin id) = pure (.type "method_descriptor")) (hm : MtR X id r) (ho : PE X o to) (ha : PA X (e :: es) t)
    (hbase : attributeBase o name X.env (eval o X.env) = eval o X.env)
    (hfew : ((backTo cpos (starEach (e :: es) X.env)).all (fun x => !x.1) && (backToKw cpos (keywordEach [] X.env)).all (fun x => x.1.isSome) && decide ((e :: es).length + ([] : List Keyword).length + (if ([] : List Keyword).isEmpty then 0 else 1) < 30)) = true)
    (hline : (apos.endLine == cpos.line) = true) (hs : starEach (e :: es) X.env = (false, eval e X.env) :: starEach es X.env) (hplain : (backTo cpos (starEach es X.env)).any (·.1) = false) :
    PE X (.Call (.Attribute o name apos) (e :: es) [] cpos) (fun σ H Q => to σ H fun x H1 => (∃ a, x = .ref a ∧ IsD H1 a) ∧ t σ H1 fun xs H2 => r x xs H2 Q) := by
  refine ⟨fun pins s σ H Q I h => ?_⟩
  refine wpAny_Call_method_late hbase hfew hline rfl (thn (ho.run pins s σ H _ I h) ?_)
  rintro v s1 ⟨x, H1, I1, r1, ⟨a, rfl, hd⟩, q1⟩
  obtain rfl : v = Value.ref a := r1
  obtain ⟨h1, h2, _⟩ := isD_at I1 hd
  refine ⟨"dict", id, PySem.F.plainAttrs_dict, slot, hty, h1, h2, ?_⟩
  have hA := ha.run cpos pins s1 σ H1 _ I1 q1
  rw [hs] at hA ⊢
  refine Calls.callWith_builtin ?_ (Calls.evalArgs_plain (thn hA ?_))
  · show (false || (backTo cpos (starEach es X.env)).any (·.1)) = false
    rw [hplain] <;> rfl
  · rintro us s2 ⟨vs, H2, I2, r2, q2⟩
    exact hm pins s2 σ H2 (.ref a) vs (.ref a) us Q I2 (show RelV (.ref a) (Value.ref a) from rfl) r2 q2
theorem mt_get2 {X : Cx} (hu : X.A.units + 1 < cLine) : MtR X "dict.get" (fun x xs H Q => ∃ a y d o, x = .ref a ∧ xs = [y, d] ∧ DGet H a y o ∧ Q (o.getD d) H) := fun pins s σ H x xs v us Q I rx rxs h => by
  obtain ⟨a, y, d, o, rfl, rfl, g, q⟩ := h
  obtain ⟨u1, u2, rfl, r1, r2⟩ := vals2 rxs
  cases (show v = Value.ref a from rx)
  exact d_get2 hu I g r1 r2 fun w' s' I' r' => ⟨_, H, I', r', q⟩
section
variable {fs : List Sem}
theorem mr_get2 : MrOk fs .get2 := by
  intro X W C k g e q ps h sa sb ha hb hlen _
  unfold mrC at h
  split at h
  all_goals try contradiction
  all_goals try (cases h; done)
  · rename_i heq
    split at h
    · rename_i p x ap e1 e2 pos hc
      cases h
      simp only [Bool.and_eq_true, decide_eq_true_eq] at hc
      obtain ⟨⟨⟨⟨rfl, h2⟩, h3⟩, h4⟩, h5⟩ := hc
      refine ⟨PE.imp (pe_bmD PySem.F.slot_dict_get PySem.F.type_dict_get (mt_get2 (by have := units_of g; omega)) ha hb (base_plain h2) (by rw [star_cons h3, star_cons h4]; rfl) h5 (star_cons h3) (by rw [star_cons h4]; rfl)) ?_, fun _ => rfl, rfl⟩
      rintro σ H Q ⟨rho, F, env, m, A, En, h⟩
      refine ⟨rho, F, env, m, A, En, RdE.bind h fun d m1 v r1 F1 H1 s1 A1 q1 h1 => ?_⟩
      cases d with
      | dct kvs =>
        simp only [mrG, isDct, if_true] at h1
        refine ⟨q1.isDct A1.ex, r1, F1, env, m1, A1, En.mono s1.onto, RdE.bind h1 fun ds m2 vs r2 F2 H2 s2 A2 q2 h2 => ?_⟩
        match ds, vs, q2, h2 with
        | [kd, vd], [kv, vv], .cons qk (.cons qv .nil), h2 =>
          simp only [mrD] at h2
          split at h2
          · rename_i k es hk hks
            have ek := qk.keyV hk
            subst ek
            obtain ⟨p, o, ks, es', rfl, hp, hk', kr, _⟩ := (q1.mono s2.onto).frzD A2.ex
            rw [hks] at hk'
            cases hk'
            refine ⟨_, _, _, _, rfl, rfl, .inl ⟨_, k, .inr ⟨_, A2.ex _ _ hp⟩, rfl, rfl⟩, ?_⟩
            rcases kr.find k with ⟨v', d', f1, f2, f3⟩ | ⟨f1, f2⟩
            · rw [f2] at h2; rw [f1]; exact h2 _ _ _ _ Step.refl A2 f3
            · rw [f2] at h2; rw [f1]; exact h2 _ _ _ _ Step.refl A2 qv
          · exact h2.elim
        | [], _, _, h2 => simp only [mrD] at h2; exact h2.elim
        | [_], _, _, h2 => simp only [mrD] at h2; exact h2.elim
        | _ :: _ :: _ :: _, _, _, h2 => simp only [mrD] at h2; exact h2.elim
      | _ => simp only [mrG, isDct, Bool.false_eq_true, if_false] at h1; exact h1.elim
    · cases h
theorem rg_D {K : PySem.W.Frag} {mg : Str → Option Value} {rho : List Addr} {F : Hp} {j : Int} : RpL K mg rho F (rgV 0 j) ((List.range j.toNat).map fun (i : Nat) => D.int (i : Int)) := by
  unfold rgV
  rw [Int.sub_zero]
  generalize List.range j.toNat = l
  induction l with
  | nil => exact .nil
  | cons a r ih =>
    simp only [List.map_cons, Int.zero_add]
    exact .cons .int (by simpa using ih)
theorem mr_lrng : MrOk fs .lrng := by
  intro X W C k g e q ps h sa sb ha hb _ h0
  unfold mrC at h
  split at h
  all_goals try contradiction
  all_goals try (cases h; done)
  · rename_i heq
    split at h
    · rename_i x xp y yp p pos2 pos hc
      cases h
      simp only [Bool.and_eq_true, decide_eq_true_eq] at hc
      obtain ⟨⟨⟨⟨rfl, h2⟩, rfl⟩, h4⟩, h5⟩ := hc
      obtain ⟨gl, hd, hn⟩ := gl_of g h2
      obtain ⟨gl2, hd2, hn2⟩ := gl_of g h4
      refine ⟨PE.imp (pe_listRg g.calm gl (g.nob _ (by decide +kernel)) (prg_1 gl2 (g.nob _ (by decide +kernel)) ha (star_cons h5)) (star_cons rfl)) ?_, fun _ => rfl, rfl⟩
      rintro σ H Q ⟨rho, F, env, m, A, En, h⟩
      refine ⟨rho, F, env, m, A, En, RdE.bind h fun d m1 v r1 F1 H1 s1 A1 q1 h1 => ?_⟩
      simp only [mrG, if_true, h0 rfl, R.bind] at h1
      cases d with
      | int j =>
        simp only [mrD] at h1
        split at h1
        · rename_i hj
          cases q1
          refine ⟨j, rfl, ⟨by decide, by decide, hj.1, by omega, by omega⟩, fun p np => ?_⟩
          obtain ⟨st, A'⟩ := A1.fresh (o := .lst (rgV 0 j)) np
          exact h1 _ _ _ _ st A' (.lst upd_same rg_D)
        · exact h1.elim
      | _ => simp only [mrD] at h1; exact h1.elim
    · cases h
theorem call_listS {X : Cx} (hc : X.calm = true) : CallR X (.type "list") (fun xs H Q => ∃ x, xs = [V.str x] ∧ x.cps.size ≤ sizeLine ∧ ∀ p, H p = none → Q (.ref p) (upd H p (.lst (x.cps.toList.map fun c => V.str ⟨#[c]⟩)))) := by
  intro pins s σ H xs us Q I r h
  obtain ⟨x, rfl, hl, q⟩ := h
  obtain ⟨u, rfl, rx⟩ := vals1 r
  obtain ⟨t, rfl⟩ := (show ∃ t, u = Value.str x t from rx)
  refine call_list_str (I.ok.hd hc) x t (fun h' tk acc c' hk hS hi => ?_) hl
  refine ⟨.ref s.heap.objs.size, upd H s.heap.objs.size (.lst (x.cps.toList.map fun c => V.str ⟨#[c]⟩)), I.laid hk (Nat.le_refl _) (show ObjOk X.prog X.w _ _ _ (.lst (x.cps.toList.map fun c => V.str ⟨#[c]⟩)) from ⟨?_, acc.toList, c', ?_, ?_⟩), rfl, q _ (I.hok.fresh (Nat.le_refl _))⟩
  · rw [List.length_map, Array.length_toList]; exact hl
  · refine vals_of_at (by rw [List.length_map, Array.length_toList, Array.length_toList, hi.1]) fun j y w h1 h2 => ?_
    have h3 := hi.2 j w (by rw [← Array.getElem?_toList]; exact h2)
    rw [List.getElem?_map, Array.getElem?_toList] at h1
    cases hz : x.cps[j]? with
    | none => rw [hz] at h1; cases h1
    | some c =>
      rw [hz] at h1
      cases h1
      obtain ⟨c2, t2, e1, rfl⟩ := h3
      rw [hz] at e1; cases e1
      exact ⟨t2, rfl⟩
  · rw [Array.toArray_toList]; exact hS
theorem chars_D {K : PySem.W.Frag} {mg : Str → Option Value} {rho : List Addr} {F : Hp} : ∀ l : List Nat, RpL K mg rho F (l.map fun c => V.str ⟨#[c]⟩) (l.map fun c => D.str ⟨#[c]⟩)
  | [] => .nil
  | _ :: l => .cons .str (chars_D l)
theorem mr_lstr : MrOk fs .lstr := by
  intro X W C k g e q ps h sa sb ha hb _ h0
  unfold mrC at h
  split at h
  all_goals try contradiction
  all_goals try (cases h; done)
  · rename_i heq
    split at h
    · rename_i x xp p pos hc
      cases h
      simp only [Bool.and_eq_true, decide_eq_true_eq] at hc
      obtain ⟨⟨rfl, h2⟩, h5⟩ := hc
      obtain ⟨gl, hd, hn⟩ := gl_of g h2
      refine ⟨PE.imp (pe_callTy (call_listS g.calm) gl (g.nob _ (by decide +kernel)) (by decide +kernel) (pa_cons ha pa_nil (star_cons h5)) hn hd (star_cons h5) rfl) ?_, fun _ => rfl, rfl⟩
      rintro σ H Q ⟨rho, F, env, m, A, En, h⟩
      refine ⟨rho, F, env, m, A, En, RdE.bind h fun d m1 v r1 F1 H1 s1 A1 q1 h1 => ?_⟩
      simp only [mrG, if_true, h0 rfl, R.bind] at h1
      cases d with
      | str x =>
        simp only [mrD] at h1
        split at h1
        · rename_i hj
          cases q1
          refine ⟨x, rfl, hj, fun p np => ?_⟩
          obtain ⟨st, A'⟩ := A1.fresh (o := .lst (x.cps.toList.map fun c => V.str ⟨#[c]⟩)) np
          exact h1 _ _ _ _ st A' (.lst upd_same (chars_D _))
        · exact h1.elim
      | _ => simp only [mrD] at h1; exact h1.elim
    · cases h
/-! ### the display of a dict -/
def trsOf (X : Cx) (W : WX) (fs : List Sem) : T → List (TE × TE)
  | .cons a (.cons b r) => (tE X W (evE fs a), tE X W (evE fs b)) :: trsOf X W fs r
  | _ => []
theorem pps_of {X : Cx} {W : WX} {C : Ck} {k : Nat} {pos : Pos} (g : GdE X W C fs k) : ∀ {es : T} {ks : List (Option Expr)} {vs ps : List Expr}, flatPairs ks vs = some ps → chkA C es ps = true → AllS fs es → PPs X pos ks vs (trsOf X W fs es)
  | es, [], [], ps, h, hc, _ => by
    cases h
    cases es <;> first | exact pps_nil | (simp [chkA] at hc)
  | es, some kx :: ks, v :: vs, ps, h, hc, hs => by
    simp only [flatPairs, Option.map_eq_some_iff] at h
    obtain ⟨r, h1, rfl⟩ := h
    obtain ⟨a, r1, rfl, _, c1, hc⟩ := chkA_cons hc
    obtain ⟨b, r2, rfl, _, c2, c3⟩ := chkA_cons hc
    exact pps_cons ((hs.1 X W C k g).1 _ c1).v ((hs.2.1 X W C k g).1 _ c2).v (pps_of g h1 c3 hs.2.2)
  | es, none :: _, _, ps, h, _, _ => by simp [flatPairs] at h
  | es, [], _ :: _, ps, h, _, _ => by simp [flatPairs] at h
  | es, some _ :: _, [], ps, h, _, _ => by simp [flatPairs] at h
def pairV : List V → Option (List (V × V))
  | [] => some []
  | a :: b :: r => (pairV r).map fun q => (a, b) :: q
  | _ => none
def evenT : T → Bool
  | .nil => true
  | .cons _ (.cons _ r) => evenT r
  | _ => false
theorem even_of : ∀ {es : T} {ks : List (Option Expr)} {vs ps : List Expr} {C : Ck}, flatPairs ks vs = some ps → chkA C es ps = true → evenT es = true
  | es, [], [], ps, C, h, hc => by
    cases h
    cases es <;> first | rfl | (simp [chkA] at hc)
  | es, some kx :: ks, v :: vs, ps, C, h, hc => by
    simp only [flatPairs, Option.map_eq_some_iff] at h
    obtain ⟨r, h1, rfl⟩ := h
    obtain ⟨a, r1, rfl, _, c1, hc⟩ := chkA_cons hc
    obtain ⟨b, r2, rfl, _, c2, c3⟩ := chkA_cons hc
    show evenT r2 = true
    exact even_of (ks := ks) (vs := vs) h1 c3
  | es, none :: _, _, ps, C, h, _ => by simp [flatPairs] at h
  | es, [], _ :: _, ps, C, h, _ => by simp [flatPairs] at h
  | es, some _ :: _, [], ps, C, h, _ => by simp [flatPairs] at h
theorem pairs_step {X : Cx} {W : WX} {σ : L2.St} {env : Env} : ∀ {es : T} {rho : List Addr} {F H : Hp} {m : M} {R : List (V × V) → Hp → Prop}, evenT es = true → Abs X.K X.mg rho F H m → RpEnv X.K X.mg rho F σ env →
    RdE X.K X.mg W σ (relL X.K X.mg) rho F H (fun vs H' => ∃ ps, pairV vs = some ps ∧ R ps H') (evA fs es env m) → tPairs (trsOf X W fs es) σ H R
  | .nil, rho, F, H, m, R, _, A, En, h => by
    simp only [evA] at h
    obtain ⟨ps, h1, h2⟩ := h [] _ _ _ Step.refl A .nil
    cases h1
    exact h2
  | .cons a (.cons b r), rho, F, H, m, R, he, A, En, h => by
    have he' : evenT r = true := by simpa [evenT] using he
    simp only [evA] at h
    refine ⟨rho, F, env, m, A, En, RdE.bind h fun d m1 v r1 F1 H1 s1 A1 q1 h1 => ?_⟩
    have h1' := RdE.bind (rel2 := relL X.K X.mg) (Q' := fun us H' => ∃ ps, pairV (v :: us) = some ps ∧ R ps H') h1 (fun ds m2 us r2 F2 H2 s2 A2 q2 h2 => h2 (v :: us) _ _ _ Step.refl A2 (.cons (q1.mono s2.onto) q2))
    refine ⟨r1, F1, env, m1, A1, En.mono s1.onto, RdE.bind h1' fun e m2 u r2 F2 H2 s2 A2 q2 h2 => ?_⟩
    have h2' := RdE.bind (rel2 := relL X.K X.mg) (Q' := fun us H' => ∃ ps, pairV us = some ps ∧ R ((v, u) :: ps) H') h2 (fun ds m3 us r3 F3 H3 s3 A3 q3 h3 => by
      obtain ⟨ps, p1, p2⟩ := h3 (u :: us) _ _ _ Step.refl A3 (.cons (q2.mono s3.onto) q3)
      simp only [pairV, Option.map_eq_some_iff] at p1
      obtain ⟨q, p1, rfl⟩ := p1
      exact ⟨q, p1, p2⟩)
    exact pairs_step he' A2 ((En.mono s1.onto).mono s2.onto) h2'
  | .cons a .nil, _, _, _, _, _, he, _, _, _ => by simp [evenT] at he
theorem pairs_rp {K : PySem.W.Frag} {mg : Str → Option Value} {rho : List Addr} {F : Hp} : ∀ {ds : List D} {vs : List V} {es : List (Key × D)}, RpL K mg rho F vs ds → pairsD ds = some es → ∃ kvs, KVr K mg rho F kvs es ∧ pairV vs = some (kvs.map fun kv => (kV kv.1, kv.2))
  | [], _, es, r, h => by
    cases r
    simp only [pairsD] at h
    cases h
    exact ⟨[], .nil, rfl⟩
  | [_], _, es, r, h => by simp [pairsD] at h
  | k :: v :: ds, _, es, r, h => by
    simp only [pairsD] at h
    split at h
    · rename_i kk rr hk hr
      cases h
      cases r with
      | cons q1 r =>
        cases r with
        | cons q2 r =>
          obtain ⟨kvs, w1, w2⟩ := pairs_rp r hr
          have e := q1.keyV hk
          subst e
          exact ⟨(kk, _) :: kvs, .cons q2 w1, by simp [pairV, w2]⟩
    · cases h
theorem pairs_len : ∀ {ds : List D} {es : List (Key × D)}, pairsD ds = some es → 2 * es.length = ds.length
  | [], es, h => by simp only [pairsD] at h; cases h; rfl
  | [_], es, h => by simp [pairsD] at h
  | k :: v :: ds, es, h => by
    simp only [pairsD] at h
    split at h
    · rename_i kk rr hk hr
      cases h
      have := pairs_len hr
      simp only [List.length_cons]; omega
    · cases h
theorem flat_len : ∀ {ks : List (Option Expr)} {vs ps : List Expr}, flatPairs ks vs = some ps → ps.length = 2 * ks.length ∧ ks.length = vs.length ∧ ks.all (·.isSome) = true
  | [], [], ps, h => by cases h; exact ⟨rfl, rfl, rfl⟩
  | some k :: ks, v :: vs, ps, h => by
    simp only [flatPairs, Option.map_eq_some_iff] at h
    obtain ⟨r, h1, rfl⟩ := h
    obtain ⟨a, b, c⟩ := flat_len h1
    exact ⟨by simp only [List.length_cons]; omega, by simp [b], by simpa using c⟩
  | none :: _, _, ps, h => by simp [flatPairs] at h
  | [], _ :: _, ps, h => by simp [flatPairs] at h
  | some _ :: _, [], ps, h => by simp [flatPairs] at h
theorem snd_dcte {es : T} (Pe : AllS fs es) : SndP fs (.dcte es) := fun X W C k g => ⟨fun pe h => by
  cases pe with
  | Dict ks vs pos =>
    simp only [chk] at h
    split at h
    · rename_i ps hf
      simp only [Bool.and_eq_true, decide_eq_true_eq] at h
      obtain ⟨⟨h1, h2⟩, h3⟩ := h
      obtain ⟨l1, l2, l3⟩ := flat_len hf
      refine SndE.plain (PE.imp (pe_lockD (pe_disp (pps_of g hf h3 Pe) l3 l2 h1 h2)) ?_) (fun _ => rfl) rfl
      rintro σ H Q ⟨rho, F, env, m, A, En, h⟩ p np
      simp only [evE] at h
      have nr : p ∉ rho := A.notmem np
      have nF : F p = none := by
        cases e : F p with
        | none => rfl
        | some u => rw [A.ex p u e] at np; cases np
      have A' : Abs X.K X.mg rho F (upd H p (.dK [])) m := A.side nr nF
      have s0 : Step rho F H rho F (upd H p (.dK [])) := Step.side Step.refl np
      refine pairs_step (even_of hf h3) A' En ?_
      cases ev : evA fs es env m with
      | no => rw [ev] at h; exact h
      | ex c m1 =>
        rw [ev] at h
        exact fun cls dx r1 F1 H1 s1 A1 q1 => h cls dx r1 F1 H1 (s0.trans s1) A1 q1
      | ok ds m1 =>
        rw [ev] at h
        have hd : RdE X.K X.mg W σ (relD X.K X.mg) rho F H Q (dcteD ds m1) := h
        intro us r1 F1 H1 s1 A1 q1
        unfold dcteD at hd
        split at hd
        · rename_i es' he
          obtain ⟨kvs, w1, w2⟩ := pairs_rp q1 he
          obtain ⟨k1, k2⟩ := s1.old p _ upd_same nr
          have lk : kvs.length ≤ 15 := by
            have a1 := w1.length
            have a2 := pairs_len he
            have a3 := evA_len h3 ev
            omega
          refine ⟨_, w2, k1, kvs, rfl, lk, p, mergeK [] kvs, rfl, upd_same, fun o => ?_⟩
          rw [upd_twice]
          have nr1 : p ∉ r1 := fun hm => by
            obtain ⟨rr, e1, e2⟩ := s1.pre
            rw [e1] at hm
            rcases List.mem_append.mp hm with z | z
            · exact nr z
            · have := e2 p z
              rw [upd_same] at this; cases this
          have nF1 : F1 p = none := k2.trans nF
          have st : Step rho F H r1 F1 (upd H1 p (.frz o (.dK (mergeK [] kvs)))) := Step.side (s0.trans s1) np
          have A2 : Abs X.K X.mg r1 F1 (upd H1 p (.frz o (.dK (mergeK [] kvs)))) m1 := A1.side nr1 nF1
          have st2 := Step.sideFix (o := .frz o (.dK (mergeK [] kvs))) st np nF1
          have A3 := A2.sideFix nr1 nF1 (upd_same : upd H1 p (.frz o (.dK (mergeK [] kvs))) p = some _)
          refine hd _ _ _ _ st2 A3 (.dK upd_same ?_)
          have on : Onto r1 F1 r1 (upd F1 p (.frz o (.dK (mergeK [] kvs)))) := ⟨fun h => h, fun b u h => by rw [upd_ne (ne_of_none h nF1)]; exact h⟩
          exact (merge_nil (w1.mono on)).rpk
        · exact hd.elim
    · cases h
  | _ => simp [chk] at h, noA fun C ps => by cases ps <;> rfl⟩
end
end HB
namespace HB
open PySem L2
open PySem.HBX
/-- an operator by data, as it reads -/
abbrev rOf (X : Cx) (g : D → D → M → R D) : R2 := fun x y H Q => ∃ rho F m d e, Abs X.K X.mg rho F H m ∧ Rp X.K X.mg rho F x d ∧ Rp X.K X.mg rho F y e ∧ RdO X.K X.mg rho F H Q (g d e m)
section
variable {K : PySem.W.Frag} {mg : Str → Option Value} {rho : List Addr} {F H : Hp} {Q : VK} {r : R D}
theorem rd_bl {neg : Bool} (h : RdO K mg rho F H Q (blO neg r)) : RdE K mg (fun _ _ _ _ => False) [] (relD K mg) rho F H (fun v H' => ∃ b, v = .bl b ∧ Q (.bl (neg ^^ b)) H') r := by
  cases r with
  | no => exact h
  | ex c m => exact h.elim
  | ok d m =>
    cases d with
    | bl b =>
      intro v r2 F2 H2 s2 A2 q2
      cases q2
      exact ⟨b, rfl, h _ _ _ _ s2 A2 .bl⟩
    | _ => exact h.elim
theorem rd_len (h : RdO K mg rho F H Q (lenR r)) : RdE K mg (fun _ _ _ _ => False) [] (relD K mg) rho F H (fun v H' => ∃ n : Nat, v = .int (n : Int) ∧ (n : Int) < 2 ^ 62 ∧ Q v H') r := by
  cases r with
  | no => exact h
  | ex c m => exact h.elim
  | ok d m =>
    cases d with
    | int i =>
      simp only [lenR] at h
      split at h
      · rename_i hi
        intro v r2 F2 H2 s2 A2 q2
        cases q2
        exact ⟨i.toNat, by rw [Int.toNat_of_nonneg hi.1], by rw [Int.toNat_of_nonneg hi.1]; exact hi.2, h _ _ _ _ s2 A2 .int⟩
      · exact h.elim
    | _ => exact h.elim
theorem rd_str (h : RdO K mg rho F H Q (strR r)) : RdE K mg (fun _ _ _ _ => False) [] (relD K mg) rho F H (fun v H' => ∃ y, v = .str y ∧ Q v H') r := by
  cases r with
  | no => exact h
  | ex c m => exact h.elim
  | ok d m =>
    cases d with
    | str y =>
      intro v r2 F2 H2 s2 A2 q2
      cases q2
      exact ⟨y, rfl, h _ _ _ _ s2 A2 .str⟩
    | _ => exact h.elim
theorem rd_noEx (h : RdO K mg rho F H Q (noEx r)) : RdE K mg (fun _ _ _ _ => False) [] (relD K mg) rho F H Q r := by
  cases r with
  | no => exact h
  | ex c m => exact h.elim
  | ok d m => exact h
theorem Rp.insAt {v : V} {c : Str} {gs : List (Str × D)} (e : Same F H) (q : Rp K mg rho F v (.obj c gs)) : ∃ a C dx fs, v = .ref a ∧ H a = some (.ins C dx fs) ∧ mg c = some (.ref C) ∧ RpF K mg rho F fs gs := by
  cases q with
  | obj h1 h2 h3 => exact ⟨_, _, _, _, rfl, e _ _ h1, h2, h3⟩
theorem Rp.insD {m : M} {v : V} {d : D} {c : Str} {gs : List (Str × D)} (A : Abs K mg rho F H m) (q : Rp K mg rho F v d) (h : insD d m = some (c, gs)) : ∃ a C dx fs, v = .ref a ∧ H a = some (.ins C dx fs) ∧ mg c = some (.ref C) ∧ RpF K mg rho F fs gs := by
  unfold HB.insD at h
  split at h
  · cases h
    exact q.insAt A.ex
  · split at h
    · rename_i hm
      cases h
      cases q with
      | ref hi =>
        obtain ⟨_, C, dx, fs, h0, hc, rf⟩ := A.own _ _ _ hi hm
        exact ⟨_, C, dx, fs, rfl, h0, hc, rf⟩
    · cases h
  · cases h
theorem RpF.lookN {f : Str} : ∀ {fs : List (Str × V)} {gs : List (Str × D)}, RpF K mg rho F fs gs → gs.lookup f = none → fs.lookup f = none
  | _, _, .nil, _ => rfl
  | _, _, .cons (n := n) r rs, h => by
    simp only [List.lookup] at h ⊢
    split at h
    · cases h
    · exact RpF.lookN rs h
theorem tyD_mem {d : D} {m : M} {t : String} (h : tyD d m = some t) : t ∈ (["NoneType", "bool", "int", "str", "tuple", "list", "dict"] : List String) := by
  unfold tyD at h
  (repeat' split at h) <;> first | (cases h; simp; done) | cases h
end
section
variable {fs : List Sem} {X : Cx} {W : WX} {C : Ck} {k : Nat}
theorem cl_of (g : GdE X W C fs k) {c : Str} (h : hasCl C c = true) : ∃ Cl fl, (c, fl) ∈ C.tb.ocl ∧ X.mg c = some (.ref Cl) ∧ OCl X.K Cl := by
  unfold hasCl at h
  rw [List.any_eq_true] at h
  obtain ⟨⟨c', fl⟩, h1, h2⟩ := h
  simp only [decide_eq_true_eq] at h2
  subst h2
  obtain ⟨Cl, e1, e2, _⟩ := g.tb.ocl _ _ h1
  exact ⟨Cl, fl, h1, e1, e2⟩
/-- the own def that a table names -/
theorem mth_of (g : GdE X W C fs k) {y c : Str} {n : Nat} {tbl : List (Str × Nat)} {sem : Sem} (h : mthB C y n tbl = true) (hs : semO fs tbl c = some sem) :
    ∃ Cl f j fl, X.mg c = some (.ref Cl) ∧ OCl X.K Cl ∧ (c, fl) ∈ C.tb.ocl ∧ Meth X.K Cl y f ∧ PySem.W.fnIn X.K f = true ∧ j + 2 ≤ k ∧ FnE X f n (spD X.K X.mg n sem) j := by
  unfold semO at hs
  cases hl : tbl.lookup c with
  | none => rw [hl] at hs; cases hs
  | some jj =>
    rw [hl] at hs
    unfold mthB at h
    rw [List.all_eq_true] at h
    have hh := h _ (lookup_in hl)
    simp only [Bool.and_eq_true, decide_eq_true_eq] at hh
    obtain ⟨⟨l1, l2⟩, l3⟩ := hh
    have hsem : fs[C.fns.length + (jj - C.fns.length)]? = some sem := by rw [Nat.add_sub_cancel' l1]; exact hs
    obtain ⟨Cm, f, j, m1, m2, m3, m4, m4', m7, G⟩ := g.mok _ _ _ _ _ l2 hsem
    obtain ⟨Cl, fl, hfl, e1, e2⟩ := cl_of g l3
    have ec : Cm = Cl := by have := Option.some.inj (m1.symm.trans e1); cases this; rfl
    subst ec
    exact ⟨Cm, f, j, fl, m1, e2, hfl, ⟨m2, m3, m4⟩, m4', m7, G⟩
theorem prp_of (g : GdE X W C fs k) {y c : Str} {tbl : List (Str × Nat)} {sem : Sem} (h : prpB C y tbl = true) (hs : semO fs tbl c = some sem) :
    ∃ Cl p f j, X.mg c = some (.ref Cl) ∧ OCl X.K Cl ∧ PropOf X.K Cl y p f ∧ j + 2 ≤ k ∧ FnE X f 1 (spD X.K X.mg 1 sem) j := by
  unfold semO at hs
  cases hl : tbl.lookup c with
  | none => rw [hl] at hs; cases hs
  | some jj =>
    rw [hl] at hs
    unfold prpB at h
    rw [List.all_eq_true] at h
    have hh := h _ (lookup_in hl)
    simp only [Bool.and_eq_true, decide_eq_true_eq] at hh
    obtain ⟨⟨l1, l2⟩, l3⟩ := hh
    have hsem : fs[C.fns.length + C.mths.length + (jj - (C.fns.length + C.mths.length))]? = some sem := by rw [Nat.add_sub_cancel' l1]; exact hs
    obtain ⟨Cm, p, f, fd, ps, j, m1, m2, m5, m6, m7, G⟩ := g.pok _ _ _ _ l2 hsem
    obtain ⟨Cl, fl, hfl, e1, e2⟩ := cl_of g l3
    have ec : Cm = Cl := by have := Option.some.inj (m1.symm.trans e1); cases this; rfl
    subst ec
    exact ⟨Cm, p, f, j, m1, e2, m2, m7, .of G m5 m6⟩
theorem mkr_of (g : GdE X W C fs k) {c : Str} {n jj : Nat} {kw : Option (Str × Int)} {sem : Sem} (h : mkrB C c n kw jj = true) (hs : fs[jj]? = some sem) : Mkr X.prog X.w X.K X.mg X.base k c n kw sem := by
  unfold mkrB at h
  simp only [Bool.and_eq_true, decide_eq_true_eq] at h
  obtain ⟨⟨l1, l2⟩, l3⟩ := h
  exact g.cok _ _ _ _ _ l2 (by rw [Nat.add_sub_cancel' l1]; exact hs)
/-- the class of any value here -/
theorem tyO_of (g : GdE X W C fs k) {rho : List Addr} {F H : Hp} {m : M} {y : V} {e : D} {tbl : List (Str × Nat)} {Cl : Addr} {c : Str} {fl : List Str} {yy : Str} {n : Nat} (A : Abs X.K X.mg rho F H m) (r : Rp X.K X.mg rho F y e) (h : tyO tbl e m = true) (hb : mthB C yy n tbl = true) (hc : (c, fl) ∈ C.tb.ocl) (hm : X.mg c = some (.ref Cl)) (o : OCl X.K Cl) :
    ∃ t, TyX X.K H y t ∧ PySem.W.notFirst X.K Cl t = true := by
  unfold tyO at h
  split at h
  · rename_i c' gs
    obtain ⟨a, C', dx, fs', rfl, ha, hc', rf⟩ := r.insAt A.ex
    obtain ⟨jj, hj⟩ := Option.isSome_iff_exists.mp h
    unfold mthB at hb
    rw [List.all_eq_true] at hb
    have hh := hb _ (lookup_in hj)
    simp only [Bool.and_eq_true, decide_eq_true_eq] at hh
    obtain ⟨Cl', fl', hf', e1, e2⟩ := cl_of g hh.2
    have ec : C' = Cl' := by have := Option.some.inj (hc'.symm.trans e1); cases this; rfl
    subst ec
    exact ⟨.ref C', .base (.ins ha e2.cl e2.ha e2.hn e2.ht e2.hm), (g.tb.okn _ _ _ _ hc hf' _ _ hm e1).2⟩
  · obtain ⟨t, ht⟩ := Option.isSome_iff_exists.mp h
    exact ⟨.type t, ty_of A r ht, (o.ty t (tyD_mem ht)).2⟩
theorem ob_noex {tbl : List (Str × Nat)} {o : OB} (ho : o ≠ .ixO ∧ o ≠ .addO ∧ o ≠ .subO) {d e : D} {m : M} {c : Exc} {m' : M} : obD fs tbl o d e m ≠ .ex c m' := by
  intro h
  have nb : ∀ {neg : Bool} {r : R D}, blO neg r ≠ .ex c m' := by
    intro neg r h
    unfold blO at h
    split at h <;> cases h
  unfold obD at h
  (repeat' split at h) <;> first | (cases h; done) | exact nb h | exact absurd rfl ho.1 | exact absurd rfl ho.2.1 | exact absurd rfl ho.2.2
theorem ob_bl {tbl : List (Str × Nat)} {o : OB} (ho : o ≠ .ixO ∧ o ≠ .addO ∧ o ≠ .subO) {d e f : D} {m m' : M} (h : obD fs tbl o d e m = .ok f m') : ∃ b, f = .bl b := by
  have nb : ∀ {neg : Bool} {r : R D}, blO neg r = .ok f m' → ∃ b, f = .bl b := by
    intro neg r h
    unfold blO at h
    split at h
    · cases h; exact ⟨_, rfl⟩
    · cases h
  unfold obD at h
  (repeat' split at h) <;> first | (cases h; done) | exact nb h | exact absurd rfl ho.1 | exact absurd rfl ho.2.1 | exact absurd rfl ho.2.2
/-- the operators -/
theorem ob_in (g : GdE X W C fs k) {tbl : List (Str × Nat)} (h : mthB C "__contains__" 2 tbl = true) : OpR X (compareOp .In) (rOf X (obD fs tbl .inO)) := OpR.imp (op_inO g.room g.gd) (by
  rintro x y H Q ⟨rho, F, m, d, e, A, r1, r2, h1⟩
  unfold obD at h1
  cases e with
  | obj c gs =>
    simp only at h1
    split at h1
    · rename_i sem hs
      obtain ⟨Cl, f, j, fl, e1, e2, _, M', _, hj, G⟩ := mth_of g h hs
      obtain ⟨a, C', dx, fs', rfl, ha, hc', rf⟩ := r2.insAt A.ex
      have ec : C' = Cl := by have := Option.some.inj (hc'.symm.trans e1); cases this; rfl
      subst ec
      refine ⟨a, C', dx, fs', f, _, j, rfl, ha, M'.at_, M'.fn, G, hj, call_data (W := fun _ _ _ _ => False) (σ := []) A (.cons r2 (.cons r1 .nil)) rfl ?_⟩
      exact (rd_bl h1).mono fun v H' ⟨b, hv, q⟩ => ⟨b, hv, by rw [hv]; simpa using q⟩
    · exact h1.elim
  | _ => exact h1.elim)
theorem ob_notIn (g : GdE X W C fs k) {tbl : List (Str × Nat)} (h : mthB C "__contains__" 2 tbl = true) : OpR X (compareOp .NotIn) (rOf X (obD fs tbl .notInO)) := OpR.imp (op_notInO g.room g.gd) (by
  rintro x y H Q ⟨rho, F, m, d, e, A, r1, r2, h1⟩
  unfold obD at h1
  cases e with
  | obj c gs =>
    simp only at h1
    split at h1
    · rename_i sem hs
      obtain ⟨Cl, f, j, fl, e1, e2, _, M', _, hj, G⟩ := mth_of g h hs
      obtain ⟨a, C', dx, fs', rfl, ha, hc', rf⟩ := r2.insAt A.ex
      have ec : C' = Cl := by have := Option.some.inj (hc'.symm.trans e1); cases this; rfl
      subst ec
      refine ⟨a, C', dx, fs', f, _, j, rfl, ha, M'.at_, M'.fn, G, hj, call_data (W := fun _ _ _ _ => False) (σ := []) A (.cons r2 (.cons r1 .nil)) rfl ?_⟩
      exact (rd_bl h1).mono fun v H' ⟨b, hv, q⟩ => ⟨b, hv, by simpa using q⟩
    · exact h1.elim
  | _ => exact h1.elim)
theorem ob_eq (g : GdE X W C fs k) {tbl : List (Str × Nat)} (h : mthB C "__eq__" 2 tbl = true) : OpR X (compareOp .Eq) (rOf X (obD fs tbl .eqO)) := OpR.imp (op_eqO g.room g.gd) (by
  rintro x y H Q ⟨rho, F, m, d, e, A, r1, r2, h1⟩
  cases d with
  | obj c gs =>
    have h1 : RdO X.K X.mg rho F H Q (if tyO tbl e m then match semO fs tbl c with
      | some sem => blO false (callD sem [.obj c gs, e] m)
      | none => .no
    else .no) := by cases e <;> exact h1
    split at h1
    · rename_i ht
      split at h1
      · rename_i sem hs
        obtain ⟨Cl, f, j, fl, e1, e2, hfl, M', _, hj, G⟩ := mth_of g h hs
        obtain ⟨a, C', dx, fs', rfl, ha, hc', rf⟩ := r1.insAt A.ex
        have ec : C' = Cl := by have := Option.some.inj (hc'.symm.trans e1); cases this; rfl
        subst ec
        obtain ⟨t, ty, nf⟩ := tyO_of g A r2 ht h hfl e1 e2
        refine ⟨a, C', dx, fs', f, _, j, t, rfl, ha, M'.at_, M'.fn, G, hj, ty, nf, call_data (W := fun _ _ _ _ => False) (σ := []) A (.cons r1 (.cons r2 .nil)) rfl ?_⟩
        exact (rd_bl h1).mono fun v H' ⟨b, hv, q⟩ => ⟨b, hv, by rw [hv]; simpa using q⟩
      · exact h1.elim
    · exact h1.elim
  | _ => exfalso; revert h1; unfold obD; simp [RdE])
theorem ob_ne (g : GdE X W C fs k) {tbl : List (Str × Nat)} (h : mthB C "__eq__" 2 tbl = true) : OpR X (compareOp .NotEq) (rOf X (obD fs tbl .neO)) := OpR.imp (op_neO g.room g.gd) (by
  rintro x y H Q ⟨rho, F, m, d, e, A, r1, r2, h1⟩
  cases d with
  | obj c gs =>
    have h1 : RdO X.K X.mg rho F H Q (if tyO tbl e m then match semO fs tbl c with
      | some sem => blO true (callD sem [.obj c gs, e] m)
      | none => .no
    else .no) := by cases e <;> exact h1
    split at h1
    · rename_i ht
      split at h1
      · rename_i sem hs
        obtain ⟨Cl, f, j, fl, e1, e2, hfl, M', _, hj, G⟩ := mth_of g h hs
        obtain ⟨a, C', dx, fs', rfl, ha, hc', rf⟩ := r1.insAt A.ex
        have ec : C' = Cl := by have := Option.some.inj (hc'.symm.trans e1); cases this; rfl
        subst ec
        obtain ⟨t, ty, nf⟩ := tyO_of g A r2 ht h hfl e1 e2
        refine ⟨a, C', dx, fs', f, _, j, t, rfl, ha, e2.hm, e2.ne, M'.at_, M'.fn, G, hj, ty, nf, call_data (W := fun _ _ _ _ => False) (σ := []) A (.cons r1 (.cons r2 .nil)) rfl ?_⟩
        exact (rd_bl h1).mono fun v H' ⟨b, hv, q⟩ => ⟨b, hv, by simpa using q⟩
      · exact h1.elim
    · exact h1.elim
  | _ => exfalso; revert h1; unfold obD; simp [RdE])
end
end HB
namespace HB
open PySem L2
open PySem.HBX
section
variable {fs : List Sem} {X : Cx} {W : WX} {C : Ck} {k : Nat}
/-- an instance and its own def -/
theorem ob_at (g : GdE X W C fs k) {y c : Str} {n : Nat} {tbl : List (Str × Nat)} {sem : Sem} {rho : List Addr} {F H : Hp} {m : M} {v : V} {gs : List (Str × D)} (A : Abs X.K X.mg rho F H m) (r : Rp X.K X.mg rho F v (.obj c gs)) (h : mthB C y n tbl = true) (hs : semO fs tbl c = some sem) :
    ∃ a Cl dx fs' f j, v = .ref a ∧ F a = some (.ins Cl dx fs') ∧ H a = some (.ins Cl dx fs') ∧ OCl X.K Cl ∧ Meth X.K Cl y f ∧ PySem.W.fnIn X.K f = true ∧ j + 2 ≤ k ∧ FnE X f n (spD X.K X.mg n sem) j ∧ RpF X.K X.mg rho F fs' gs := by
  obtain ⟨Cl, f, j, fl, e1, e2, _, M', hf, hj, G⟩ := mth_of g h hs
  cases r with
  | obj h1 h2 h3 =>
    have ec := Option.some.inj (h2.symm.trans e1)
    cases ec
    exact ⟨_, _, _, _, f, j, rfl, h1, A.ex _ _ h1, e2, M', hf, hj, G, h3⟩
end
section
variable {fs : List Sem}
theorem pr_lenO (tbl : List (Str × Nat)) : PrOk fs (.lenO tbl) := by
  intro X W C k g e ps h sa ha hlen
  unfold prC at h
  split at h
  all_goals try contradiction
  all_goals try (cases h; done)
  · rename_i heq
    cases heq
    split at h
    · rename_i x xp p pos hc
      cases h
      simp only [Bool.and_eq_true, decide_eq_true_eq] at hc
      obtain ⟨⟨⟨rfl, h2⟩, h3⟩, h4⟩ := hc
      obtain ⟨gl, hd, hn⟩ := gl_of g h2
      refine ⟨PE.imp (pe_callB (call_lenO g.room g.gd) gl (g.nob _ (by decide +kernel)) (by decide +kernel) ha hn hd (star_cons h3) rfl) ?_, fun _ => rfl, rfl⟩
      rintro σ H Q ⟨rho, F, env, m, A, En, h⟩
      refine ⟨rho, F, env, m, A, En, RdE.bind h fun ds m1 vs r1 F1 H1 s1 A1 q1 h1 => ?_⟩
      match ds, vs, q1, h1 with
      | [.obj c gs], [v], .cons qv .nil, h1 =>
        simp only [prD] at h1
        split at h1
        · rename_i sem hs
          obtain ⟨a, Cl, dx, fs', f, j, rfl, _, hH, oc, M', _, hj, G, _⟩ := ob_at g A1 qv h4 hs
          refine ⟨a, Cl, dx, fs', f, _, j, rfl, hH, M'.at_, M'.fn, G, hj, call_data (W := fun _ _ _ _ => False) (σ := []) A1 (.cons qv .nil) rfl ?_⟩
          exact rd_len (RdE.of0 h1 fun c m' z => by unfold lenR at z; (repeat' split at z) <;> cases z)
        · exact h1.elim
      | [], _, _, h1 => simp only [prD] at h1; exact h1.elim
      | _ :: _ :: _, _, _, h1 => simp only [prD] at h1; exact h1.elim
      | [.non], _, _, h1 | [.bl _], _, _, h1 | [.int _], _, _, h1 | [.str _], _, _, h1 | [.tup _], _, _, h1 | [.lst _], _, _, h1 | [.dct _], _, _, h1 | [.exv _ _], _, _, h1 | [.ref _], _, _, h1 | [.scr _], _, _, h1 => simp only [prD] at h1; exact h1.elim
    · cases h
theorem pr_strx (tbl : List (Str × Nat)) : PrOk fs (.strx tbl) := by
  intro X W C k g e ps h sa ha hlen
  unfold prC at h
  split at h
  all_goals try contradiction
  all_goals try (cases h; done)
  · rename_i heq
    cases heq
    split at h
    · rename_i x xp p pos hc
      cases h
      simp only [Bool.and_eq_true, decide_eq_true_eq, List.all_eq_true] at hc
      obtain ⟨⟨⟨rfl, h2⟩, h3⟩, h4⟩ := hc
      obtain ⟨gl, hd, hn⟩ := gl_of g h2
      refine ⟨PE.imp (pe_callTy ((call_strv (X := X)).or (call_strO g.room g.gd)) gl (g.nob _ (by decide +kernel)) (by decide +kernel) ha hn hd (star_cons h3) rfl) ?_, fun _ => rfl, rfl⟩
      rintro σ H Q ⟨rho, F, env, m, A, En, h⟩
      refine ⟨rho, F, env, m, A, En, RdE.bind h fun ds m1 vs r1 F1 H1 s1 A1 q1 h1 => ?_⟩
      match ds, vs, q1, h1 with
      | [.exv n gs], [v], .cons qv .nil, h1 =>
        left
        simp only [prD] at h1
        split at h1
        · rename_i j hj
          split at h1
          · rename_i sem hsem
            obtain ⟨l1, l2⟩ := h4 _ (lookup_in hj)
            have hsem' : fs[C.fns.length + (j - C.fns.length)]? = some sem := by rw [Nat.add_sub_cancel' l1]; exact hsem
            obtain ⟨Cm, f, jj, m1', m2', m3', m4', _, m7', G⟩ := g.mok _ _ _ _ _ l2 hsem'
            obtain ⟨a, C', d, rfl, ha', hc', hd', _⟩ := qv.xvAt A1.ex
            have ec : C' = Cm := by have := Option.some.inj (hc'.symm.trans m1'); cases this; rfl
            subst ec
            refine ⟨a, C', f, d, _, jj, rfl, ha', fun dd z => let ⟨fs, q, _⟩ := hd' dd z; ⟨fs, q⟩, G, ?_, g.gd, m2', m3', ?_⟩
            · obtain ⟨rh, rd, ru⟩ := g.room
              exact ⟨rh, by show X.A.depth + 3 * jj + 5 < _; omega, by show X.A.units + 1 + 1 + 16 * jj + 200 < _; omega⟩
            · exact call_data (σ := []) (W := fun cls d σ H => False) A1 (.cons qv .nil) rfl (rd_str (RdE.of0 h1 fun c m' z => by unfold strR at z; (repeat' split at z) <;> cases z))
          · exact h1.elim
        · exact h1.elim
      | [.obj c gs], [v], .cons qv .nil, h1 =>
        right
        simp only [prD] at h1
        split at h1
        · rename_i sem hs
          unfold semO at hs
          cases hl : tbl.lookup c with
          | none => rw [hl] at hs; cases hs
          | some j =>
            rw [hl] at hs
            obtain ⟨l1, l2⟩ := h4 _ (lookup_in hl)
            have hsem' : fs[C.fns.length + (j - C.fns.length)]? = some sem := by rw [Nat.add_sub_cancel' l1]; exact hs
            obtain ⟨Cm, f, jj, m1', m2', m3', m4', _, m7', G⟩ := g.mok _ _ _ _ _ l2 hsem'
            obtain ⟨a, C', dx, fs', rfl, ha', hc', rf⟩ := qv.insAt A1.ex
            have ec : C' = Cm := by have := Option.some.inj (hc'.symm.trans m1'); cases this; rfl
            subst ec
            exact ⟨a, C', dx, fs', f, _, jj, rfl, ha', m2', m3', G, m7', call_data (σ := []) (W := fun cls d σ H => False) A1 (.cons qv .nil) rfl (rd_str (RdE.of0 h1 fun c m' z => by unfold strR at z; (repeat' split at z) <;> cases z))⟩
        · exact h1.elim
      | [], _, _, h1 => simp only [prD] at h1; exact h1.elim
      | _ :: _ :: _, _, _, h1 => simp only [prD] at h1; exact h1.elim
      | [.non], _, _, h1 | [.bl _], _, _, h1 | [.int _], _, _, h1 | [.str _], _, _, h1 | [.tup _], _, _, h1 | [.lst _], _, _, h1 | [.dct _], _, _, h1 | [.ref _], _, _, h1 | [.scr _], _, _, h1 => simp only [prD] at h1; exact h1.elim
    · cases h
theorem pr_lstO (ti tl : List (Str × Nat)) : PrOk fs (.lstO ti tl) := by
  intro X W C k g e ps h sa ha hlen
  unfold prC at h
  split at h
  all_goals try contradiction
  all_goals try (cases h; done)
  · rename_i heq
    cases heq
    split at h
    · rename_i x xp p pos hc
      cases h
      simp only [Bool.and_eq_true, decide_eq_true_eq] at hc
      obtain ⟨⟨⟨⟨rfl, h2⟩, h3⟩, h4⟩, h5⟩ := hc
      obtain ⟨gl, hd, hn⟩ := gl_of g h2
      refine ⟨PE.imp (pe_callTy (call_listO g.calm g.room g.gd) gl (g.nob _ (by decide +kernel)) (by decide +kernel) ha hn hd (star_cons h3) rfl) ?_, fun _ => rfl, rfl⟩
      rintro σ H Q ⟨rho, F, env, m, A, En, h⟩
      refine ⟨rho, F, env, m, A, En, RdE.bind h fun ds m1 vs r1 F1 H1 s1 A1 q1 h1 => ?_⟩
      match ds, vs, q1, h1 with
      | [.obj c gs], [v], .cons qv .nil, h1 =>
        simp only [prD] at h1
        split at h1
        · rename_i si sl hi hl
          obtain ⟨a, Cl, dx, fs', fi, ji, rfl, hF, hH, oc, Mi, _, hji, Gi, _⟩ := ob_at g A1 qv h4 hi
          obtain ⟨a', Cl', dx', fs'', fl, jl, ea, hF', _, _, Ml, _, hjl, Gl, _⟩ := ob_at g A1 qv h5 hl
          cases ea
          rw [hF] at hF'
          cases hF'
          refine ⟨a, rfl, fun q np => ?_⟩
          have nr : q ∉ r1 := A1.notmem np
          have nF : F1 q = none := by
            cases e : F1 q with
            | none => rfl
            | some u => rw [A1.ex q u e] at np; cases np
          have A' : Abs X.K X.mg r1 F1 (upd H1 q (.lst [])) m1 := A1.side nr nF
          have s0 : Step r1 F1 H1 r1 F1 (upd H1 q (.lst [])) := Step.side Step.refl np
          refine ⟨Cl, dx, fs', fi, fl, _, _, ji, jl, A'.ex _ _ hF, Mi.at_, Mi.fn, Gi, hji, Ml.at_, Ml.fn, Gl, hjl, call_data (W := fun _ _ _ _ => False) (σ := []) A' (.cons qv .nil) rfl ?_⟩
          have hb := h1
          cases ei : callD si [.obj c gs] m1 with
          | no => rw [ei] at hb; exact hb
          | ex cc mm => rw [ei] at hb; exact hb.elim
          | ok d m2 =>
            rw [ei] at hb
            simp only [noEx, R.bind] at hb
            cases d with
            | ref j =>
              simp only at hb
              split at hb
              · rename_i ds0 hm2
                intro v2 r2 F2 H2 s2 A2 q2
                cases q2 with
                | ref hi2 =>
                  rename_i it
                  obtain ⟨_, p0, vs0, hit, _, _⟩ := A2.own _ _ _ hi2 hm2
                  refine ⟨it, p0, rfl, A2.ex _ _ (s2.ex _ _ hF), hit, call_data (W := fun _ _ _ _ => False) (σ := []) A2 (.cons (qv.mono s2.onto) .nil) rfl ?_⟩
                  have hb2 := hb
                  cases el : callD sl [.obj c gs] m2 with
                  | no => rw [el] at hb2; exact hb2
                  | ex cc mm => rw [el] at hb2; exact hb2.elim
                  | ok e m3 =>
                    rw [el] at hb2
                    simp only [noEx, R.bind] at hb2
                    split at hb2
                    · rename_i n ds3 hm3
                      split at hb2
                      · rename_i hc
                        intro v3 r3 F3 H3 s3 A3 q3
                        cases q3
                        have hi3 : r3[j]? = some it := s3.ix hi2
                        obtain ⟨nF3, p3, vs3, hit3, hsq3, rl3⟩ := A3.own _ _ _ hi3 hm3
                        have hq2 : H2 q = some (.lst []) ∧ F2 q = none := by
                          obtain ⟨z1, z2⟩ := s2.old q _ upd_same nr
                          exact ⟨z1, z2.trans nF⟩
                        have nr2 : q ∉ r2 := by
                          obtain ⟨rr, e1, e2⟩ := s2.pre
                          rw [e1]
                          intro z
                          rcases List.mem_append.mp z with z | z
                          · exact nr z
                          · have := e2 q z
                            rw [upd_same] at this; cases this
                        obtain ⟨hq3, nFq3⟩ := s3.old q _ hq2.1 nr2
                        rw [hq2.2] at nFq3
                        have nr3 : q ∉ r3 := by
                          obtain ⟨rr, e1, e2⟩ := s3.pre
                          rw [e1]
                          intro z
                          rcases List.mem_append.mp z with z | z
                          · exact nr2 z
                          · have := e2 q z
                            rw [hq2.1] at this; cases this
                        refine ⟨n.toNat, p3, vs3, by rw [Int.toNat_of_nonneg hc.1], by omega, hq3, hit3, sqT_mono A3.ex hsq3, by rw [rl3.length]; exact hc.2.2, ?_⟩
                        obtain ⟨st4, A4⟩ := A3.write (o := ItX it) (y := .gone) hi3 hm3 nF3 ⟨_, hit3⟩ trivial
                        have A5 : Abs X.K X.mg r3 F3 (upd (upd H3 it (ItX it)) q (.lst vs3)) (m3.set j .gone) := A4.side nr3 nFq3
                        have st5 : Step r1 F1 H1 r3 F3 (upd (upd H3 it (ItX it)) q (.lst vs3)) := Step.side (((s0.trans s2).trans s3).trans st4) np
                        have st6 := Step.sideFix (o := .lst vs3) st5 np nFq3
                        have A6 := A5.sideFix nr3 nFq3 (upd_same : upd (upd H3 it (ItX it)) q (.lst vs3) q = some _)
                        have on : Onto r3 F3 r3 (upd F3 q (.lst vs3)) := ⟨fun h => h, fun b u h => by rw [upd_ne (ne_of_none h nFq3)]; exact h⟩
                        exact hb2 _ _ _ _ st6 A6 (.lst upd_same (rl3.mono on))
                      · exact hb2.elim
                    · exact hb2.elim
              · exact hb.elim
            | _ => exact hb.elim
        · exact h1.elim
      | [], _, _, h1 => simp only [prD] at h1; exact h1.elim
      | _ :: _ :: _, _, _, h1 => simp only [prD] at h1; exact h1.elim
      | [.non], _, _, h1 | [.bl _], _, _, h1 | [.int _], _, _, h1 | [.str _], _, _, h1 | [.tup _], _, _, h1 | [.lst _], _, _, h1 | [.dct _], _, _, h1 | [.exv _ _], _, _, h1 | [.ref _], _, _, h1 | [.scr _], _, _, h1 => simp only [prD] at h1; exact h1.elim
    · cases h
end
end HB
namespace HB
open PySem L2
open PySem.HBX
section
variable {K : PySem.W.Frag} {mg : Str → Option Value} {rho : List Addr} {F H H' : Hp} {m : M}
/-- new things, all of them frozen -/
theorem Abs.grow (A : Abs K mg rho F H m) (hk : ∀ b o, H b = some o → H' b = some o) : ∃ F', (∀ b, H b = none → F' b = H' b) ∧ Step rho F H rho F' H' ∧ Abs K mg rho F' H' m := by
  refine ⟨fun b => match H b with
    | none => H' b
    | some _ => F b, fun b e => by simp only [e], ?_⟩
  have up : ∀ b u, H b = some u → (match H b with
    | none => H' b
    | some _ => F b) = F b := fun b u e => by rw [e]
  have sF : Same F (fun b => match H b with
    | none => H' b
    | some _ => F b) := fun b u e => by
    show (match H b with
      | none => H' b
      | some _ => F b) = some u
    rw [up b u (A.ex b u e)]; exact e
  have st : Step rho F H rho (fun b => match H b with
    | none => H' b
    | some _ => F b) H' := ⟨⟨[], by simp, by simp⟩, sF, fun a u h => ⟨u, hk a u h⟩, fun a u h _ => ⟨hk a u h, up a u h⟩⟩
  refine ⟨st, ⟨fun b u e => ?_, A.len, A.nd, fun i a o hi ho => ?_, fun a ha => let ⟨u, hu⟩ := A.all a ha; ⟨u, hk a u hu⟩⟩⟩
  · cases hb : H b with
    | none => simp only [hb] at e; exact e
    | some w =>
      simp only [hb] at e
      have := A.ex b u e
      rw [hb] at this; cases this
      exact hk b u hb
  · obtain ⟨u, hu⟩ := A.all a (List.mem_of_getElem? hi)
    exact (A.own i a o hi ho).mono st.onto (up a u hu) fun v hv => hk a v hv
theorem rp_key {k : Key} : Rp K mg rho F (kV k) (keyD k) := by
  cases k
  · exact .int
  · exact .str
theorem items_rp {F' : Hp} : ∀ {ts : List Addr} {kvs : List (Key × V)} {es : List (Key × D)}, Paired (fun (t : Addr) (q : Key × V) => F' t = some (.tup [kV q.1, q.2])) ts kvs → KVr K mg rho F' kvs es →
    RpL K mg rho F' (ts.map V.ref) (es.map fun p => .tup [keyD p.1, p.2])
  | _, _, _, .nil, .nil => .nil
  | _, _, _, .cons h t, .cons r rs => .cons (.tup (.inl (.inl h)) (.cons rp_key (.cons r .nil))) (items_rp t rs)
theorem KVr.vals : ∀ {kvs : List (Key × V)} {es : List (Key × D)}, KVr K mg rho F kvs es → RpL K mg rho F (kvs.map (·.2)) (es.map (·.2))
  | _, _, .nil => .nil
  | _, _, .cons r rs => .cons r rs.vals
end
section
variable {fs : List Sem}
theorem mr_litems : MrOk fs .litems := by
  intro X W C k g e q ps h sa sb ha hb _ h0
  unfold mrC at h
  split at h
  all_goals try contradiction
  all_goals try (cases h; done)
  · rename_i heq
    split at h
    · rename_i x xp p y ap cp pos hc
      cases h
      simp only [Bool.and_eq_true, decide_eq_true_eq] at hc
      obtain ⟨⟨⟨⟨rfl, h2⟩, rfl⟩, h4⟩, h5⟩ := hc
      obtain ⟨gl, hd, hn⟩ := gl_of g h2
      refine ⟨PE.imp (pe_listItemsR g.calm ha gl (g.nob _ (by decide +kernel)) (by decide +kernel) (base_plain h4) h5) ?_, fun _ => rfl, rfl⟩
      rintro σ H Q ⟨rho, F, env, m, A, En, h⟩
      refine ⟨rho, F, env, m, A, En, RdE.bind h fun d m1 v r1 F1 H1 s1 A1 q1 h1 => ?_⟩
      simp only [mrG, if_true, h0 rfl, R.bind] at h1
      have h2 : RdE X.K X.mg W σ (relD X.K X.mg) r1 F1 H1 Q (match viewD d m1 with
          | some es => .ok (.lst (es.map fun p => .tup [keyD p.1, p.2])) m1
          | none => .no) := by cases d <;> exact h1
      split at h2
      · rename_i es hv
        obtain ⟨p, kvs, rfl, hp, kr⟩ := q1.viewD A1 hv
        refine ⟨p, kvs, rfl, hp, fun H' q ts hk nq nts nqt hq hpr => ?_⟩
        obtain ⟨F', hF', st, A'⟩ := A1.grow hk
        have hqF : F' q = some (.lst (ts.map V.ref)) := (hF' q nq).trans hq
        refine h2 _ _ _ _ st A' (.lst hqF (items_rp (kvs := kvs) ?_ (kr.mono st.onto)))
        have : ∀ {ts : List Addr} {kvs : List (Key × V)}, (∀ t ∈ ts, H1 t = none) → Paired (fun (t : Addr) (q : Key × V) => H' t = some (.tup [kV q.1, q.2])) ts kvs → Paired (fun (t : Addr) (q : Key × V) => F' t = some (.tup [kV q.1, q.2])) ts kvs := by
          intro ts kvs hn hp
          induction hp with
          | nil => exact .nil
          | cons h t ih => exact .cons ((hF' _ (hn _ List.mem_cons_self)).trans h) (ih fun t ht => hn t (List.mem_cons_of_mem _ ht))
        exact this nts hpr
      · exact h2.elim
    · cases h
theorem mr_lvals : MrOk fs .lvals := by
  intro X W C k g e q ps h sa sb ha hb _ h0
  unfold mrC at h
  split at h
  all_goals try contradiction
  all_goals try (cases h; done)
  · rename_i heq
    split at h
    · rename_i x xp p y ap cp pos hc
      cases h
      simp only [Bool.and_eq_true, decide_eq_true_eq] at hc
      obtain ⟨⟨⟨⟨rfl, h2⟩, rfl⟩, h4⟩, h5⟩ := hc
      obtain ⟨gl, hd, hn⟩ := gl_of g h2
      refine ⟨PE.imp (pe_listValsR g.calm ha gl (g.nob _ (by decide +kernel)) (by decide +kernel) (base_plain h4) h5) ?_, fun _ => rfl, rfl⟩
      rintro σ H Q ⟨rho, F, env, m, A, En, h⟩
      refine ⟨rho, F, env, m, A, En, RdE.bind h fun d m1 v r1 F1 H1 s1 A1 q1 h1 => ?_⟩
      simp only [mrG, if_true, h0 rfl, R.bind] at h1
      have h2 : RdE X.K X.mg W σ (relD X.K X.mg) r1 F1 H1 Q (match viewD d m1 with
          | some es => .ok (.lst (es.map (·.2))) m1
          | none => .no) := by cases d <;> exact h1
      split at h2
      · rename_i es hv
        obtain ⟨p, kvs, rfl, hp, kr⟩ := q1.viewD A1 hv
        refine ⟨p, kvs, rfl, hp, fun q nq => ?_⟩
        exact RdO.newL (RdE.of0 h2 fun _ _ z => nomatch z) A1 kr.vals nq
      · exact h2.elim
    · cases h
theorem mr_ofld (f : Str) (cs : List Str) : MrOk fs (.ofld f cs) := by
  intro X W C k g e q ps h sa sb ha hb _ h0
  unfold mrC at h
  split at h
  all_goals try contradiction
  all_goals try (cases h; done)
  · rename_i heq
    cases heq
    split at h
    · rename_i p gg pos hc
      cases h
      simp only [Bool.and_eq_true, decide_eq_true_eq, List.all_eq_true] at hc
      obtain ⟨⟨rfl, h2⟩, h3⟩ := hc
      refine ⟨PE.imp (pe_fld ha (base_plain h2)) ?_, fun _ => rfl, rfl⟩
      rintro σ H Q ⟨rho, F, env, m, A, En, h⟩
      refine ⟨rho, F, env, m, A, En, RdE.bind h fun d m1 v r1 F1 H1 s1 A1 q1 h1 => ?_⟩
      simp only [mrG, if_true, h0 rfl, R.bind] at h1
      have h2 : RdE X.K X.mg W σ (relD X.K X.mg) r1 F1 H1 Q (match insD d m1 with
          | some (c, gs) => if cs.contains c then match gs.lookup gg with
              | some v => .ok v m1
              | none => .no
            else .no
          | none => .no) := by cases d <;> exact h1
      split at h2
      · rename_i c gs hi
        split at h2
        · rename_i hcs
          split at h2
          · rename_i dv hl
            obtain ⟨a, Cl, dx, fs', rfl, hH, hc, rf⟩ := q1.insD A1 hi
            have hfl := h3 c (by simpa using hcs)
            unfold hasFld at hfl
            rw [List.any_eq_true] at hfl
            obtain ⟨⟨c', fl⟩, hm, hh⟩ := hfl
            simp only [Bool.and_eq_true, decide_eq_true_eq, List.contains_iff_mem] at hh
            obtain ⟨rfl, hf⟩ := hh
            obtain ⟨Cl', e1, oc, na⟩ := g.tb.ocl _ _ hm
            have ec := Option.some.inj (hc.symm.trans e1)
            cases ec
            obtain ⟨v, lv, rv⟩ := rf.lookF hl
            exact ⟨a, Cl, dx, fs', v, rfl, hH, oc.cl, na _ hf, lv, h2 v _ _ _ Step.refl A1 rv⟩
          · exact h2.elim
        · exact h2.elim
      · exact h2.elim
    · cases h
theorem sem_some {X : Cx} {W : WX} {C : Ck} {k : Nat} (g : GdE X W C fs k) {y c : Str} {n : Nat} {tbl : List (Str × Nat)} (h : mthB C y n tbl = true) (hs : (tbl.lookup c).isSome = true) : ∃ sem, semO fs tbl c = some sem := by
  obtain ⟨j, hj⟩ := Option.isSome_iff_exists.mp hs
  unfold mthB at h
  rw [List.all_eq_true] at h
  have hh := h _ (lookup_in hj)
  simp only [Bool.and_eq_true, decide_eq_true_eq] at hh
  have h1 := (List.getElem?_eq_some_iff.mp hh.1.2).1
  have h2 := g.fl4
  unfold semO
  rw [hj]
  exact ⟨fs[j]'(by omega), by simp⟩
theorem form_of {env : PySem.Env} {pos : Pos} {es : List Expr} (h : es.all plainB = true) (hl : es.length < 20) : methodCallForm (es.length + ([] : List Keyword).length) (backTo pos (starEach es env)) (backToKw pos (keywordEach [] env)) = true := by
  have h1 := star_any (env := env) (pos := pos) h
  have hfew : ((backTo pos (starEach es env)).all (fun x => !x.1) && (backToKw pos (keywordEach [] env)).all (fun x => x.1.isSome) && decide (es.length + ([] : List Keyword).length + (if ([] : List Keyword).isEmpty then 0 else 1) < 30)) = true := by
    simp only [Bool.and_eq_true, decide_eq_true_eq]
    refine ⟨⟨?_, rfl⟩, by simp; omega⟩
    rw [List.all_eq_true]
    intro x hx
    rw [List.any_eq_false] at h1
    simpa using h1 x hx
  exact hfew
theorem mr_ometh (y : Str) (tbl : List (Str × Nat)) : MrOk fs (.ometh y tbl) := by
  intro X W C k g e q ps h sa sb ha hb hlen h0
  unfold mrC at h
  split at h
  all_goals try contradiction
  all_goals try (cases h; done)
  · rename_i heq
    cases heq
    split at h
    · rename_i p gg ap ps' pos hc
      cases h
      simp only [Bool.and_eq_true, decide_eq_true_eq] at hc
      obtain ⟨⟨⟨⟨⟨rfl, h2⟩, h3⟩, h4⟩, h5⟩, h6⟩ := hc
      have core : ∀ (t : TA), PA X ps t → (ps = [] ∧ t = tNil ∨ ∃ e r, ps = e :: r ∧ starEach (e :: r) X.env = (false, eval e X.env) :: starEach r X.env ∧ (backTo pos (starEach r X.env)).any (·.1) = false) →
          (∀ σ H R, tA X W sb σ H R → t σ H R) → PE X (.Call (.Attribute q gg ap) ps [] pos) (tE X W fun env m => (sa env m).bind fun d m => if mrG (.ometh gg tbl) d m then (sb env m).bind fun ds m => mrD fs (.ometh gg tbl) d ds m else .no) := by
        intro t pt hst hts
        refine PE.imp (peG_methX (np := ps.length + 1) ha g.room g.gd g.tk pt hst (base_plain h2) (form_of h3 h4) h5) ?_
        rintro σ H Q ⟨rho, F, env, m, A, En, h⟩
        refine ⟨rho, F, env, m, A, En, RdE.bind h fun d m1 v r1 F1 H1 s1 A1 q1 h1 => ?_⟩
        split at h1
        · rename_i hG
          cases d with
          | obj c gs =>
            simp only [mrG, Bool.and_eq_true, Option.isNone_iff_eq_none] at hG
            obtain ⟨sem, hs⟩ := sem_some g h6 hG.1
            obtain ⟨a, Cl, dx, fs', f, j, rfl, hF, hH, oc, M', _, hj, G, rf⟩ := ob_at g A1 q1 h6 hs
            refine ⟨a, Cl, dx, fs', f, _, j, rfl, hH, rf.lookN hG.2, oc.cl, M', G, hj, hts _ _ _ ?_⟩
            refine ⟨r1, F1, env, m1, A1, En.mono s1.onto, ?_⟩
            cases eb : sb env m1 with
            | no => rw [eb] at h1; exact h1
            | ex cc mm => rw [eb] at h1; exact h1
            | ok ds m2 =>
              rw [eb] at h1
              have hl := hlen _ _ _ _ eb
              intro vs r2 F2 H2 s2 A2 q2
              have h2 : RdE X.K X.mg W σ (relD X.K X.mg) r1 F1 H1 Q (mrD fs (.ometh gg tbl) (.obj c gs) ds m2) := h1
              simp only [mrD, hs] at h2
              refine ⟨by rw [List.length_cons, q2.length, hl], call_data A2 (.cons (q1.mono s2.onto) q2) (by rw [List.length_cons, hl]) (RdE.step h2 s2)⟩
          | _ => simp [mrG] at hG
        · exact h1.elim
      refine ⟨?_, fun _ => rfl, rfl⟩
      cases ps with
      | nil =>
        refine core tNil pa_nil (.inl ⟨rfl, rfl⟩) ?_
        rintro σ H R ⟨rho, F, env, m, A, En, h⟩
        rw [h0 rfl] at h
        exact h [] _ _ _ Step.refl A .nil
      | cons e r =>
        have h3' := h3
        simp only [List.all_cons, Bool.and_eq_true] at h3'
        exact core _ hb (.inr ⟨e, r, rfl, star_cons h3'.1, star_any h3'.2⟩) fun _ _ _ z => z
    · cases h
theorem mr_oprop (y : Str) (tbl : List (Str × Nat)) : MrOk fs (.oprop y tbl) := by
  intro X W C k g e q ps h sa sb ha hb _ h0
  unfold mrC at h
  split at h
  all_goals try contradiction
  all_goals try (cases h; done)
  · rename_i heq
    cases heq
    split at h
    · rename_i p gg pos hc
      cases h
      simp only [Bool.and_eq_true, decide_eq_true_eq] at hc
      obtain ⟨⟨rfl, h2⟩, h3⟩ := hc
      refine ⟨PE.imp (peG_prop ha g.room g.gd (base_plain h2)) ?_, fun _ => rfl, rfl⟩
      rintro σ H Q ⟨rho, F, env, m, A, En, h⟩
      refine ⟨rho, F, env, m, A, En, RdE.bind h fun d m1 v r1 F1 H1 s1 A1 q1 h1 => ?_⟩
      simp only [mrG, if_true, h0 rfl, R.bind] at h1
      cases d with
      | obj c gs =>
        simp only [mrD] at h1
        split at h1
        · rename_i sem hs
          obtain ⟨Cl, p, f, j, e1, oc, po, hj, G⟩ := prp_of g h3 hs
          obtain ⟨a, C', dx, fs', rfl, hH, hc, rf⟩ := q1.insAt A1.ex
          have ec := Option.some.inj (hc.symm.trans e1)
          cases ec
          refine ⟨a, Cl, dx, fs', p, f, _, j, rfl, hH, oc.cl, po, G, hj, call_data (W := fun _ _ _ _ => False) (σ := []) A1 (.cons q1 .nil) rfl ?_⟩
          exact rd_noEx (RdE.of0 h1 fun c m' z => by unfold noEx at z; (repeat' split at z) <;> cases z)
        · exact h1.elim
      | _ => simp only [mrD] at h1; exact h1.elim
    · cases h
theorem mr_isO (c : Str) (cs : List Str) : MrOk fs (.isO c cs) := by
  intro X W C k g e q ps h sa sb ha hb _ h0
  unfold mrC at h
  split at h
  all_goals try contradiction
  all_goals try (cases h; done)
  · rename_i heq
    cases heq
    split at h
    · rename_i x xp p y yp pos hc
      cases h
      simp only [Bool.and_eq_true, decide_eq_true_eq, List.all_eq_true] at hc
      obtain ⟨⟨⟨⟨⟨⟨⟨rfl, h2⟩, h3⟩, h4⟩, rfl⟩, h6⟩, h7⟩, h8⟩ := hc
      obtain ⟨gl, hd, hn⟩ := gl_of g h2
      obtain ⟨gl2, hd2, hn2⟩ := gl_of g h4
      obtain ⟨Cl, fl, hfl, e1, oc⟩ := cl_of g h7
      refine ⟨PE.imp (pe_callB (x := "isinstance") (id := "isinstance") call_isi gl (g.nob _ (by decide +kernel)) (by decide +kernel) (pa_cons ha (pa_cons (pe_glob (v := .ref Cl) gl2 e1 rfl hd2) pa_nil) (star_cons h3)) hn hd (star_cons h3) rfl) ?_, fun _ => rfl, rfl⟩
      rintro σ H Q ⟨rho, F, env, m, A, En, h⟩
      refine ⟨rho, F, env, m, A, En, RdE.bind h fun d m1 v r1 F1 H1 s1 A1 q1 h1 => ?_⟩
      simp only [mrG, if_true, h0 rfl, R.bind] at h1
      have other : (∀ c gs, d ≠ .obj c gs) → RdE X.K X.mg W σ (relD X.K X.mg) r1 F1 H1 Q (match tyD d m1 with
          | some _ => if cs.contains y then .ok (.bl false) m1 else .no
          | none => .no) → ∃ (x c : V) (t u : Value) (b : Bool), [v, V.ref Cl] = [x, c] ∧ ClsV c u ∧ TyX X.K H1 x t ∧ PySem.W.kitOne X.K t u = some b ∧ Q (.bl b) H1 := by
        intro _ h2
        split at h2
        · rename_i t ht
          rw [if_pos h8] at h2
          exact ⟨v, .ref Cl, .type t, .ref Cl, false, rfl, .own Cl, ty_of A1 q1 ht, (oc.ty t (tyD_mem ht)).1, h2 _ _ _ _ Step.refl A1 .bl⟩
        · exact h2.elim
      cases d with
      | obj c' gs =>
        simp only [mrD] at h1
        split at h1
        · rename_i hcs
          obtain ⟨Cl', fl', hfl', e1', oc'⟩ := cl_of g (h6 c' (by simpa using hcs))
          obtain ⟨a, C', dx, fs', rfl, hH, hc, rf⟩ := q1.insAt A1.ex
          have ec := Option.some.inj (hc.symm.trans e1')
          cases ec
          exact ⟨_, .ref Cl, .ref Cl', .ref Cl, _, rfl, .own Cl, .base (.ins hH oc'.cl oc'.ha oc'.hn oc'.ht oc'.hm), (g.tb.okn _ _ _ _ hfl' hfl _ _ e1' e1).1, h1 _ _ _ _ Step.refl A1 .bl⟩
        · exact h1.elim
      | _ => exact other (fun _ _ z => nomatch z) h1
    · cases h
end
end HB
namespace HB
open PySem L2
section
variable {fs : List Sem}
theorem snd_var (i : Nat) : SndP fs (.var i) := fun X W C k g => ⟨fun pe h => by
  cases pe with
  | Name x pos =>
    simp only [chk, Bool.and_eq_true, decide_eq_true_eq] at h
    obtain ⟨⟨h1, h2⟩, h3⟩ := h
    obtain ⟨a, b, c⟩ := okN_of h3
    exact SndE.plain (PE.imp (pe_var (i := i) (by rw [g.N]; exact h1) (by rw [g.sc]; exact vis_of h2) a b) (step_var fun env m => by first | (rw [evE]; done) | (rw [evE]; rfl))) (fun _ => rfl) rfl
  | _ => simp [chk] at h, noA fun C ps => by cases ps <;> rfl⟩
theorem snd_const {e : T} {v : V} {d : D} {pe : Expr} {X : Cx} {W : WX} (he : ∀ env m, evE fs e env m = .ok d m) (hr : ∀ rho F, Rp X.K X.mg rho F v d) (hp : PE X pe (tC v)) (ht : ∀ whole, isTrue pe X.env whole = (do let v ← whole; standAt pe.pos; holding [v] (truthy v))) (nb : isBoolOp pe = false) : SndE X W fs e pe :=
  SndE.plain (PE.imp hp (step_c he hr)) ht nb
theorem snd_non : SndP fs .non := fun X W C k g => ⟨fun pe h => by
  cases pe with
  | Constant c j pos =>
    cases c with
    | none => exact snd_const (v := .non) (d := .non) (fun env m => by simp only [evE]) (fun _ _ => .non) pe_non (fun _ => rfl) rfl
    | _ => simp [chk] at h
  | _ => simp [chk] at h, noA fun C ps => by cases ps <;> rfl⟩
theorem snd_bl (b : Bool) : SndP fs (.bl b) := fun X W C k g => ⟨fun pe h => by
  cases pe with
  | Constant c j pos =>
    cases c with
    | bool c =>
      have e : b = c := by simpa [chk] using h
      subst e
      exact snd_const (v := .bl b) (d := .bl b) (fun env m => by simp only [evE]) (fun _ _ => .bl) pe_bl (fun _ => rfl) rfl
    | _ => simp [chk] at h
  | _ => simp [chk] at h, noA fun C ps => by cases ps <;> rfl⟩
theorem snd_int (i : Int) : SndP fs (.int i) := fun X W C k g => ⟨fun pe h => by
  cases pe with
  | Constant c j pos =>
    cases c with
    | int c =>
      have e : i = c := by simpa [chk] using h
      subst e
      exact snd_const (v := .int i) (d := .int i) (fun env m => by simp only [evE]) (fun _ _ => .int) pe_int (fun _ => rfl) rfl
    | _ => simp [chk] at h
  | _ => simp [chk] at h, noA fun C ps => by cases ps <;> rfl⟩
theorem snd_str (x : Str) : SndP fs (.str x) := fun X W C k g => ⟨fun pe h => by
  cases pe with
  | Constant c j pos =>
    cases c with
    | str c =>
      have e : x = c := by simpa [chk] using h
      subst e
      exact snd_const (v := .str x) (d := .str x) (fun env m => by simp only [evE]) (fun _ _ => .str) pe_str (fun _ => rfl) rfl
    | _ => simp [chk] at h
  | _ => simp [chk] at h, noA fun C ps => by cases ps <;> rfl⟩
theorem snd_gint (x : Str) (i : Int) : SndP fs (.gint x i) := fun X W C k g => ⟨fun pe h => by
  cases pe with
  | Name y pos =>
    simp only [chk, Bool.and_eq_true, decide_eq_true_eq] at h
    obtain ⟨⟨h1, h2⟩, h3⟩ := h
    subst h1
    obtain ⟨a, b, c⟩ := gl_of g h2
    obtain ⟨t, ht⟩ := g.tb.gi x i h3
    exact snd_const (v := .int i) (d := .int i) (fun env m => by simp only [evE]) (fun _ _ => .int) (pe_glob a ht ⟨t, rfl⟩ b) (fun _ => rfl) rfl
  | _ => simp [chk] at h, noA fun C ps => by cases ps <;> rfl⟩
theorem snd_bin (o : BOp) {a b : T} (Pa : SndP fs a) (Pb : SndP fs b) : SndP fs (.bin o a b) := fun X W C k g => ⟨fun pe h => by
  cases pe with
  | BinOp p q r pos =>
    simp only [chk, Bool.and_eq_true, decide_eq_true_eq] at h
    obtain ⟨⟨h1, h2⟩, h3⟩ := h
    subst h1
    refine SndE.plain ?_ (fun _ => rfl) rfl
    simp only [funext fun env => funext fun m => (by simp only [evE] : evE fs (.bin o a b) env m = (evE fs a env m).bind fun d m => (evE fs b env m).bind fun e m => bopD o d e m)]
    exact PE.imp (pe_op (od_bin o) (((Pa X W C k g).1 _ h2).v) (((Pb X W C k g).1 _ h3).v)) (step_op (f := binaryOp (bopO o)) rfl fun d e m c m' => bop_noex)
  | _ => simp [chk] at h, noA fun C ps => by cases ps <;> rfl⟩
theorem snd_neg {a : T} (Pa : SndP fs a) : SndP fs (.neg a) := fun X W C k g => ⟨fun pe h => by
  cases pe with
  | UnaryOp op p pos =>
    cases op with
    | USub =>
      simp only [chk] at h
      refine SndE.plain ?_ (fun _ => rfl) rfl
      refine PE.imp (pe_un un_neg (((Pa X W C k g).1 _ h).v)) ?_
      rintro σ H Q ⟨rho, F, env, m, A, En, h⟩
      simp only [evE] at h
      refine ⟨rho, F, env, m, A, En, RdE.bind h fun d m1 v r1 F1 H1 s1 A1 q1 h1 => ?_⟩
      split at h1
      · cases q1; exact ⟨_, rfl, h1 _ _ _ _ Step.refl A1 .int⟩
      · exact h1.elim
    | _ => simp [chk] at h
  | _ => simp [chk] at h, noA fun C ps => by cases ps <;> rfl⟩
theorem snd_not {a : T} (Pa : SndP fs a) : SndP fs (.not a) := fun X W C k g => ⟨fun pe h => by
  cases pe with
  | UnaryOp op p pos =>
    cases op with
    | Not =>
      simp only [chk] at h
      have S := (Pa X W C k g).1 _ h
      refine ⟨PE.imp (pe_notT S.v) fun σ H Q q => step_not σ H Q ?_, PT.imp (pt_not S.t) fun σ H Q q => step_notT σ H Q ?_, fun z => by cases z⟩
      · obtain ⟨rho, F, env, m, A, En, q⟩ := q
        exact ⟨rho, F, env, m, A, En, by simpa only [evE] using q⟩
      · obtain ⟨rho, F, env, m, A, En, q⟩ := q
        exact ⟨rho, F, env, m, A, En, by simpa only [evT, evE] using q⟩
    | _ => simp [chk] at h
  | _ => simp [chk] at h, noA fun C ps => by cases ps <;> rfl⟩
theorem snd_and {a b : T} (Pa : SndP fs a) (Pb : SndP fs b) : SndP fs (.and a b) := fun X W C k g => ⟨fun pe h => by
  cases pe with
  | BoolOp op es pos =>
    cases op with
    | And =>
      match es, h with
      | p :: q :: rest, h =>
        simp only [chk, Bool.and_eq_true] at h
        obtain ⟨h1, h2⟩ := h
        have Sa := (Pa X W C k g).1 _ h1
        have tail : PE X (.BoolOp .And (q :: rest) pos) (tE X W (evE fs b)) ∧ PW X (.BoolOp .And (q :: rest) pos) (tT X W (evT fs b)) := by
          cases rest with
          | nil =>
            simp only [List.isEmpty_nil, if_true] at h2
            have Sb := (Pb X W C k g).1 _ h2
            exact ⟨pe_one Sb.v, pw_and1 Sb.t⟩
          | cons r rest =>
            simp only [List.isEmpty_cons, Bool.false_eq_true, if_false] at h2
            have Sb := (Pb X W C k g).1 _ h2
            exact ⟨Sb.v, Sb.w rfl⟩
        have pw : PW X (.BoolOp .And (p :: q :: rest) pos) (tT X W (evT fs (.and a b))) := by
          refine ⟨fun wh pins s σ H Q I z => (pw_and Sa.t tail.2).run wh pins s σ H Q I (step_andT σ H Q ?_)⟩
          obtain ⟨rho, F, env, m, A, En, z⟩ := z
          exact ⟨rho, F, env, m, A, En, by simpa only [evT, evE] using z⟩
        refine ⟨PE.imp (pe_andT Sa.v tail.1) fun σ H Q z => step_and σ H Q ?_, pw.pt, fun _ => pw⟩
        obtain ⟨rho, F, env, m, A, En, z⟩ := z
        exact ⟨rho, F, env, m, A, En, by simpa only [evE] using z⟩
      | [], h => simp [chk] at h
      | [_], h => simp [chk] at h
    | Or => simp [chk] at h
  | _ => simp [chk] at h, noA fun C ps => by cases ps <;> rfl⟩
theorem snd_or {a b : T} (Pa : SndP fs a) (Pb : SndP fs b) : SndP fs (.or a b) := fun X W C k g => ⟨fun pe h => by
  cases pe with
  | BoolOp op es pos =>
    cases op with
    | Or =>
      match es, h with
      | p :: q :: rest, h =>
        simp only [chk, Bool.and_eq_true] at h
        obtain ⟨h1, h2⟩ := h
        have Sa := (Pa X W C k g).1 _ h1
        have tail : PE X (.BoolOp .Or (q :: rest) pos) (tE X W (evE fs b)) ∧ PW X (.BoolOp .Or (q :: rest) pos) (tT X W (evT fs b)) := by
          cases rest with
          | nil =>
            simp only [List.isEmpty_nil, if_true] at h2
            have Sb := (Pb X W C k g).1 _ h2
            exact ⟨pe_one Sb.v, pw_or1 Sb.t⟩
          | cons r rest =>
            simp only [List.isEmpty_cons, Bool.false_eq_true, if_false] at h2
            have Sb := (Pb X W C k g).1 _ h2
            exact ⟨Sb.v, Sb.w rfl⟩
        have pw : PW X (.BoolOp .Or (p :: q :: rest) pos) (tT X W (evT fs (.or a b))) := by
          refine ⟨fun wh pins s σ H Q I z => (pw_or Sa.t tail.2).run wh pins s σ H Q I (step_orT σ H Q ?_)⟩
          obtain ⟨rho, F, env, m, A, En, z⟩ := z
          exact ⟨rho, F, env, m, A, En, by simpa only [evT, evE] using z⟩
        refine ⟨PE.imp (pe_orT Sa.v tail.1) fun σ H Q z => step_or σ H Q ?_, pw.pt, fun _ => pw⟩
        obtain ⟨rho, F, env, m, A, En, z⟩ := z
        exact ⟨rho, F, env, m, A, En, by simpa only [evE] using z⟩
      | [], h => simp [chk] at h
      | [_], h => simp [chk] at h
    | And => simp [chk] at h
  | _ => simp [chk] at h, noA fun C ps => by cases ps <;> rfl⟩
theorem snd_ite {c a b : T} (Pc : SndP fs c) (Pa : SndP fs a) (Pb : SndP fs b) : SndP fs (.ite c a b) := fun X W C k g => ⟨fun pe h => by
  cases pe with
  | IfExp p q r pos =>
    simp only [chk, Bool.and_eq_true] at h
    obtain ⟨⟨h1, h2⟩, h3⟩ := h
    have Sc := (Pc X W C k g).1 _ h1
    have Sa := (Pa X W C k g).1 _ h2
    have Sb := (Pb X W C k g).1 _ h3
    refine ⟨PE.imp (pe_ifExp Sc.t Sa.v Sb.v) fun σ H Q z => step_ite σ H Q ?_, PT.imp (pt_ifExp Sc.t Sa.t Sb.t) fun σ H Q z => step_iteT σ H Q ?_, fun z => by cases z⟩
    · obtain ⟨rho, F, env, m, A, En, z⟩ := z
      exact ⟨rho, F, env, m, A, En, by simpa only [evE] using z⟩
    · obtain ⟨rho, F, env, m, A, En, z⟩ := z
      exact ⟨rho, F, env, m, A, En, by simpa only [evT, evE] using z⟩
  | _ => simp [chk] at h, noA fun C ps => by cases ps <;> rfl⟩
/-- a comparison's test -/
theorem tst_of {X : Cx} {W : WX} {se : SE} {t : TE} (hv : ∀ σ H Q, tE X W se σ H Q → t σ H Q) (hb : ∀ env m f m', se env m = .ok f m' → ∃ b, f = .bl b) : ∀ σ H Q, tT X W (fun env m => (se env m).bind truthB) σ H Q → tTest t σ H Q := by
  rintro σ H Q ⟨rho, F, env, m, A, En, h⟩
  refine hv σ H _ ⟨rho, F, env, m, A, En, ?_⟩
  dsimp only at h
  cases e : se env m with
  | no => rw [e] at h; exact h
  | ex c m1 => rw [e] at h; exact h
  | ok d m1 =>
    obtain ⟨b, rfl⟩ := hb _ _ _ _ e
    rw [e] at h
    intro v r1 F1 H1 s1 A1 q1
    cases q1
    exact ⟨b, rfl, h b _ _ _ s1 A1 rfl⟩
theorem bind_ok {α β : Type} {r : R α} {f : α → M → R β} {b : β} {m' : M} (h : r.bind f = .ok b m') : ∃ a m, r = .ok a m ∧ f a m = .ok b m' := by
  cases r with
  | ok a m => exact ⟨a, m, rfl, h⟩
  | ex c m => cases h
  | no => cases h
theorem snd_cmp (o : COp) {a b : T} (Pa : SndP fs a) (Pb : SndP fs b) : SndP fs (.cmp o a b) := fun X W C k g => ⟨fun pe h => by
  cases pe with
  | Compare p ops rs pos =>
    match ops, rs, h with
    | [q], [r], h =>
      simp only [chk, Bool.and_eq_true, decide_eq_true_eq, Bool.not_eq_true'] at h
      obtain ⟨⟨⟨h1, hm⟩, h2⟩, h3⟩ := h
      subst h1
      have hu : X.A.units + 66 < cLine := by have := units_of g; omega
      have Sa := (Pa X W C k g).1 _ h2
      have Sb := (Pb X W C k g).1 _ h3
      have eq : evE fs (.cmp o a b) = fun env m => (evE fs a env m).bind fun d m => (evE fs b env m).bind fun e m => copD o d e m := by funext env m; simp only [evE]
      have st : ∀ σ H Q, tE X W (evE fs (.cmp o a b)) σ H Q → tOp (rOf X (copD o)) (tE X W (evE fs a)) (tE X W (evE fs b)) σ H Q := by
        rw [eq]
        exact step_op (f := compareOp (copO o)) rfl fun d e m c m' => cop_noex
      refine ⟨PE.imp (pe_cmpR (od_cmp hu o) Sa.v Sb.v hm) st, PT.imp (pt_cmpR (od_cmp hu o) Sa.v Sb.v hm) ?_, fun z => by cases z⟩
      refine tst_of st fun env m f m' e => ?_
      rw [eq] at e
      obtain ⟨_, _, _, e⟩ := bind_ok e
      obtain ⟨_, _, _, e⟩ := bind_ok e
      exact cop_bl e
    | [], _, h => simp [chk] at h
    | [_], [], h => simp [chk] at h
    | [_], _ :: _ :: _, h => simp [chk] at h
    | _ :: _ :: _, _, h => simp [chk] at h
  | _ => simp [chk] at h, noA fun C ps => by cases ps <;> rfl⟩
theorem snd_chain (o o2 : COp) {a b c : T} (Pa : SndP fs a) (Pb : SndP fs b) (Pc : SndP fs c) : SndP fs (.chain o o2 a b c) := fun X W C k g => ⟨fun pe h => by
  cases pe with
  | Compare p ops rs pos =>
    match ops, rs, h with
    | [q, q2], [r, r2], h =>
      simp only [chk, Bool.and_eq_true, decide_eq_true_eq, Bool.not_eq_true'] at h
      obtain ⟨⟨⟨⟨⟨h1, h12⟩, hm⟩, h2⟩, h3⟩, h4⟩ := h
      subst h1
      subst h12
      have hu : X.A.units + 66 < cLine := by have := units_of g; omega
      have Sa := (Pa X W C k g).1 _ h2
      have Sb := (Pb X W C k g).1 _ h3
      have Sc := (Pc X W C k g).1 _ h4
      have hl : lastMarks [copO o, copO o2] [r, r2] = false := hm
      have st : ∀ σ H Q, tE X W (evE fs (.chain o o2 a b c)) σ H Q → tChain (rOf X (copD o)) (rOf X (copD o2)) (tE X W (evE fs a)) (tE X W (evE fs b)) (tE X W (evE fs c)) σ H Q := by
        rintro σ H Q ⟨rho, F, env, m, A, En, h⟩
        simp only [evE] at h
        refine ⟨rho, F, env, m, A, En, RdE.bind h fun d m1 v r1 F1 H1 s1 A1 q1 h1 => ?_⟩
        refine ⟨r1, F1, env, m1, A1, En.mono s1.onto, RdE.bind h1 fun e m2 u r2 F2 H2 s2 A2 q2 h2 => ?_⟩
        refine ⟨r2, F2, m2, d, e, A2, q1.mono s2.onto, q2, ?_⟩
        cases ec : copD o d e m2 with
        | no => rw [ec] at h2; exact h2
        | ex c m3 => exact absurd ec cop_noex
        | ok f m3 =>
          rw [ec] at h2
          obtain ⟨bb, rfl⟩ := cop_bl ec
          intro w r3 F3 H3 s3 A3 q3
          cases q3
          refine ⟨bb, rfl, ?_⟩
          cases bb with
          | true =>
            refine iteT ⟨r3, F3, env, m3, A3, (En.mono (s1.trans s2).onto).mono s3.onto, RdE.bind (RdE.step (show RdE X.K X.mg W σ (relD X.K X.mg) r2 F2 H2 Q ((evE fs c env m3).bind fun g m => copD o2 e g m) from h2) s3) fun f m4 x r4 F4 H4 s4 A4 q4 h4 => ?_⟩
            exact ⟨r4, F4, m4, e, f, A4, (q2.mono s3.onto).mono s4.onto, q4, h4.of0 fun c m' => cop_noex⟩
          | false => exact iteF (h2 _ _ _ _ s3 A3 .bl)
      refine ⟨PE.imp (pe_chain (od_cmp hu o) (od_cmp hu o2) Sa.v Sb.v Sc.v hl) st, PT.imp (pt_chain (od_cmp hu o) (od_cmp hu o2) Sa.v Sb.v Sc.v hl) ?_, fun z => by cases z⟩
      refine tst_of st fun env m f m' e => ?_
      simp only [evE] at e
      obtain ⟨_, _, _, e⟩ := bind_ok e
      obtain ⟨_, _, _, e⟩ := bind_ok e
      obtain ⟨_, _, _, e⟩ := bind_ok e
      split at e
      · obtain ⟨_, _, _, e⟩ := bind_ok e
        exact cop_bl e
      · cases e; exact ⟨_, rfl⟩
      · cases e
    | [], _, h => simp [chk] at h
    | [_], [], h => simp [chk] at h
    | [_], _ :: _, h => simp [chk] at h
    | [_, _], [], h => simp [chk] at h
    | [_, _], [_], h => simp [chk] at h
    | [_, _], _ :: _ :: _ :: _, h => simp [chk] at h
    | _ :: _ :: _ :: _, _, h => simp [chk] at h
  | _ => simp [chk] at h, noA fun C ps => by cases ps <;> rfl⟩
end
end HB
namespace HB
open PySem L2
open PySem.HBX
section
variable {X : Cx} {W : WX} {k n : Nat} {f C : Addr} {fd : FuncData} {ps : List Str} {sp : Sp} {x : Str} {p pos : Pos} {e : Expr} {es : List Expr} {t : TA} {g : List Value → List Value → List Value} {gV : List V → List V → List V}
/-- C(e, ..), a keyword-only parameter by its default -/
theorem peG_makeD (mk : Mk X.K C f) (G : FnG X.prog X.w X.K X.mg X.base k f fd ps sp) (hr : Room (k + 1) X.A) (hgd : X.A.guards = some []) (hg : Gl X x) (hm : X.mg x = some (.ref C)) (hb : KBn X.K fd ps (n + 1) [] g gV) (tkk : Takes X W) (ha : PA X (e :: es) t)
    (hdb : (x == ("__debug__" : Str)) = false) (he : starEach (e :: es) X.env = (false, eval e X.env) :: starEach es X.env) (hpl : (backTo pos (starEach es X.env)).any (·.1) = false) :
    PE X (.Call (.Name x p) (e :: es) [] pos) (fun σ H Q => t σ H fun vs H1 => vs.length = n ∧ (∀ x, (gV (V.ref x :: vs) []).length = ps.length) ∧ ∀ x dx, H1 x = none → H1 dx = none → dx ≠ x →
      sp (gV (.ref x :: vs) []) (upd (upd H1 dx (.own x)) x (.ins C dx [])) (fun v H2 => v = .non ∧ Q (.ref x) H2) (fun cls d H' => W cls d σ H')) := by
  constructor
  intro pins s σ H Q I h
  apply PySem.wpAny_Call_Name_kw
  refine ld_glob I hg hm ?_ hdb
  refine PySem.W.callWith_K (h₀ := X.base) I.ok.mod.kin mk.kp ?_ he hpl
  refine thn (ha.run pos pins s σ H _ I h) ?_
  rintro us s1 ⟨vs, H1, I1, r, l1, l3, q⟩
  exact ⟨I1.kIn, runG_makeK (ks := []) (zs := []) (ws := []) mk G hr hgd hb tkk I1 r .nil l1 rfl l3 q⟩
end
section
variable {fs : List Sem}
theorem mk_some {X : Cx} {W : WX} {C : Ck} {k : Nat} (g : GdE X W C fs k) {c : Str} {n j : Nat} {kw : Option (Str × Int)} (h : mkrB C c n kw j = true) : ∃ sem, fs[j]? = some sem ∧ Mkr X.prog X.w X.K X.mg X.base k c n kw sem := by
  have hh := h
  unfold mkrB at hh
  simp only [Bool.and_eq_true, decide_eq_true_eq] at hh
  have h1 := (List.getElem?_eq_some_iff.mp hh.1.2).1
  have h2 := g.fl4
  have e : fs[j]? = some (fs[j]'(by omega)) := by simp
  exact ⟨_, e, mkr_of g h e⟩
theorem pr_onew (c : Str) (j : Nat) : PrOk fs (.onew c j) := by
  intro X W C k g e ps h sa ha hlen
  unfold prC at h
  split at h
  all_goals try contradiction
  all_goals try (cases h; done)
  · rename_i heq
    cases heq
    split at h
    · rename_i x xp p ps' pos hc
      cases h
      simp only [Bool.and_eq_true, decide_eq_true_eq] at hc
      obtain ⟨⟨⟨rfl, h2⟩, h3⟩, h4⟩ := hc
      obtain ⟨gl, hd, hn⟩ := gl_of g h2
      obtain ⟨sem, hs, Cl, f, fd, pn, jj, e1, e2, mk, hj, hb, hl, G⟩ := mk_some g h4
      have h3' := h3
      simp only [List.all_cons, Bool.and_eq_true] at h3'
      refine ⟨PE.imp (peG_make mk G (g.room.mono (by omega)) g.gd gl e1 hb g.tk ha hd (star_cons h3'.1) (star_any h3'.2)) ?_, fun _ => rfl, rfl⟩
      rintro σ H Q ⟨rho, F, env, m, A, En, h⟩
      refine ⟨rho, F, env, m, A, En, ?_⟩
      dsimp only at h
      cases ev : sa env m with
      | no => rw [ev] at h; exact h
      | ex cc mm => rw [ev] at h; exact h
      | ok ds m1 =>
        rw [ev] at h
        have h1 : RdE X.K X.mg W σ (relD X.K X.mg) rho F H Q (mkD sem x ds m1) := by
          have z : RdE X.K X.mg W σ (relD X.K X.mg) rho F H Q (prD fs (.onew x j) ds m1) := h
          simp only [prD, hs] at z
          exact z
        intro vs r1 F1 H1 s1 A1 q1
        have hl2 := hlen _ _ _ _ ev
        refine ⟨by rw [q1.length, hl2, hl], fun a dx n1 n2 ne => make_data A1 q1 (by rw [hl2]) e1 n1 n2 ne (RdE.step h1 s1)⟩
    · cases h
theorem pr_onewD (c : Str) (j : Nat) (d : Int) : PrOk fs (.onewD c j d) := by
  intro X W C k g e ps h sa ha hlen
  unfold prC at h
  split at h
  all_goals try contradiction
  all_goals try (cases h; done)
  · rename_i heq
    cases heq
    split at h
    · rename_i x xp p ps' pos hc
      cases h
      simp only [Bool.and_eq_true, decide_eq_true_eq, List.any_eq_true] at hc
      obtain ⟨⟨⟨rfl, h2⟩, h3⟩, ⟨cc, nn, kw⟩, _, h4⟩ := hc
      obtain ⟨gl, hd, hn⟩ := gl_of g h2
      split at h4
      · rename_i kx dd hk
        simp only at hk
        subst hk
        simp only [Bool.and_eq_true, decide_eq_true_eq] at h4
        obtain ⟨rfl, h4⟩ := h4
        obtain ⟨sem, hs, Cl, f, fd, pn, jj, e1, e2, mk, hj, hl, G, _, gg, hb⟩ := mk_some g h4
        have h3' := h3
        simp only [List.all_cons, Bool.and_eq_true] at h3'
        refine ⟨PE.imp (peG_makeD mk G (g.room.mono (by omega)) g.gd gl e1 hb g.tk ha hd (star_cons h3'.1) (star_any h3'.2)) ?_, fun _ => rfl, rfl⟩
        rintro σ H Q ⟨rho, F, env, m, A, En, h⟩
        refine ⟨rho, F, env, m, A, En, ?_⟩
        dsimp only at h
        cases ev : sa env m with
        | no => rw [ev] at h; exact h
        | ex cc mm => rw [ev] at h; exact h
        | ok ds m1 =>
          rw [ev] at h
          have h1 : RdE X.K X.mg W σ (relD X.K X.mg) rho F H Q (mkD sem x (ds ++ [.int dd]) m1) := by
            have z : RdE X.K X.mg W σ (relD X.K X.mg) rho F H Q (prD fs (.onewD x j dd) ds m1) := h
            simp only [prD, hs] at z
            exact z
          intro vs r1 F1 H1 s1 A1 q1
          have hl2 := hlen _ _ _ _ ev
          refine ⟨by rw [q1.length, hl2], fun y => by simp [q1.length, hl2, hl], fun a dx n1 n2 ne => ?_⟩
          exact make_data A1 (q1.append (.cons .int .nil)) (by simp [hl2]) e1 n1 n2 ne (RdE.step h1 s1)
      · cases h4
    · cases h
theorem prAll (p : Pr) : PrOk fs p := by
  cases p with
  | xnew n f fl => exact pr_xnew n f fl
  | xnew0 n => exact pr_xnew0 n
  | strx tbl => exact pr_strx tbl
  | lenO tbl => exact pr_lenO tbl
  | onew c j => exact pr_onew c j
  | onewD c j d => exact pr_onewD c j d
  | lstO ti tl => exact pr_lstO ti tl
theorem mrAll (p : Mr) : MrOk fs p := by
  cases p with
  | fldx f cs => exact mr_fldx f cs
  | isx c tbl => exact mr_isx c tbl
  | get2 => exact mr_get2
  | lrng => exact mr_lrng
  | lstr => exact mr_lstr
  | litems => exact mr_litems
  | lvals => exact mr_lvals
  | ofld f cs => exact mr_ofld f cs
  | ometh y tbl => exact mr_ometh y tbl
  | oprop y tbl => exact mr_oprop y tbl
  | isO c cs => exact mr_isO c cs
theorem snd_prm (p : Pr) {es : T} (Pe : SndP fs es) : SndP fs (.prm p es) := fun X W C k g => ⟨fun pe h => by
  simp only [chk] at h
  split at h
  · rename_i ps hp
    obtain ⟨q1, q2, q3⟩ := prAll p X W C k g pe ps hp _ ((Pe X W C k g).2 _ h) fun env m ds m1 e => evA_len h e
    have eq : evE fs (.prm p es) = fun env m => (evA fs es env m).bind fun ds m => prD fs p ds m := by funext env m; simp only [evE]
    refine SndE.plain ?_ q2 q3
    rw [eq]
    exact q1
  · exact Bool.noConfusion h, noA fun C ps => by cases ps <;> rfl⟩
theorem snd_mth (p : Mr) {a es : T} (Pa : SndP fs a) (Pe : SndP fs es) : SndP fs (.mth p a es) := fun X W C k g => ⟨fun pe h => by
  simp only [chk] at h
  split at h
  · rename_i q ps hp
    simp only [Bool.and_eq_true] at h
    obtain ⟨q1, q2, q3⟩ := mrAll p X W C k g pe q ps hp _ _ ((Pa X W C k g).1 _ h.1).v ((Pe X W C k g).2 _ h.2) (fun env m ds m1 e => evA_len h.2 e) (fun z env m => by subst z; rw [nil_of h.2]; simp only [evA])
    have eq : evE fs (.mth p a es) = fun env m => (evE fs a env m).bind fun d m => if mrG p d m then (evA fs es env m).bind fun ds m => mrD fs p d ds m else .no := by funext env m; simp only [evE]
    refine SndE.plain ?_ q2 q3
    rw [eq]
    exact q1
  · exact Bool.noConfusion h, noA fun C ps => by cases ps <;> rfl⟩
/-! ### f-strings -/
theorem snd_fmt {a : T} (Pa : SndP fs a) : SndP fs (.fmt a) := fun X W C k g => ⟨fun pe h => by
  unfold chk at h
  split at h
  all_goals try contradiction
  all_goals try (simp at h; done)
  rename_i heq
  cases heq
  refine SndE.plain (PE.imp (pe_fmt ((Pa X W C k g).1 _ h).v) ?_) (fun _ => rfl) rfl
  rintro σ H Q ⟨rho, F, env, m, A, En, h⟩
  simp only [evE] at h
  refine ⟨rho, F, env, m, A, En, RdE.bind h fun d m1 v r1 F1 H1 s1 A1 q1 h1 => ?_⟩
  unfold fmtD at h1
  split at h1
  · split at h1
    · rename_i hz
      cases q1
      exact .inl ⟨_, rfl, hz, h1 _ _ _ _ Step.refl A1 .str⟩
    · exact h1.elim
  · split at h1
    · rename_i hz
      cases q1
      exact .inr ⟨_, rfl, hz, h1 _ _ _ _ Step.refl A1 .str⟩
    · exact h1.elim
  · exact h1.elim, noA fun C ps => by cases ps <;> rfl⟩
def trsJ (X : Cx) (W : WX) (fs : List Sem) : T → List TE
  | .cons a r => tE X W (evE fs a) :: trsJ X W fs r
  | _ => []
theorem pj_of {X : Cx} {W : WX} {C : Ck} {k : Nat} (g : GdE X W C fs k) : ∀ {es : T} {ps : List Expr}, chkA C es ps = true → AllS fs es → PJ X ps (trsJ X W fs es)
  | es, [], h, _ => by rw [nil_of h]; exact .nil
  | es, p :: ps, h, hs => by
    obtain ⟨a, r, rfl, _, c1, c2⟩ := chkA_cons h
    exact .cons ((hs.1 X W C k g).1 _ c1).v (pj_of g c2 hs.2)
theorem js_step {X : Cx} {W : WX} {σ : L2.St} {env : Env} : ∀ {es : T} {acc : Str} {rho : List Addr} {F H : Hp} {m : M} {Q : VK}, Abs X.K X.mg rho F H m → RpEnv X.K X.mg rho F σ env →
    RdE X.K X.mg W σ (relD X.K X.mg) rho F H Q (evJ fs es acc env m) → tJs (trsJ X W fs es) acc σ H (fun out H1 => Q (.str out) H1)
  | .nil, acc, rho, F, H, m, Q, A, En, h => by
    simp only [evJ] at h
    exact h _ _ _ _ Step.refl A .str
  | .cons a r, acc, rho, F, H, m, Q, A, En, h => by
    simp only [evJ] at h
    refine ⟨rho, F, env, m, A, En, RdE.bind h fun d m1 v r1 F1 H1 s1 A1 q1 h1 => ?_⟩
    cases d with
    | str y =>
      simp only at h1
      split at h1
      · rename_i hz
        cases q1
        exact ⟨y, rfl, hz, js_step A1 (En.mono s1.onto) h1⟩
      · exact h1.elim
    | _ => exact h1.elim
  | .prm .., _, _, _, _, _, _, _, _, h | .mth .., _, _, _, _, _, _, _, _, h | .dcte .., _, _, _, _, _, _, _, _, h | .dmrg .., _, _, _, _, _, _, _, _, h | .iter .., _, _, _, _, _, _, _, _, h | .obin .., _, _, _, _, _, _, _, _, h | .onewK .., _, _, _, _, _, _, _, _, h | .fmt .., _, _, _, _, _, _, _, _, h | .fstr .., _, _, _, _, _, _, _, _, h | .dc .., _, _, _, _, _, _, _, _, h
  | .var .., _, _, _, _, _, _, _, _, h | .non, _, _, _, _, _, _, _, _, h | .bl .., _, _, _, _, _, _, _, _, h | .int .., _, _, _, _, _, _, _, _, h | .str .., _, _, _, _, _, _, _, _, h | .gint .., _, _, _, _, _, _, _, _, h | .bin .., _, _, _, _, _, _, _, _, h | .neg .., _, _, _, _, _, _, _, _, h | .cmp .., _, _, _, _, _, _, _, _, h
  | .chain .., _, _, _, _, _, _, _, _, h | .and .., _, _, _, _, _, _, _, _, h | .or .., _, _, _, _, _, _, _, _, h | .not .., _, _, _, _, _, _, _, _, h | .ite .., _, _, _, _, _, _, _, _, h | .tup .., _, _, _, _, _, _, _, _, h | .lst .., _, _, _, _, _, _, _, _, h | .lstM .., _, _, _, _, _, _, _, _, h | .ix .., _, _, _, _, _, _, _, _, h
  | .sl .., _, _, _, _, _, _, _, _, h | .noP, _, _, _, _, _, _, _, _, h | .call .., _, _, _, _, _, _, _, _, h | .blt .., _, _, _, _, _, _, _, _, h | .isi .., _, _, _, _, _, _, _, _, h | .join .., _, _, _, _, _, _, _, _, h | .popAt .., _, _, _, _, _, _, _, _, h | .dct0, _, _, _, _, _, _, _, _, h | .dctI .., _, _, _, _, _, _, _, _, h
  | .rng1 .., _, _, _, _, _, _, _, _, h | .rng2 .., _, _, _, _, _, _, _, _, h | .lc .., _, _, _, _, _, _, _, _, h => by simp only [evJ] at h; exact h.elim
theorem snd_fstr {es : T} (Pe : AllS fs es) : SndP fs (.fstr es) := fun X W C k g => ⟨fun pe h => by
  cases pe with
  | JoinedStr ps pos =>
    simp only [chk, Bool.and_eq_true, decide_eq_true_eq] at h
    obtain ⟨h1, h2⟩ := h
    match ps, h1, h2 with
    | [], h1, _ => simp at h1
    | [_], h1, _ => simp at h1
    | v1 :: v2 :: rest, _, h2 =>
      refine SndE.plain (PE.imp (pe_joined (pj_of g h2 Pe)) ?_) (fun _ => rfl) rfl
      rintro σ H Q ⟨rho, F, env, m, A, En, h⟩
      simp only [evE] at h
      exact js_step A En h
  | _ => simp [chk] at h, noA fun C ps => by cases ps <;> rfl⟩
/-! ### operators of instances -/
theorem obin_cmp {X : Cx} {W : WX} {C : Ck} {k : Nat} (g : GdE X W C fs k) {o : OB} (ho : o ≠ .ixO ∧ o ≠ .addO ∧ o ≠ .subO) {tbl : List (Str × Nat)} {cop : CmpOp} (hop : OpR X (compareOp cop) (rOf X (obD fs tbl o))) {a b : T} (Pa : SndP fs a) (Pb : SndP fs b) {p r : Expr} {pos : Pos} (h1 : chk C a p = true) (h2 : chk C b r = true) (hm : behindInMarks cop r = false) :
    SndE X W fs (.obin o tbl a b) (.Compare p [cop] [r] pos) := by
  have Sa := (Pa X W C k g).1 _ h1
  have Sb := (Pb X W C k g).1 _ h2
  have eq : evE fs (.obin o tbl a b) = fun env m => (evE fs a env m).bind fun d m => (evE fs b env m).bind fun e m => obD fs tbl o d e m := by funext env m; simp only [evE]
  have st : ∀ σ H Q, tE X W (evE fs (.obin o tbl a b)) σ H Q → tOp (rOf X (obD fs tbl o)) (tE X W (evE fs a)) (tE X W (evE fs b)) σ H Q := by
    rw [eq]
    exact step_op (f := compareOp cop) rfl fun d e m c m' => ob_noex ho
  refine ⟨PE.imp (pe_cmpR hop Sa.v Sb.v hm) st, PT.imp (pt_cmpR hop Sa.v Sb.v hm) ?_, fun z => by cases z⟩
  refine tst_of st fun env m f m' e => ?_
  rw [eq] at e
  obtain ⟨_, _, _, e⟩ := bind_ok e
  obtain ⟨_, _, _, e⟩ := bind_ok e
  exact ob_bl ho e
/-- o + x, o - x -/
theorem obin_add {X : Cx} {W : WX} {C : Ck} {k : Nat} (g : GdE X W C fs k) {o : OB} {op : Operator} {nm : Str} (hnm : PySem.dunder op.info.2 = nm) {tbl : List (Str × Nat)}
    (ho : ∀ c gs c' gs' m, obD fs tbl o (.obj c gs) (.obj c' gs') m = if c = c' then match semO fs tbl c with
      | some sem => callD sem [.obj c gs, .obj c' gs'] m
      | none => .no
    else .no) (hn : ∀ d e m, obD fs tbl o d e m ≠ .no → ∃ c gs c' gs', d = .obj c gs ∧ e = .obj c' gs')
    {a b : T} (Pa : SndP fs a) (Pb : SndP fs b) {p r : Expr} {pos : Pos} (h1 : chk C a p = true) (h2 : chk C b r = true) (h3 : mthB C nm 2 tbl = true) : SndE X W fs (.obin o tbl a b) (.BinOp p op r pos) := by
  have Sa := (Pa X W C k g).1 _ h1
  have Sb := (Pb X W C k g).1 _ h2
  refine SndE.plain ⟨fun pins s σ H Q I h => ?_⟩ (fun _ => rfl) rfl
  refine wpAny_BinOp (binT Sa.v Sb.v I (R := fun x y H2 => ∃ a C dx fs b dy gs f sp j, x = V.ref a ∧ H2 a = some (.ins C dx fs) ∧ y = V.ref b ∧ H2 b = some (.ins C dy gs) ∧ PySem.W.selfFirst X.K C = true ∧ PySem.W.findIn X.K (.ref C) (PySem.dunder op.info.2) = some (some (.ref f)) ∧ PySem.W.isFn X.K (.ref f) = true ∧ FnE X f 2 sp j ∧ j + 2 ≤ k ∧ sp [.ref a, y] H2 Q (fun cls d H' => W cls d σ H')) ?_ fun v u s2 x y H2 I2 rx ry q => bin_O op g.room g.gd g.tk I2 rx ry q)
  obtain ⟨rho, F, env, m, A, En, h⟩ := h
  simp only [evE] at h
  refine ⟨rho, F, env, m, A, En, RdE.bind h fun d m1 v r1 F1 H1 s1 A1 q1 h1 => ?_⟩
  refine ⟨r1, F1, env, m1, A1, En.mono s1.onto, RdE.bind h1 fun e m2 u r2 F2 H2 s2 A2 q2 h2 => ?_⟩
  by_cases hno : obD fs tbl o d e m2 = .no
  · rw [hno] at h2; exact h2.elim
  obtain ⟨c, gs, c', gs', rfl, rfl⟩ := hn d e m2 hno
  rw [ho] at h2
  split at h2
  · rename_i ec
    subst ec
    split at h2
    · rename_i sem hs
      obtain ⟨Cl, f, j, fl, e1, oc, _, M', hf, hj, G⟩ := mth_of g h3 hs
      obtain ⟨a, Ca, dx, fs', rfl, ha, hca, _⟩ := (q1.mono s2.onto).insAt A2.ex
      obtain ⟨b, Cb, dy, gs2, rfl, hb, hcb, _⟩ := q2.insAt A2.ex
      have ea : Ca = Cl := by have := Option.some.inj (hca.symm.trans e1); cases this; rfl
      have eb : Cb = Cl := by have := Option.some.inj (hcb.symm.trans e1); cases this; rfl
      subst ea
      subst eb
      exact ⟨a, _, dx, fs', b, dy, gs2, f, _, j, rfl, ha, rfl, hb, oc.sf, by rw [hnm]; exact M'.at_, M'.fn, G, hj, call_data A2 (.cons (q1.mono s2.onto) (.cons q2 .nil)) rfl h2⟩
    · exact h2.elim
  · exact h2.elim
theorem subs_of {q : Expr} (h : noSliceB q = true) : ∀ o i, subscripted q true o i = runValue (.builtin "lifetime.subscript" ⟨[o, i], []⟩) := by
  cases q <;> first | exact fun _ _ => rfl | (simp [noSliceB] at h)
theorem snd_obin (o : OB) (tbl : List (Str × Nat)) {a b : T} (Pa : SndP fs a) (Pb : SndP fs b) : SndP fs (.obin o tbl a b) := fun X W C k g => ⟨fun pe h => by
  unfold chk at h
  split at h
  · rename_i p r pos
    simp only [Bool.and_eq_true, Bool.not_eq_true'] at h
    obtain ⟨⟨⟨h0, h1⟩, h2⟩, h3⟩ := h
    exact obin_cmp (o := .inO) g ⟨nofun, nofun, nofun⟩ (ob_in g h3) Pa Pb h1 h2 h0
  · rename_i p r pos
    simp only [Bool.and_eq_true, Bool.not_eq_true'] at h
    obtain ⟨⟨⟨h0, h1⟩, h2⟩, h3⟩ := h
    exact obin_cmp (o := .notInO) g ⟨nofun, nofun, nofun⟩ (ob_notIn g h3) Pa Pb h1 h2 h0
  · rename_i p r pos
    simp only [Bool.and_eq_true, Bool.not_eq_true'] at h
    obtain ⟨⟨⟨h0, h1⟩, h2⟩, h3⟩ := h
    exact obin_cmp (o := .eqO) g ⟨nofun, nofun, nofun⟩ (ob_eq g h3) Pa Pb h1 h2 h0
  · rename_i p r pos
    simp only [Bool.and_eq_true, Bool.not_eq_true'] at h
    obtain ⟨⟨⟨h0, h1⟩, h2⟩, h3⟩ := h
    exact obin_cmp (o := .neO) g ⟨nofun, nofun, nofun⟩ (ob_ne g h3) Pa Pb h1 h2 h0
  · rename_i p r pos
    simp only [Bool.and_eq_true] at h
    obtain ⟨⟨⟨h0, h1⟩, h2⟩, h3⟩ := h
    have Sa := (Pa X W C k g).1 _ h1
    have Sb := (Pb X W C k g).1 _ h2
    refine SndE.plain ⟨fun pins s σ H Q I h => ?_⟩ (fun _ => rfl) rfl
    refine PyProof.Rows.Subscript_ (binT Sa.v Sb.v I (R := fun x y H2 => ∃ a C dx fs f sp j, x = V.ref a ∧ H2 a = some (.ins C dx fs) ∧ PySem.W.findIn X.K (.ref C) "__getitem__" = some (some (.ref f)) ∧ PySem.W.fnIn X.K f = true ∧ PySem.W.isFn X.K (.ref f) = true ∧ FnE X f 2 sp j ∧ j + 2 ≤ k ∧ sp [.ref a, y] H2 Q (fun cls d H' => W cls d σ H')) ?_ fun v u s2 x y H2 I2 rx ry q => ix_O g.room g.gd g.tk I2 rx ry q (subs_of h0))
    obtain ⟨rho, F, env, m, A, En, h⟩ := h
    simp only [evE] at h
    refine ⟨rho, F, env, m, A, En, RdE.bind h fun d m1 v r1 F1 H1 s1 A1 q1 h1 => ?_⟩
    refine ⟨r1, F1, env, m1, A1, En.mono s1.onto, RdE.bind h1 fun e m2 u r2 F2 H2 s2 A2 q2 h2 => ?_⟩
    unfold obD at h2
    split at h2
    all_goals try contradiction
    all_goals try (exact h2.elim)
    · rename_i heq
      split at h2
      · rename_i sem hs
        obtain ⟨a, Cl, dx, fs', f, j, rfl, _, hH, oc, M', hf, hj, G, _⟩ := ob_at g A2 (q1.mono s2.onto) h3 hs
        exact ⟨a, Cl, dx, fs', f, _, j, rfl, hH, M'.at_, hf, M'.fn, G, hj, call_data A2 (.cons (q1.mono s2.onto) (.cons q2 .nil)) rfl h2⟩
      · exact h2.elim
  · rename_i p r pos
    simp only [Bool.and_eq_true] at h
    obtain ⟨⟨h1, h2⟩, h3⟩ := h
    exact obin_add (o := .addO) (op := .Add) g (by decide +kernel) (fun c gs c' gs' m => rfl) (fun d e m h => by cases d <;> cases e <;> first | exact ⟨_, _, _, _, rfl, rfl⟩ | exact absurd rfl h) Pa Pb h1 h2 h3
  · rename_i p r pos
    simp only [Bool.and_eq_true] at h
    obtain ⟨⟨h1, h2⟩, h3⟩ := h
    exact obin_add (o := .subO) (op := .Sub) g (by decide +kernel) (fun c gs c' gs' m => rfl) (fun d e m h => by cases d <;> cases e <;> first | exact ⟨_, _, _, _, rfl, rfl⟩ | exact absurd rfl h) Pa Pb h1 h2 h3
  · exact Bool.noConfusion h, noA fun C ps => by cases ps <;> rfl⟩
/-! ### an own class called with a keyword -/
theorem snd_onewK (c : Str) (j : Nat) {es e : T} (Pe : SndP fs es) (Pk : SndP fs e) : SndP fs (.onewK c j es e) := fun X W C k g => ⟨fun pe h => by
  unfold chk at h
  split at h
  all_goals try contradiction
  all_goals try (simp at h; done)
  rename_i heq
  cases heq
  rename_i x xp p ps kw q kp pos
  simp only [Bool.and_eq_true, decide_eq_true_eq, List.any_eq_true] at h
  obtain ⟨⟨⟨⟨rfl, h2⟩, h3⟩, h4⟩, ⟨cc, nn, kk⟩, _, h5⟩ := h
  obtain ⟨gl, hd, hn⟩ := gl_of g h2
  split at h5
  · rename_i kx dd hk
    simp only at hk
    subst hk
    simp only [Bool.and_eq_true, decide_eq_true_eq] at h5
    obtain ⟨rfl, h5⟩ := h5
    obtain ⟨sem, hs, Cl, f, fd, pn, jj, e1, e2, mk, hj, hl, G, ⟨gg, hb⟩, _⟩ := mk_some g h5
    have hpl := chkA_plain h3
    have h3' := hpl
    simp only [List.all_cons, Bool.and_eq_true] at h3'
    have Sk := (Pk X W C k g).1 _ h4
    refine SndE.plain (PE.imp (peG_makeK mk G (g.room.mono (by omega)) g.gd gl e1 hb g.tk ((Pe X W C k g).2 _ h3) (pk_cons Sk.v pk_nil) rfl rfl hd (star_cons h3'.1) (by rw [star_any hpl]; rfl)) ?_) (fun _ => rfl) rfl
    rintro σ H Q ⟨rho, F, env, m, A, En, h⟩
    simp only [evE, hs] at h
    refine ⟨rho, F, env, m, A, En, ?_⟩
    cases ev : evA fs es env m with
    | no => rw [ev] at h; exact h
    | ex cc mm => rw [ev] at h; exact h
    | ok ds m1 =>
      rw [ev] at h
      simp only [R.bind] at h
      have hl2 := evA_len h3 ev
      intro vs r1 F1 H1 s1 A1 q1
      refine ⟨r1, F1, env, m1, A1, En.mono s1.onto, RdE.bind (RdE.step h s1) fun d m2 z r2 F2 H2 s2 A2 q2 h2 => ?_⟩
      show vs.length = _ ∧ _
      refine ⟨by rw [q1.length, hl2], rfl, fun y => by simp [q1.length, hl2, hl], fun a dx n1 n2 ne => ?_⟩
      exact make_data A2 ((q1.mono s2.onto).append (.cons q2 .nil)) (by simp [hl2]) e1 n1 n2 ne h2
  · exact Bool.noConfusion h5, noA fun C ps => by cases ps <;> rfl⟩
end
end HB
namespace HB
open PySem L2
open PySem.HBX
section
variable {fs : List Sem}
theorem view_ne {K : PySem.W.Frag} {mg : Str → Option Value} {rho : List Addr} {F : Hp} {m : M} {a p : Addr} {d : D} {es : List (Key × D)} (r : Rp K mg rho F (.ref a) d) (h : viewD d m = some es) (nF : F p = none) (nr : p ∉ rho) : a ≠ p := by
  rintro rfl
  cases r with
  | dK hp _ => rw [hp] at nF; cases nF
  | ref hi => exact nr (List.mem_of_getElem? hi)
  | _ => simp [viewD] at h
theorem snd_dmrg {a b : T} (Pa : SndP fs a) (Pb : SndP fs b) : SndP fs (.dmrg a b) := fun X W C k g => ⟨fun pe h => by
  unfold chk at h
  split at h
  all_goals try contradiction
  all_goals try (simp at h; done)
  rename_i heq
  cases heq
  rename_i p q pos
  simp only [Bool.and_eq_true] at h
  have Sa := (Pa X W C k g).1 _ h.1
  have Sb := (Pb X W C k g).1 _ h.2
  refine SndE.plain (PE.imp (pe_lockD (pe_mrg Sa.v Sb.v)) ?_) (fun _ => rfl) rfl
  rintro σ H Q ⟨rho, F, env, m, A, En, h⟩ p np
  simp only [evE] at h
  have nr : p ∉ rho := A.notmem np
  have nF : F p = none := by
    cases e : F p with
    | none => rfl
    | some u => rw [A.ex p u e] at np; cases np
  have A' : Abs X.K X.mg rho F (upd H p (.dK [])) m := A.side nr nF
  have s0 : Step rho F H rho F (upd H p (.dK [])) := Step.side Step.refl np
  have notin : ∀ {rr FF HH o}, Step rho F (upd H p o) rr FF HH → p ∉ rr := fun {rr FF HH o} s hm => by
    obtain ⟨x, e1, e2⟩ := s.pre
    rw [e1] at hm
    rcases List.mem_append.mp hm with z | z
    · exact nr z
    · have := e2 p z
      rw [upd_same] at this; cases this
  refine ⟨rho, F, env, m, A', En, ?_⟩
  cases ev : evE fs a env m with
  | no => rw [ev] at h; exact h
  | ex c m1 =>
    rw [ev] at h
    exact fun cls dx r1 F1 H1 s1 A1 q1 => h cls dx r1 F1 H1 (s0.trans s1) A1 q1
  | ok d m1 =>
    rw [ev] at h
    simp only [R.bind] at h
    intro v r1 F1 H1 s1 A1 q1
    split at h
    · rename_i es hv
      split at h
      · rename_i hl
        obtain ⟨oa, ks, rfl, rd, kr⟩ := Rp.viewD A1 q1 hv
        obtain ⟨k1, k2⟩ := s1.old p _ upd_same nr
        have nr1 := notin s1
        have nF1 : F1 p = none := k2.trans nF
        have t1 : Step rho F H r1 F1 (upd H1 p (.dK (mergeK [] ks))) := Step.side (s0.trans s1) np
        refine ⟨oa, ks, rfl, rd, view_ne q1 hv nF1 nr1, k1, by rw [kr.length]; exact hl, r1, F1, env, m1, A1.side nr1 nF1, En.mono t1.onto, ?_⟩
        cases ev2 : evE fs b env m1 with
        | no => rw [ev2] at h; exact h
        | ex c m2 =>
          rw [ev2] at h
          exact fun cls dx r2 F2 H2 s2 A2 q2 => h cls dx r2 F2 H2 (t1.trans s2) A2 q2
        | ok e m2 =>
          rw [ev2] at h
          simp only at h
          intro u r2 F2 H2 s2 A2 q2
          split at h
          · rename_i gs hv2
            split at h
            · rename_i hl2
              obtain ⟨ob, ks2, rfl, rd2, kr2⟩ := Rp.viewD A2 q2 hv2
              obtain ⟨k3, k4⟩ := s2.old p _ upd_same nr1
              have nr2 : p ∉ r2 := fun hm => by
                obtain ⟨x, e1, e2⟩ := s2.pre
                rw [e1] at hm
                rcases List.mem_append.mp hm with z | z
                · exact nr1 z
                · have := e2 p z
                  rw [upd_same] at this; cases this
              have nF2 : F2 p = none := k4.trans nF1
              refine ⟨ob, ks2, rfl, rd2, view_ne q2 hv2 nF2 nr2, k3, by rw [kr2.length]; exact hl2, p, _, rfl, upd_same, fun o => ?_⟩
              rw [upd_twice]
              have st : Step rho F H r2 F2 (upd H2 p (.frz o (.dK (mergeK (mergeK [] ks) ks2)))) := Step.side (t1.trans s2) np
              have A3 : Abs X.K X.mg r2 F2 (upd H2 p (.frz o (.dK (mergeK (mergeK [] ks) ks2)))) m2 := A2.side nr2 nF2
              have st2 := Step.sideFix (o := .frz o (.dK (mergeK (mergeK [] ks) ks2))) st np nF2
              have A4 := A3.sideFix nr2 nF2 (upd_same : upd H2 p (.frz o (.dK (mergeK (mergeK [] ks) ks2))) p = some _)
              refine h _ _ _ _ st2 A4 (.dK upd_same ?_)
              have on : Onto r2 F2 r2 (upd F2 p (.frz o (.dK (mergeK (mergeK [] ks) ks2)))) := ⟨fun h => h, fun b u h => by rw [upd_ne (ne_of_none h nF2)]; exact h⟩
              exact (KVr.merge (kr2.mono on) (merge_nil ((kr.mono s2.onto).mono on))).rpk
            · exact h.elim
          · exact h.elim
      · exact h.elim
    · exact h.elim, noA fun C ps => by cases ps <;> rfl⟩
end
end HB
namespace HB
open PySem L2
/-! ### dict comprehensions -/
def dcStep (g : G) (vs : List Nat) (sk sv : SE) (env : Env) (x : D) (m : M) : R (Key × D) := match asgG g x (wipeD env vs) with
  | some env2 => (keyR (sk env2 m)).bind fun kk m => (sv env2 m).bind fun y m => .ok (kk, y) m
  | none => .no
def dcE (g : G) (vs : List Nat) (si sk sv : SE) : SE := fun env m => (si env m).bind fun d m => match viewI d m with
  | some xs => if xs.length ≤ sizeLine then (dcGo (dcStep g vs sk sv env) xs [] m).bind fun ys m => .ok (dctOf ys) m else .no
  | none => .no
theorem putD_len (es : List (Key × D)) (k : Key) (d : D) : (putD es k d).length ≤ es.length + 1 := by
  unfold putD
  split
  · rw [List.length_map]; omega
  · simp
section
variable {X : Cx} {W : WX}
theorem step_dc {g : G} {vs : List Nat} {si sk sv : SE} (hgs : ∀ i ∈ gSlots g, i ∈ vs) : ∀ σ H Q, tE X W (dcE g vs si sk sv) σ H Q →
    tDc (tI X W si) (tG X g) tYes (tE X W0 sk) (tE X W0 sv) vs σ H (fun v H1 => ∃ p kvs, v = .ref p ∧ H1 p = some (.dK kvs) ∧ ∀ o, Q v (upd H1 p (.frz o (.dK kvs)))) := by
  rintro σ H Q ⟨rho, F, env, m, A, En, h⟩
  refine ⟨rho, F, env, m, A, En, ?_⟩
  unfold dcE at h
  cases ei : si env m with
  | no => rw [ei] at h; exact h
  | ex c m1 => rw [ei] at h; exact h
  | ok d m1 =>
    rw [ei] at h
    simp only [R.bind] at h ⊢
    cases ev : viewI d m1 with
    | none => rw [ev] at h; exact h
    | some xs =>
      rw [ev] at h
      simp only at h ⊢
      split at h
      · rename_i hz
        intro J r1 F1 H1 s1 A1 wk Dl nD
        have nr1 : Dl ∉ r1 := A1.notmem nD
        have nF1 : F1 Dl = none := by
          cases e : F1 Dl with
          | none => rfl
          | some u => rw [A1.ex Dl u e] at nD; cases nD
        refine ⟨fun i n Hi => n = xs.length - i ∧ i ≤ xs.length ∧ ∃ ri Fi mi accV accD, Step r1 F1 H1 ri Fi Hi ∧ Abs X.K X.mg ri Fi Hi mi ∧ Hi Dl = some (.dK accV) ∧ Fi Dl = none ∧ Dl ∉ ri ∧ KVr X.K X.mg ri Fi accV accD ∧ accD.length ≤ i ∧
          RdE X.K X.mg W σ (relD X.K X.mg) rho F H Q ((dcGo (dcStep g vs sk sv env) (xs.drop i) accD mi).bind fun ys m => .ok (dctOf ys) m), ?_, ?_⟩
        · exact ⟨xs.length, by simp, Nat.zero_le _, r1, F1, m1, [], [], Step.refl.side nD, A1.side nr1 nF1, upd_same, nF1, nr1, .nil, Nat.le_refl _, h⟩
        · rintro i n Hi ⟨rfl, hi, ri, Fi, mi, accV, accD, st, Ai, hD, nFi, nri, racc, hacc, hq⟩
          by_cases hlt : i < xs.length
          · right
            have ex : xs[i]? = some xs[i] := by simp [hlt]
            obtain ⟨hgo, hy⟩ := wk.go i xs[i] ri Fi Hi mi ex st.onto Ai
            refine ⟨hgo, fun H' => i + 1 ≤ xs.length ∧ ∃ ri Fi mi accV accD, Step r1 F1 H1 ri Fi H' ∧ Abs X.K X.mg ri Fi H' mi ∧ H' Dl = some (.dK accV) ∧ Fi Dl = none ∧ Dl ∉ ri ∧ KVr X.K X.mg ri Fi accV accD ∧ accD.length ≤ i + 1 ∧
              RdE X.K X.mg W σ (relD X.K X.mg) rho F H Q ((dcGo (dcStep g vs sk sv env) (xs.drop (i + 1)) accD mi).bind fun ys m => .ok (dctOf ys) m), ?_, ?_⟩
            · rintro H' ⟨h1, h2⟩
              exact ⟨xs.length - (i + 1), by omega, rfl, h1, h2⟩
            · intro v H2 hyl
              obtain ⟨F3, st3, A3, rv⟩ := hy v H2 hyl
              obtain ⟨hD2, hF2⟩ := st3.old Dl _ hD nri
              rw [nFi] at hF2
              have dr : xs.drop i = xs[i] :: xs.drop (i + 1) := (List.drop_eq_getElem_cons hlt)
              rw [dr] at hq
              simp only [dcGo] at hq
              refine ⟨ri, F3, wipeD env vs, mi, xs[i], A3, ((En.mono s1.onto).mono (st.trans st3).onto).wipe vs, rv, ?_⟩
              cases eg : asgG g xs[i] (wipeD env vs) with
              | none =>
                simp only [dcStep, eg] at hq
                exact hq
              | some env2 =>
                intro σ2 En2 hset
                have hw : L2.wipe σ2 vs = L2.wipe σ vs := by
                  rw [hset vs hgs]
                  apply List.ext_getElem?
                  intro j
                  rw [wipe_get, wipe_get]
                  by_cases hj : j ∈ vs
                  · rw [if_pos hj, if_pos hj]
                    cases σ[j]? <;> rfl
                  · rw [if_neg hj, if_neg hj]
                refine ⟨hw, ?_⟩
                simp only [dcStep, eg, keyR] at hq
                unfold tYes; dsimp only
                rw [if_pos rfl]
                refine ⟨ri, F3, env2, mi, A3, En2, ?_⟩
                cases ek : sk env2 mi with
                | no => rw [ek] at hq; exact hq.elim
                | ex c m4 => rw [ek] at hq; exact hq.elim
                | ok dk m4 =>
                  rw [ek] at hq
                  simp only [R.bind] at hq
                  cases eo : keyOf dk with
                  | none => rw [eo] at hq; exact hq.elim
                  | some kk =>
                    rw [eo] at hq
                    simp only at hq
                    intro yk r4 F4 H4 st4 A4 rk
                    obtain ⟨hD4, hF4⟩ := st4.old Dl _ hD2 nri
                    rw [hF2] at hF4
                    have nr4 : Dl ∉ r4 := by
                      obtain ⟨q, e1, e2⟩ := st4.pre
                      rw [e1]
                      intro z
                      rcases List.mem_append.mp z with z | z
                      · exact nri z
                      · rw [e2 _ z] at hD2; cases hD2
                    refine ⟨r4, F4, env2, m4, A4, En2.mono st4.onto, ?_⟩
                    cases es : sv env2 m4 with
                    | no => rw [es] at hq; exact hq.elim
                    | ex c m5 => rw [es] at hq; exact hq.elim
                    | ok y m5 =>
                      rw [es] at hq
                      intro yv r5 F5 H5 st5 A5 ry
                      obtain ⟨hD5, hF5⟩ := st5.old Dl _ hD4 nr4
                      rw [hF4] at hF5
                      have nr5 : Dl ∉ r5 := by
                        obtain ⟨q, e1, e2⟩ := st5.pre
                        rw [e1]
                        intro z
                        rcases List.mem_append.mp z with z | z
                        · exact nr4 z
                        · rw [e2 _ z] at hD4; cases hD4
                      have lacc := racc.length
                      have pl := putD_len accD kk y
                      refine ⟨accV, kk, rk.keyV eo, hD5, by omega, hlt, r5, F5, m5, putK accV kk yv, putD accD kk y, (((st.trans st3).trans st4).trans st5).side nD, A5.side nr5 hF5, upd_same, hF5, nr5, ?_, by omega, hq⟩
                      exact (racc.mono ((st3.trans st4).trans st5).onto).put kk ry
          · left
            have e : i = xs.length := by omega
            subst e
            refine ⟨wk.stop ri Fi Hi mi st.onto Ai, Dl, accV, rfl, hD, fun o => ?_⟩
            simp only [List.drop_length, dcGo, R.bind] at hq
            have A5 : Abs X.K X.mg ri Fi (upd Hi Dl (.frz o (.dK accV))) mi := Ai.side nri nFi
            have st5 : Step r1 F1 H1 ri Fi (upd Hi Dl (.frz o (.dK accV))) := st.side nD
            have on : Onto ri Fi ri (upd Fi Dl (.frz o (.dK accV))) := ⟨fun h => h, fun b u h => by rw [upd_ne (ne_of_none h nFi)]; exact h⟩
            exact hq _ _ _ _ (s1.trans (st5.sideFix nD nFi)) (A5.sideFix nri nFi upd_same) (.dK upd_same (racc.mono on).rpk)
      · exact h.elim
end
section
variable {fs : List Sem}
theorem dc_eq (own : List (Str × Nat)) (g : G) (it kx vx : T) : evE fs (.dc own g it kx vx) = dcE g (own.map (·.2)) (evE fs it) (evE fs kx) (evE fs vx) := by
  funext env m
  simp only [evE]
  unfold dcE dcStep
  rfl
theorem dc_core_ok {X : Cx} {W : WX} {C : Ck} {k : Nat} (g : GdE X W C fs k) {own : List (Str × Nat)} {gg : G} {it kx vx : T} (Pi : SndP fs it) (P1 : ∀ a, it = .rng1 a → SndP fs a) (P2 : ∀ a b, it = .rng2 a b → SndP fs a ∧ SndP fs b) (P3 : ∀ k es, it = .iter k es → SndP fs es ∧ AllS fs es) (Pk : SndP fs kx) (Pv : SndP fs vx) {pe : Expr} (h : chk C (.dc own gg it kx vx) pe = true) :
    PE X pe (tE X W (evE fs (.dc own gg it kx vx))) := by
  cases pe with
  | DictComp ek ev gens scope pos =>
    match gens, h with
    | [⟨tg, iter, ifs, asy⟩], h =>
      unfold chk at h
      simp only [Bool.and_eq_true, decide_eq_true_eq] at h
      obtain ⟨⟨⟨⟨⟨⟨⟨⟨h0, h1⟩, h2⟩, h3⟩, h4⟩, h5⟩, h6⟩, h7⟩, h8⟩ := h
      subst h0
      have hi : chkI C tg it iter = true := h1
      have ok : BlkOk X.N X.env.scope scope own := by
        rw [g.N, g.sc]
        exact blkOk_by h3
      have e6 : ifs = [] := List.isEmpty_iff.mp h6
      subst e6
      rw [dc_eq]
      refine PE.imp (pe_lockD (pe_dc (g := tG X gg) (tt := tYes) (tk := tE X W0 (evE fs kx)) (tv := tE X W0 (evE fs vx)) g.calm g.nd (snd_iter g Pi P1 P2 P3 hi) ok (fun s H A cl fp => ?_) (fun s H A cl fp => pts_nil) (fun s H A cl fp => ?_) (fun s H A cl fp => ?_) (folded_plain h2))) (step_dc fun i hi => ?_)
      · exact sndG (g.blk (own := own) s H A cl fp).t gg h4
      · exact ((Pk _ _ _ k (g.blk (own := own) s H A cl fp)).1 _ h7).v
      · exact ((Pv _ _ _ k (g.blk (own := own) s H A cl fp)).1 _ h8).v
      · simp only [List.all_eq_true, List.contains_eq_mem, decide_eq_true_eq] at h5
        exact h5 i hi
    | [], h => simp [chk] at h
    | _ :: _ :: _, h => simp [chk] at h
  | _ => simp [chk] at h
theorem snd_dc (own : List (Str × Nat)) (gg : G) {it kx vx : T} (Pi : SndP fs it) (P1 : ∀ a, it = .rng1 a → SndP fs a) (P2 : ∀ a b, it = .rng2 a b → SndP fs a ∧ SndP fs b) (P3 : ∀ k es, it = .iter k es → SndP fs es ∧ AllS fs es) (Pk : SndP fs kx) (Pv : SndP fs vx) : SndP fs (.dc own gg it kx vx) := fun X W C k g => ⟨fun pe h => by
  have hp := dc_core_ok (W := W) g Pi P1 P2 P3 Pk Pv h
  cases pe with
  | DictComp ek ev gens scope pos => exact SndE.plain hp (fun _ => rfl) rfl
  | _ => simp [chk] at h, noA fun C ps => by cases ps <;> rfl⟩
end
end HB
namespace HB
open PySem L2
section
variable {fs : List Sem}
theorem snd_tup {es : T} (Pe : SndP fs es) : SndP fs (.tup es) := fun X W C k g => ⟨fun pe h => by
  cases pe with
  | Tuple ps j pos =>
    simp only [chk] at h
    have eq : evE fs (.tup es) = fun env m => (evA fs es env m).bind fun ds m => if ds.length ≤ sizeLine then .ok (.tup ds) m else .no := by funext env m; simp only [evE]
    refine SndE.plain ?_ (fun _ => rfl) rfl
    rw [eq]
    exact PE.imp (pe_tup ((Pe X W C k g).2 _ h)) step_tup
  | _ => simp [chk] at h, noA fun C ps => by cases ps <;> rfl⟩
theorem snd_lst {es : T} (Pe : SndP fs es) : SndP fs (.lst es) := fun X W C k g => ⟨fun pe h => by
  cases pe with
  | List ps pos =>
    simp only [chk] at h
    have eq : evE fs (.lst es) = fun env m => (evA fs es env m).bind fun ds m => if ds.length ≤ sizeLine then .ok (.lst ds) m else .no := by funext env m; simp only [evE]
    refine SndE.plain ?_ (fun _ => rfl) rfl
    rw [eq]
    exact PE.imp (pe_lst ((Pe X W C k g).2 _ h)) step_lst
  | _ => simp [chk] at h, noA fun C ps => by cases ps <;> rfl⟩
theorem snd_lstM {es : T} (Pe : SndP fs es) : SndP fs (.lstM es) := fun X W C k g => ⟨fun pe h => by
  cases pe with
  | List ps pos =>
    simp only [chk] at h
    have eq : evE fs (.lstM es) = fun env m => (evA fs es env m).bind fun ds m => if ds.length ≤ sizeLine then .ok (.ref m.length) (m ++ [.lst ds]) else .no := by funext env m; simp only [evE]
    refine SndE.plain ?_ (fun _ => rfl) rfl
    rw [eq]
    exact PE.imp (pe_lst ((Pe X W C k g).2 _ h)) step_lstM
  | _ => simp [chk] at h, noA fun C ps => by cases ps <;> rfl⟩
theorem snd_nil : SndP fs .nil := fun X W C k g => ⟨fun pe h => by cases pe <;> simp [chk] at h, fun ps h => by
  cases ps with
  | nil =>
    have eq : evA fs .nil = fun env m => .ok [] m := by funext env m; simp only [evA]
    rw [eq]
    exact PA.imp pa_nil step_nil
  | cons p ps => simp [chkA] at h⟩
theorem snd_cons {a es : T} (Pa : SndP fs a) (Pe : SndP fs es) : SndP fs (.cons a es) := fun X W C k g => ⟨fun pe h => by cases pe <;> simp [chk] at h, fun ps h => by
  cases ps with
  | nil => simp [chkA] at h
  | cons p ps =>
    simp only [chkA, Bool.and_eq_true] at h
    obtain ⟨⟨h1, h2⟩, h3⟩ := h
    have eq : evA fs (.cons a es) = fun env m => (evE fs a env m).bind fun d m => (evA fs es env m).bind fun ds m => .ok (d :: ds) m := by funext env m; simp only [evA]
    rw [eq]
    exact PA.imp (pa_cons ((Pa X W C k g).1 _ h2).v ((Pe X W C k g).2 _ h3) (star_cons h1)) step_cons⟩
theorem plainIx_of {q : Expr} (h : noSliceB q = true) : PlainIx q := by
  cases q <;> first | exact fun _ _ => rfl | (simp [noSliceB] at h)
theorem snd_ix {a b : T} (Pa : SndP fs a) (Pb : SndP fs b) : SndP fs (.ix a b) := fun X W C k g => ⟨fun pe h => by
  cases pe with
  | Subscript p q pos =>
    simp only [chk, Bool.and_eq_true] at h
    obtain ⟨⟨h0, h1⟩, h2⟩ := h
    have eq : evE fs (.ix a b) = fun env m => (evE fs a env m).bind fun d m => (evE fs b env m).bind fun e m => ixD d e m := by funext env m; simp only [evE]
    refine SndE.plain ?_ (fun _ => rfl) rfl
    rw [eq]
    exact PE.imp (pe_ix (ix_data (by have := units_of g; omega)) ((Pa X W C k g).1 _ h1).v ((Pb X W C k g).1 _ h2).v (plainIx_of h0)) (step_op (f := binaryOp .Add) rfl fun d e m c m' => ix_noex)
  | _ => simp [chk] at h, noA fun C ps => by cases ps <;> rfl⟩
theorem snd_noP : SndP fs .noP := fun X W C k g => ⟨fun pe h => by cases pe <;> simp [chk] at h, noA fun C ps => by cases ps <;> rfl⟩
theorem snd_sl {a lo hi : T} (Pa : SndP fs a) (Pl : SndP fs lo) (Ph : SndP fs hi) : SndP fs (.sl a lo hi) := fun X W C k g => ⟨fun pe h => by
  cases pe with
  | Subscript p q pos =>
    cases q with
    | Slice l hh st sp =>
      cases st with
      | none =>
        simp only [chk, Bool.and_eq_true] at h
        obtain ⟨⟨h1, h2⟩, h3⟩ := h
        have part : ∀ (t : T) (P : SndP fs t) (o : Option Expr), (match o with
            | none => isNoP t
            | some q => !isNoP t && chk C t q) = true → PO X o (tP X W (isNoP t) (evE fs t)) := by
          intro t P o ho
          cases o with
          | none => simp only at ho; rw [ho]; exact po_data0
          | some q =>
            simp only [Bool.and_eq_true, Bool.not_eq_true'] at ho
            rw [ho.1]
            exact po_data ((P X W C k g).1 _ ho.2).v
        refine SndE.plain ?_ (fun _ => rfl) rfl
        refine PE.imp (pe_slice sl_data ((Pa X W C k g).1 _ h1).v (part lo Pl l h2) (part hi Ph hh h3)) ?_
        rintro σ H Q ⟨rho, F, env, m, A, En, h⟩
        simp only [evE] at h
        refine ⟨rho, F, env, m, A, En, RdE.bind h fun d m1 v r1 F1 H1 s1 A1 q1 h1 => ?_⟩
        refine ⟨r1, F1, env, m1, A1, En.mono s1.onto, RdE.bind h1 fun l m2 u r2 F2 H2 s2 A2 q2 h2 => ?_⟩
        refine ⟨r2, F2, env, m2, A2, (En.mono s1.onto).mono s2.onto, RdE.bind h2 fun hv m3 w r3 F3 H3 s3 A3 q3 h3 => ?_⟩
        cases q2
        cases q3
        exact ⟨r3, F3, m3, d, A3, (q1.mono s2.onto).mono s3.onto, h3.of0 fun c m' => sl_noex⟩
      | some _ => simp [chk] at h
    | _ => simp [chk] at h
  | _ => simp [chk] at h, noA fun C ps => by cases ps <;> rfl⟩
theorem snd_callT (j : Nat) {es : T} (Pe : SndP fs es) : SndP fs (.call j es) := fun X W C k g => ⟨fun pe h => by
  cases pe with
  | Call f ps ks pos =>
    cases f with
    | Name x p =>
      cases ks with
      | nil =>
        simp only [chk, Bool.and_eq_true, decide_eq_true_eq] at h
        obtain ⟨⟨h1, h2⟩, h3⟩ := h
        have eq : evE fs (.call j es) = fun env m => (evA fs es env m).bind fun ds m => match fs[j]? with
            | some sem => callD sem ds m
            | none => .no := by funext env m; first | (rw [evE]; done) | (rw [evE]; rfl)
        refine SndE.plain ?_ (fun _ => rfl) rfl
        rw [eq]
        cases ps with
        | nil =>
          cases es with
          | nil =>
            have e0 : evA fs .nil = fun env m => .ok [] m := by funext env m; simp only [evA]
            rw [e0]
            exact snd_call0 g h1 h2
          | _ => simp [chkA] at h3
        | cons q qs => exact snd_call g h1 h2 (chkA_plain h3) ((Pe X W C k g).2 _ h3) fun env m ds m1 e => evA_len h3 e
      | cons _ _ => simp [chk] at h
    | _ => simp [chk] at h
  | _ => simp [chk] at h, noA fun C ps => by cases ps <;> rfl⟩
theorem snd_blt (b : BF) {es : T} (Pe : SndP fs es) : SndP fs (.blt b es) := fun X W C k g => ⟨fun pe h => by
  cases pe with
  | Call f ps ks pos =>
    cases f with
    | Name x p =>
      cases ks with
      | nil =>
        cases ps with
        | nil => simp [chk] at h
        | cons q qs =>
          simp only [chk, Bool.and_eq_true, decide_eq_true_eq] at h
          obtain ⟨⟨h1, h2⟩, h3⟩ := h
          subst h1
          have eq : evE fs (.blt b es) = fun env m => (evA fs es env m).bind fun ds m => bfD b ds m := by funext env m; simp only [evE]
          refine SndE.plain ?_ (fun _ => rfl) rfl
          rw [eq]
          exact pe_blt g h2 (chkA_plain h3) ((Pe X W C k g).2 _ h3)
      | cons _ _ => simp [chk] at h
    | _ => simp [chk] at h
  | _ => simp [chk] at h, noA fun C ps => by cases ps <;> rfl⟩
theorem snd_isi {a : T} (c : String) (Pa : SndP fs a) : SndP fs (.isi a c) := fun X W C k g => ⟨fun pe h => by
  cases pe with
  | Call f ps ks pos =>
    cases f with
    | Name x p =>
      cases ks with
      | nil =>
        match ps, h with
        | [q, .Name y p2], h =>
          simp only [chk, Bool.and_eq_true, decide_eq_true_eq] at h
          obtain ⟨⟨⟨⟨⟨⟨h1, h2⟩, h3⟩, h4⟩, h5⟩, h6⟩, h7⟩ := h
          subst h1
          subst h5
          have eq : evE fs (.isi a c) = fun env m => (evE fs a env m).bind fun d m => isiD d c m := by funext env m; simp only [evE]
          refine SndE.plain ?_ (fun _ => rfl) rfl
          rw [eq]
          exact pe_isi g h2 h4 h6 h3 ((Pa X W C k g).1 _ h7).v
        | [], h => simp [chk] at h
        | [_], h => simp [chk] at h
        | _ :: _ :: _ :: _, h => simp [chk] at h
        | [_, .BoolOp ..], h | [_, .NamedExpr ..], h | [_, .BinOp ..], h | [_, .UnaryOp ..], h | [_, .Lambda ..], h | [_, .IfExp ..], h | [_, .Dict ..], h | [_, .Set ..], h | [_, .ListComp ..], h | [_, .SetComp ..], h
        | [_, .DictComp ..], h | [_, .GeneratorExp ..], h | [_, .Await ..], h | [_, .Yield ..], h | [_, .YieldFrom ..], h | [_, .Compare ..], h | [_, .Call ..], h | [_, .FormattedValue ..], h | [_, .JoinedStr ..], h
        | [_, .Constant ..], h | [_, .Attribute ..], h | [_, .Subscript ..], h | [_, .Starred ..], h | [_, .List ..], h | [_, .Tuple ..], h | [_, .Slice ..], h => simp [chk] at h
      | cons _ _ => simp [chk] at h
    | _ => simp [chk] at h
  | _ => simp [chk] at h, noA fun C ps => by cases ps <;> rfl⟩
theorem snd_join {a b : T} (Pa : SndP fs a) (Pb : SndP fs b) : SndP fs (.join a b) := fun X W C k g => ⟨fun pe h => by
  cases pe with
  | Call f ps ks pos =>
    cases f with
    | Attribute p x ap =>
      cases ks with
      | nil =>
        match ps, h with
        | [q], h =>
          simp only [chk, Bool.and_eq_true, decide_eq_true_eq] at h
          obtain ⟨⟨⟨⟨⟨h1, h2⟩, h3⟩, h4⟩, h5⟩, h6⟩ := h
          subst h1
          refine SndE.plain ?_ (fun _ => rfl) rfl
          refine PE.imp (pe_joinD h2 h3 h4 ((Pa X W C k g).1 _ h5).v ((Pb X W C k g).1 _ h6).v) ?_
          rintro σ H Q ⟨rho, F, env, m, A, En, h⟩
          simp only [evE] at h
          exact ⟨rho, F, env, m, A, En, h⟩
        | [], h => simp [chk] at h
        | _ :: _ :: _, h => simp [chk] at h
      | cons _ _ => simp [chk] at h
    | _ => simp [chk] at h
  | _ => simp [chk] at h, noA fun C ps => by cases ps <;> rfl⟩
theorem snd_popAt {a b : T} (Pa : SndP fs a) (Pb : SndP fs b) : SndP fs (.popAt a b) := fun X W C k g => ⟨fun pe h => by
  cases pe with
  | Call f ps ks pos =>
    cases f with
    | Attribute p x ap =>
      cases ks with
      | nil =>
        match ps, h with
        | [q], h =>
          simp only [chk, Bool.and_eq_true, decide_eq_true_eq] at h
          obtain ⟨⟨⟨⟨⟨h1, h2⟩, h3⟩, h4⟩, h5⟩, h6⟩ := h
          subst h1
          refine SndE.plain ?_ (fun _ => rfl) rfl
          refine PE.imp (pe_popD h2 h3 h4 ((Pa X W C k g).1 _ h5).v ((Pb X W C k g).1 _ h6).v) ?_
          rintro σ H Q ⟨rho, F, env, m, A, En, h⟩
          simp only [evE] at h
          exact ⟨rho, F, env, m, A, En, h⟩
        | [], h => simp [chk] at h
        | _ :: _ :: _, h => simp [chk] at h
      | cons _ _ => simp [chk] at h
    | _ => simp [chk] at h
  | _ => simp [chk] at h, noA fun C ps => by cases ps <;> rfl⟩
theorem snd_rng1 {a : T} : SndP fs (.rng1 a) := fun X W C k g => ⟨fun pe h => by cases pe <;> simp [chk] at h, noA fun C ps => by cases ps <;> rfl⟩
theorem snd_rng2 {a b : T} : SndP fs (.rng2 a b) := fun X W C k g => ⟨fun pe h => by cases pe <;> simp [chk] at h, noA fun C ps => by cases ps <;> rfl⟩
theorem lc_eq (own : List (Str × Nat)) (g : G) (it c e : T) : evE fs (.lc own g it c e) = lcE g (own.map (·.2)) (isNoP c) (evE fs it) (evE fs c) (evE fs e) := by
  funext env m
  simp only [evE]
  unfold lcE lcStep
  rfl
theorem snd_lc (own : List (Str × Nat)) (gg : G) {it c e : T} (Pi : SndP fs it) (P1 : ∀ a, it = .rng1 a → SndP fs a) (P2 : ∀ a b, it = .rng2 a b → SndP fs a ∧ SndP fs b) (P3 : ∀ k es, it = .iter k es → SndP fs es ∧ AllS fs es) (Pc : SndP fs c) (Pe : SndP fs e) : SndP fs (.lc own gg it c e) := fun X W C k g => ⟨fun pe h => by
  cases pe with
  | ListComp elt gens scope pos =>
    match gens, h with
    | [⟨tg, iter, ifs, asy⟩], h =>
      unfold chk at h
      simp only [Bool.and_eq_true, decide_eq_true_eq] at h
      obtain ⟨⟨⟨⟨⟨⟨⟨h0, h1⟩, h2⟩, h3⟩, h4⟩, h5⟩, h6⟩, h7⟩ := h
      subst h0
      have hi : chkI C tg it iter = true := h1
      have ok : BlkOk X.N X.env.scope scope own := by
        rw [g.N, g.sc]
        exact blkOk_by h3
      refine SndE.plain ?_ (fun _ => rfl) rfl
      rw [lc_eq]
      refine PE.imp (pe_lc (g := tG X gg) (tt := tCond X (isNoP c) (evE fs c)) (te := tE X W0 (evE fs e)) g.calm g.nd (snd_iter g Pi P1 P2 P3 hi) ok (fun s H A cl fp => ?_) (fun s H A cl fp => ?_) (fun s H A cl fp => ?_) (folded_plain h2)) (step_lc fun i hi => ?_)
      · exact sndG (g.blk (own := own) s H A cl fp).t gg h4
      · match ifs, h6 with
        | [], h6 =>
          simp only at h6
          rw [h6]
          exact pts_nil
        | [q], h6 =>
          simp only [Bool.and_eq_true, Bool.not_eq_true'] at h6
          rw [h6.1]
          exact pts_one ((Pc _ _ _ k (g.blk (own := own) s H A cl fp)).1 _ h6.2).t
        | _ :: _ :: _, h6 => simp at h6
      · exact ((Pe _ _ _ k (g.blk (own := own) s H A cl fp)).1 _ h7).v
      · simp only [List.all_eq_true, List.contains_eq_mem, decide_eq_true_eq] at h5
        exact h5 i hi
    | [], h => simp [chk] at h
    | _ :: _ :: _, h => simp [chk] at h
  | _ => simp [chk] at h, noA fun C ps => by cases ps <;> rfl⟩
theorem snd_dct0 : SndP fs .dct0 := fun X W C k g => ⟨fun pe h => by
  cases pe with
  | Dict ks vs pos =>
    match ks, vs, h with
    | [], [], h =>
      refine SndE.plain (PE.imp (pe_lockD pe_dnewK) ?_) (fun _ => rfl) rfl
      rintro σ H Q ⟨rho, F, env, m, A, En, h⟩ p np
      simp only [evE] at h
      refine ⟨p, [], rfl, upd_same, fun o => ?_⟩
      exact RdO.newD (es := []) (RdE.of0 h (fun _ _ z => nomatch z)) A .nil np o
    | [], _ :: _, h => simp [chk] at h
    | _ :: _, _, h => simp [chk] at h
  | _ => simp [chk] at h, noA fun C ps => by cases ps <;> rfl⟩
theorem upd_upd {H : Hp} {p : Addr} {a b : HO} : upd (upd H p a) p b = upd H p b := by
  funext x
  by_cases e : x = p
  · subst e; rw [upd_same, upd_same]
  · rw [upd_ne e, upd_ne e, upd_ne e]
theorem chk_dctI {C : Ck} {i j : Int} {pe : Expr} (h : chk C (.dctI i j) pe = true) : ∃ a b c d pos, pe = .Dict [some (.Constant (.int i) a b)] [.Constant (.int j) c d] pos := by
  unfold chk at h
  split at h
  all_goals try contradiction
  all_goals try (simp at h; done)
  rename_i h1
  cases h1
  simp only [Bool.and_eq_true, decide_eq_true_eq] at h
  obtain ⟨rfl, rfl⟩ := h
  exact ⟨_, _, _, _, _, rfl⟩
theorem snd_dctI (i j : Int) : SndP fs (.dctI i j) := fun X W C k g => ⟨fun pe h => by
  obtain ⟨_, _, _, _, _, rfl⟩ := chk_dctI h
  refine SndE.plain (PE.imp (pe_lockD (pe_disp (pps_cons pe_int pe_int pps_nil) rfl rfl (by simp) (by simp))) ?_) (fun _ => rfl) rfl
  rintro σ H Q ⟨rho, F, env, m, A, En, h⟩ p np
  simp only [evE] at h
  refine ⟨upd_same, [(.inl i, .int j)], rfl, by simp, p, [(.inl i, .int j)], rfl, by rw [upd_upd, upd_same]; rfl, fun o => ?_⟩
  have hq := RdO.newD (es := [(.inl i, .int j)]) (ks := [(.inl i, .int j)]) (RdE.of0 h (fun _ _ z => nomatch z)) A (.cons .int .nil) np o
  rw [upd_twice] at hq
  rw [upd_upd, upd_upd]
  exact hq, noA fun C ps => by cases ps <;> rfl⟩
theorem snd_itr (k : IK) {es : T} : SndP fs (.iter k es) := fun X W C k g => ⟨fun pe h => by cases pe <;> simp [chk] at h, noA fun C ps => by cases ps <;> rfl⟩
theorem sndAll : ∀ e : T, SndP fs e := by
  intro e
  have both : SndP fs e ∧ (∀ a, e = .rng1 a → SndP fs a) ∧ (∀ a b, e = .rng2 a b → SndP fs a ∧ SndP fs b) ∧ AllS fs e ∧ (∀ k es, e = .iter k es → SndP fs es ∧ AllS fs es) := by
    induction e with
    | var i => exact ⟨snd_var i, nofun, nofun, trivial, nofun⟩
    | non => exact ⟨snd_non, nofun, nofun, trivial, nofun⟩
    | bl b => exact ⟨snd_bl b, nofun, nofun, trivial, nofun⟩
    | int i => exact ⟨snd_int i, nofun, nofun, trivial, nofun⟩
    | str x => exact ⟨snd_str x, nofun, nofun, trivial, nofun⟩
    | gint x i => exact ⟨snd_gint x i, nofun, nofun, trivial, nofun⟩
    | bin o a b ia ib => exact ⟨snd_bin o ia.1 ib.1, nofun, nofun, trivial, nofun⟩
    | neg a ia => exact ⟨snd_neg ia.1, nofun, nofun, trivial, nofun⟩
    | cmp o a b ia ib => exact ⟨snd_cmp o ia.1 ib.1, nofun, nofun, trivial, nofun⟩
    | chain o p a b c ia ib ic => exact ⟨snd_chain o p ia.1 ib.1 ic.1, nofun, nofun, trivial, nofun⟩
    | and a b ia ib => exact ⟨snd_and ia.1 ib.1, nofun, nofun, trivial, nofun⟩
    | or a b ia ib => exact ⟨snd_or ia.1 ib.1, nofun, nofun, trivial, nofun⟩
    | not a ia => exact ⟨snd_not ia.1, nofun, nofun, trivial, nofun⟩
    | ite c a b ic ia ib => exact ⟨snd_ite ic.1 ia.1 ib.1, nofun, nofun, trivial, nofun⟩
    | tup es ie => exact ⟨snd_tup ie.1, nofun, nofun, trivial, nofun⟩
    | lst es ie => exact ⟨snd_lst ie.1, nofun, nofun, trivial, nofun⟩
    | lstM es ie => exact ⟨snd_lstM ie.1, nofun, nofun, trivial, nofun⟩
    | nil => exact ⟨snd_nil, nofun, nofun, trivial, nofun⟩
    | cons a es ia ie => exact ⟨snd_cons ia.1 ie.1, nofun, nofun, ⟨ia.1, ie.2.2.2.1⟩, nofun⟩
    | prm p es ie => exact ⟨snd_prm p ie.1, nofun, nofun, trivial, nofun⟩
    | obin o tbl a b ia ib => exact ⟨snd_obin o tbl ia.1 ib.1, nofun, nofun, trivial, nofun⟩
    | onewK c j es e ie ik => exact ⟨snd_onewK c j ie.1 ik.1, nofun, nofun, trivial, nofun⟩
    | fmt a ia => exact ⟨snd_fmt ia.1, nofun, nofun, trivial, nofun⟩
    | fstr es ie => exact ⟨snd_fstr ie.2.2.2.1, nofun, nofun, trivial, nofun⟩
    | dc own g it k v ii ik iv => exact ⟨snd_dc own g ii.1 ii.2.1 ii.2.2.1 ii.2.2.2.2 ik.1 iv.1, nofun, nofun, trivial, nofun⟩
    | mth p a es ia ie => exact ⟨snd_mth p ia.1 ie.1, nofun, nofun, trivial, nofun⟩
    | iter k es ie => exact ⟨snd_itr k, nofun, nofun, trivial, fun k' es' e => by cases e; exact ⟨ie.1, ie.2.2.2.1⟩⟩
    | dmrg a b ia ib => exact ⟨snd_dmrg ia.1 ib.1, nofun, nofun, trivial, nofun⟩
    | dcte es ie => exact ⟨snd_dcte ie.2.2.2.1, nofun, nofun, trivial, nofun⟩
    | ix a b ia ib => exact ⟨snd_ix ia.1 ib.1, nofun, nofun, trivial, nofun⟩
    | sl a lo hi ia il ih => exact ⟨snd_sl ia.1 il.1 ih.1, nofun, nofun, trivial, nofun⟩
    | noP => exact ⟨snd_noP, nofun, nofun, trivial, nofun⟩
    | call j es ie => exact ⟨snd_callT j ie.1, nofun, nofun, trivial, nofun⟩
    | blt b es ie => exact ⟨snd_blt b ie.1, nofun, nofun, trivial, nofun⟩
    | isi a c ia => exact ⟨snd_isi c ia.1, nofun, nofun, trivial, nofun⟩
    | join a b ia ib => exact ⟨snd_join ia.1 ib.1, nofun, nofun, trivial, nofun⟩
    | popAt a b ia ib => exact ⟨snd_popAt ia.1 ib.1, nofun, nofun, trivial, nofun⟩
    | dct0 => exact ⟨snd_dct0, nofun, nofun, trivial, nofun⟩
    | dctI i j => exact ⟨snd_dctI i j, nofun, nofun, trivial, nofun⟩
    | rng1 a ia => exact ⟨snd_rng1, fun x e => by cases e; exact ia.1, nofun, trivial, nofun⟩
    | rng2 a b ia ib => exact ⟨snd_rng2, nofun, fun x y e => by cases e; exact ⟨ia.1, ib.1⟩, trivial, nofun⟩
    | lc own g it c e ii ic ie => exact ⟨snd_lc own g ii.1 ii.2.1 ii.2.2.1 ii.2.2.2.2 ic.1 ie.1, nofun, nofun, trivial, nofun⟩
  exact both.1
theorem allS : ∀ es : T, AllS fs es := by
  intro es
  induction es with
  | cons a r _ ih => exact ⟨sndAll a, ih⟩
  | _ => trivial
end
end HB
namespace HB
open PySem L2 PySem.Spec PyProof.Rows
section
variable {X : Cx}
/-- x = {k: v for ..} at a plain local; the new dict is locked -/
theorem ps_setDc {i : Nat} {y : Str} {py : Pos} {kx vx tg iter : Expr} {ifs : List Expr} {scope : Scope} {own : List (Str × Nat)} {pos spos : Pos} {wi : TI} {g : TG} {tt : TT} {tk tv : TE} (hc : X.calm = true) (hN : X.N.Nodup) (hy : X.N[i]? = some y) (hyl : X.env.scope.names.lookup y = some .local)
    (hsw : swapsWith (.DictComp kx vx [⟨tg, iter, ifs, 0⟩] scope pos) (some (.Name y py)) spos.line X.env = pure true) (hi : PI X tg iter wi) (ok : BlkOk X.N X.env.scope scope own)
    (hg : ∀ s H C cl fp, PG (X.blk s H scope (compEnvC scope cl C X.env) fp) tg g) (ht : ∀ s H C cl fp, PTs (X.blk s H scope (compEnvC scope cl C X.env) fp) ifs tt)
    (hk : ∀ s H C cl fp, PE (X.blk s H scope (compEnvC scope cl C X.env) fp) kx tk) (he : ∀ s H C cl fp, PE (X.blk s H scope (compEnvC scope cl C X.env) fp) vx tv) (hs : ∀ x, foldedSetIterable iter X.env x = pure x := by intro _; rfl) :
    PS X (.Assign [.Name y py] (.DictComp kx vx [⟨tg, iter, ifs, 0⟩] scope pos) spos) (fun D σ H => tDc wi g tt tk tv (own.map (·.2)) σ H fun v H1 => ∃ p kvs, v = .ref p ∧ H1 p = some (.dK kvs) ∧ ∀ o, D.nx (σ.set i (some v)) (upd H1 p (.frz o (.dK kvs)))) := by
  refine ⟨fun pins s σ H D I h => ?_⟩
  rw [exec_Assign_Name_used _ _ _ _ hsw]
  refine wpAny_bind (wpAny_standAt (wpAny_bind ?_))
  rw [arm_evalThenUse_DictComp]
  refine wpAny_bind (thn (dc_core (Qf := fun _ s2 => SP X pins D .next s2) hc hN I hi ok hg ht hk he hs h fun L C s2 m H2 I2 q hn f => ?_) fun _ s2 hq => wpAny_pure (wpAny_pure hq))
  obtain ⟨f0, f1, f2, f3, f4, f5⟩ := f
  refine wpAny_assign_Name (store_ok2 (v := V.ref L) I2 hN hy (.inl hyl) rfl (fun s3 I3 ⟨a, sb, ha⟩ => ?_) (.inr hyl))
  have ne : C ≠ a := ha.elim (fun z => z ▸ f1) fun z e => f4 y a z e.symm
  refine ⟨m, hn.sameBut sb ne, fun h4 sb4 => ?_⟩
  obtain ⟨p, kvs, _, hp, k⟩ := q
  obtain ⟨od, J⟩ := (I3.turned (t' := s3.toks) (fun b o hb e => (sb4.2 b hb).trans e) f0 f1 f3 f4 f5).lock hp trivial
  exact ⟨_, _, J, k od⟩
/-- what a statement has put there is locked -/
theorem ps_lockD {st : Stmt} {t : TS} (h : PS X st t) : PS X st (fun D σ H => t { D with nx := fun σ2 H2 => ∃ p kvs, H2 p = some (.dK kvs) ∧ ∀ o, D.nx σ2 (upd H2 p (.frz o (.dK kvs))) } σ H) := by
  refine ⟨fun pins s σ H D I q => wpAny_mono (h.run pins s σ H _ I q) ?_ fun _ _ z => z⟩
  intro fl s2 hs
  cases fl with
  | next =>
    obtain ⟨σ2, H2, J, p, kvs, hp, k⟩ := hs
    obtain ⟨od, J2⟩ := J.lock hp trivial
    exact ⟨σ2, _, J2, k od⟩
  | _ => exact hs
end
end HB
namespace HB
open PySem L2 PyProof.Rows
open PySem.HBX
/-! ### the expressions of an except suite -/
inductive XT where
  | fld (ns : List Str) (f : Str) | non | bl (b : Bool) | int (i : Int) | str (x : Str) | tup (es : XT) | lst (es : XT) | nil | cons (a es : XT) | add (a b : XT)
mutual
def evX (c : Exc) : XT → M → R D
  | .fld ns f, m => if ns.contains c.name then match c.fs.lookup f with
      | some d => .ok d m
      | none => .no
    else .no
  | .non, m => .ok .non m
  | .bl b, m => .ok (.bl b) m
  | .int i, m => .ok (.int i) m
  | .str x, m => .ok (.str x) m
  | .tup es, m => (evXA c es m).bind fun ds m => if ds.length ≤ sizeLine then .ok (.tup ds) m else .no
  | .lst es, m => (evXA c es m).bind fun ds m => if ds.length ≤ sizeLine then .ok (.lst ds) m else .no
  | .add a b, m => (evX c a m).bind fun d m => (evX c b m).bind fun e m => addD d e m
  | _, _ => .no
def evXA (c : Exc) : XT → M → R (List D)
  | .nil, m => .ok [] m
  | .cons a es, m => (evX c a m).bind fun d m => (evXA c es m).bind fun ds m => .ok (d :: ds) m
  | _, _ => .no
end
mutual
/-- n: the name of the exception; xcs: the classes with their fields -/
def chkX (n : Str) (xcs : List (Str × Str × Bool)) : XT → Expr → Bool
  | .fld ns f, .Attribute (.Name y _) g _ => decide (y = n) && decide (g = f) && ns.all fun c => xcs.contains (c, f, false) || xcs.contains (c, f, true)
  | .non, .Constant .none _ _ => true
  | .bl b, .Constant (.bool c) _ _ => b == c
  | .int i, .Constant (.int j) _ _ => decide (i = j)
  | .str x, .Constant (.str y) _ _ => decide (x = y)
  | .tup es, .Tuple ps _ _ => chkXA n xcs es ps
  | .lst es, .List ps _ => chkXA n xcs es ps
  | .add a b, .BinOp p .Add q _ => chkX n xcs a p && chkX n xcs b q
  | _, _ => false
def chkXA (n : Str) (xcs : List (Str × Str × Bool)) : XT → List Expr → Bool
  | .nil, [] => true
  | .cons a es, p :: ps => plainB p && chkX n xcs a p && chkXA n xcs es ps
  | _, _ => false
end
abbrev W0X : WX := fun _ _ _ _ => False
section
variable {X : Cx} {i : Nat} {a : Addr} {cls : Value} {d : Option Addr}
def tX (X : Cx) (i : Nat) (a : Addr) (cls : Value) (d : Option Addr) (se : Exc → M → R D) : TE := fun σ H Q => ∃ rho F c m, Abs X.K X.mg rho F H m ∧ RpX X.K X.mg rho F c cls d ∧ σ[i]? = some (some (.ref a)) ∧ RdE X.K X.mg W0X σ (relD X.K X.mg) rho F H Q (se c m)
def tXA (X : Cx) (i : Nat) (a : Addr) (cls : Value) (d : Option Addr) (se : Exc → M → R (List D)) : TA := fun σ H Q => ∃ rho F c m, Abs X.K X.mg rho F H m ∧ RpX X.K X.mg rho F c cls d ∧ σ[i]? = some (some (.ref a)) ∧ RdE X.K X.mg W0X σ (relL X.K X.mg) rho F H Q (se c m)
theorem RpX.mono {K : PySem.W.Frag} {mg : Str → Option Value} {rho rho' : List Addr} {F F' : Hp} {c : Exc} (s : Onto rho F rho' F') (h : RpX K mg rho F c cls d) : RpX K mg rho' F' c cls d := by
  cases h with
  | bare h => exact .bare h
  | own h1 h2 h3 => exact .own h1 (s.ex _ _ h2) (h3.mono s)
theorem RpF.look {K : PySem.W.Frag} {mg : Str → Option Value} {rho : List Addr} {F : Hp} {f : Str} {dv : D} : ∀ {fs : List (Str × V)} {gs : List (Str × D)}, RpF K mg rho F fs gs → gs.lookup f = some dv → ∃ v, fs.lookup f = some v ∧ Rp K mg rho F v dv
  | _, _, .nil, h => by cases h
  | _, _, .cons (n := n) r rs, h => by
    simp only [List.lookup] at h ⊢
    split at h
    · cases h; rename_i e; exact ⟨_, rfl, r⟩
    · exact RpF.look rs h
theorem stepX_c {v : V} {dd : D} {se : Exc → M → R D} (hse : ∀ c m, se c m = .ok dd m) (hr : ∀ rho F, Rp X.K X.mg rho F v dd) : ∀ σ H Q, tX X i a cls d se σ H Q → tC v σ H Q := by
  rintro σ H Q ⟨rho, F, c, m, A, x, s, h⟩
  rw [hse] at h
  exact h v _ _ _ Step.refl A (hr rho F)
theorem stepX_cons {sa : Exc → M → R D} {sr : Exc → M → R (List D)} : ∀ σ H Q, tXA X i a cls d (fun c m => (sa c m).bind fun d m => (sr c m).bind fun ds m => .ok (d :: ds) m) σ H Q → tCons (tX X i a cls d sa) (tXA X i a cls d sr) σ H Q := by
  rintro σ H Q ⟨rho, F, c, m, A, x, s, h⟩
  refine ⟨rho, F, c, m, A, x, s, RdE.bind h fun d m1 v r1 F1 H1 s1 A1 q1 h1 => ?_⟩
  refine ⟨r1, F1, c, m1, A1, x.mono s1.onto, s, RdE.bind h1 fun e m2 u r2 F2 H2 s2 A2 q2 h2 => ?_⟩
  exact h2 _ _ _ _ Step.refl A2 (.cons (q1.mono s2.onto) q2)
theorem stepX_nil : ∀ σ H Q, tXA X i a cls d (fun c m => .ok [] m) σ H Q → tNil σ H Q := by
  rintro σ H Q ⟨rho, F, c, m, A, x, s, h⟩
  exact h _ _ _ _ Step.refl A .nil
theorem stepX_tup {sr : Exc → M → R (List D)} : ∀ σ H Q, tX X i a cls d (fun c m => (sr c m).bind fun ds m => if ds.length ≤ sizeLine then .ok (.tup ds) m else .no) σ H Q → tTup (tXA X i a cls d sr) σ H Q := by
  rintro σ H Q ⟨rho, F, c, m, A, x, s, h⟩
  refine ⟨rho, F, c, m, A, x, s, RdE.bind h fun ds m1 vs r1 F1 H1 s1 A1 q1 h1 => ?_⟩
  split at h1
  · rename_i hl
    exact ⟨by rw [q1.length]; exact hl, fun p np => RdO.newT (RdE.of0 h1 (fun _ _ z => nomatch z)) A1 q1 np⟩
  · exact h1.elim
theorem stepX_lst {sr : Exc → M → R (List D)} : ∀ σ H Q, tX X i a cls d (fun c m => (sr c m).bind fun ds m => if ds.length ≤ sizeLine then .ok (.lst ds) m else .no) σ H Q → tLst (tXA X i a cls d sr) σ H Q := by
  rintro σ H Q ⟨rho, F, c, m, A, x, s, h⟩
  refine ⟨rho, F, c, m, A, x, s, RdE.bind h fun ds m1 vs r1 F1 H1 s1 A1 q1 h1 => ?_⟩
  split at h1
  · rename_i hl
    exact ⟨by rw [q1.length]; exact hl, fun p np => RdO.newL (RdE.of0 h1 (fun _ _ z => nomatch z)) A1 q1 np⟩
  · exact h1.elim
theorem stepX_op {g : D → D → M → R D} {sa sb : Exc → M → R D} {r : R2} (hr : r = fun x y H Q => ∃ rho F m d e, Abs X.K X.mg rho F H m ∧ Rp X.K X.mg rho F x d ∧ Rp X.K X.mg rho F y e ∧ RdO X.K X.mg rho F H Q (g d e m))
    (nx : ∀ d e m c m', g d e m ≠ .ex c m') :
    ∀ σ H Q, tX X i a cls d (fun c m => (sa c m).bind fun d m => (sb c m).bind fun e m => g d e m) σ H Q → tOp r (tX X i a cls d sa) (tX X i a cls d sb) σ H Q := by
  rintro σ H Q ⟨rho, F, c, m, A, x, s, h⟩
  refine ⟨rho, F, c, m, A, x, s, RdE.bind h fun d m1 v r1 F1 H1 s1 A1 q1 h1 => ?_⟩
  refine ⟨r1, F1, c, m1, A1, x.mono s1.onto, s, RdE.bind h1 fun e m2 u r2 F2 H2 s2 A2 q2 h2 => ?_⟩
  rw [hr]
  exact ⟨r2, F2, m2, d, e, A2, q1.mono s2.onto, q2, h2.of0 fun c m' => nx d e m2 c m'⟩
end
section
variable {X : Cx} {i : Nat} {n : Str} {xcs : List (Str × Str × Bool)} {a : Addr} {oe : Obj} {cls : Value} {d : Option Addr} {pn : List (Addr × Obj)}
/-- what is read of an own error -/
theorem snd_fld {ns : List Str} {f : Str} {p1 p2 : Pos} (hi : X.N[i]? = some n) (hv : Vis X.env.scope n) (hdb : (n == ("__debug__" : Str)) = false) (hcd : (n == ("__classdict__" : Str)) = false) (hx : ∀ x f fl, (x, f, fl) ∈ xcs → XOk X.prog X.w X.K X.mg x f fl) (hc : ∀ c ∈ ns, ∃ fl, (c, f, fl) ∈ xcs) (hz : Zc cls d oe) (hf : ∃ vs, oe.data = .fields vs) :
    PE (X.suite a ((a, oe) :: pn)) (.Attribute (.Name n p1) f p2) (tX X i a cls d fun c m => evX c (.fld ns f) m) := by
  refine ⟨fun pins s σ H Q I h => ?_⟩
  obtain ⟨rho, F, c, m, A, x, hs, h⟩ := h
  simp only [evX] at h
  split at h
  · rename_i hn
    split at h
    · rename_i dv hl
      obtain ⟨fl, hcc⟩ := hc c.name (by simpa using hn)
      obtain ⟨vn, C, fI, T, _, _⟩ := hx _ _ _ hcc
      cases x with
      | bare h1 => cases hl
      | own h1 h2 h3 =>
        rename_i C' dd fs gs nm
        have e : Value.ref C' = Value.ref C := Option.some.inj (h1.symm.trans T.gC)
        cases e
        obtain ⟨v, lv, rv⟩ := h3.look hl
        refine (pe_xf (X := X) (te := tVar i) ⟨T.ga, T.gg, T.exC, T.hdC⟩ T.noN hz hf (pe_var (X := X.suite a ((a, oe) :: pn)) (i := i) hi hv hdb hcd)).run pins s σ H Q I ?_
        exact ⟨.ref a, hs, rfl, rfl, dd, fs, v, rfl, A.ex _ _ h2, lv, h v _ _ _ Step.refl A rv⟩
    · exact h.elim
  · exact h.elim
theorem sndX (hi : X.N[i]? = some n) (hv : Vis X.env.scope n) (hdb : (n == ("__debug__" : Str)) = false) (hcd : (n == ("__classdict__" : Str)) = false) (hx : ∀ x f fl, (x, f, fl) ∈ xcs → XOk X.prog X.w X.K X.mg x f fl) (hz : Zc cls d oe) (hf : ∃ vs, oe.data = .fields vs) : ∀ (t : XT),
    (∀ e, chkX n xcs t e = true → PE (X.suite a ((a, oe) :: pn)) e (tX X i a cls d fun c m => evX c t m)) ∧ (∀ es, chkXA n xcs t es = true → PA (X.suite a ((a, oe) :: pn)) es (tXA X i a cls d fun c m => evXA c t m)) := by
  intro t
  induction t with
  | fld ns f =>
    refine ⟨fun e h => ?_, fun es h => by cases es <;> simp [chkXA] at h⟩
    cases e with
    | Attribute o g p =>
      cases o with
      | Name y q =>
        simp only [chkX, Bool.and_eq_true, decide_eq_true_eq, List.all_eq_true] at h
        obtain ⟨⟨rfl, rfl⟩, h3⟩ := h
        exact snd_fld hi hv hdb hcd hx (fun c hc => by
          have z := h3 c hc
          simp only [Bool.or_eq_true, List.contains_iff_mem] at z
          rcases z with z | z
          · exact ⟨_, z⟩
          · exact ⟨_, z⟩) hz hf
      | _ => simp [chkX] at h
    | _ => simp [chkX] at h
  | non =>
    refine ⟨fun e h => ?_, fun es h => by cases es <;> simp [chkXA] at h⟩
    cases e with
    | Constant k j p =>
      cases k with
      | none => exact PE.imp pe_non (stepX_c (dd := .non) (fun c m => by simp only [evX]) fun _ _ => .non)
      | _ => simp [chkX] at h
    | _ => simp [chkX] at h
  | bl b =>
    refine ⟨fun e h => ?_, fun es h => by cases es <;> simp [chkXA] at h⟩
    cases e with
    | Constant k j p =>
      cases k with
      | bool b' =>
        simp only [chkX, beq_iff_eq] at h
        subst h
        exact PE.imp pe_bl (stepX_c (dd := .bl b) (fun c m => by simp only [evX]) fun _ _ => .bl)
      | _ => simp [chkX] at h
    | _ => simp [chkX] at h
  | int z =>
    refine ⟨fun e h => ?_, fun es h => by cases es <;> simp [chkXA] at h⟩
    cases e with
    | Constant k j p =>
      cases k with
      | int b' =>
        simp only [chkX, decide_eq_true_eq] at h
        subst h
        exact PE.imp pe_int (stepX_c (dd := .int z) (fun c m => by simp only [evX]) fun _ _ => .int)
      | _ => simp [chkX] at h
    | _ => simp [chkX] at h
  | str z =>
    refine ⟨fun e h => ?_, fun es h => by cases es <;> simp [chkXA] at h⟩
    cases e with
    | Constant k j p =>
      cases k with
      | str b' =>
        simp only [chkX, decide_eq_true_eq] at h
        subst h
        exact PE.imp pe_str (stepX_c (dd := .str z) (fun c m => by simp only [evX]) fun _ _ => .str)
      | _ => simp [chkX] at h
    | _ => simp [chkX] at h
  | tup es ih =>
    refine ⟨fun e h => ?_, fun es h => by cases es <;> simp [chkXA] at h⟩
    cases e with
    | Tuple ps j pos =>
      simp only [chkX] at h
      simp only [evX]
      exact PE.imp (pe_tup (ih.2 _ h)) stepX_tup
    | _ => simp [chkX] at h
  | lst es ih =>
    refine ⟨fun e h => ?_, fun es h => by cases es <;> simp [chkXA] at h⟩
    cases e with
    | List ps pos =>
      simp only [chkX] at h
      simp only [evX]
      exact PE.imp (pe_lst (ih.2 _ h)) stepX_lst
    | _ => simp [chkX] at h
  | nil =>
    refine ⟨fun e h => by cases e <;> simp [chkX] at h, fun es h => ?_⟩
    cases es with
    | nil =>
      simp only [evXA]
      exact PA.imp pa_nil stepX_nil
    | cons p ps => simp [chkXA] at h
  | cons x es i1 i2 =>
    refine ⟨fun e h => by cases e <;> simp [chkX] at h, fun es h => ?_⟩
    cases es with
    | nil => simp [chkXA] at h
    | cons p ps =>
      simp only [chkXA, Bool.and_eq_true] at h
      obtain ⟨⟨h1, h2⟩, h3⟩ := h
      simp only [evXA]
      exact PA.imp (pa_cons (i1.1 _ h2) (i2.2 _ h3) (star_cons h1)) stepX_cons
  | add x y i1 i2 =>
    refine ⟨fun e h => ?_, fun es h => by cases es <;> simp [chkXA] at h⟩
    cases e with
    | BinOp p q r pos =>
      cases q with
      | Add =>
        simp only [chkX, Bool.and_eq_true] at h
        simp only [evX]
        exact PE.imp (pe_op (od_bin .add) (i1.1 _ h.1) (i2.1 _ h.2)) (stepX_op rfl fun d e m c m' => bop_noex (o := .add))
      | _ => simp [chkX] at h
    | _ => simp [chkX] at h
end
end HB
namespace HB
open PySem L2
/-! ### statements -/
inductive S where
  | nil | cons (s r : S)
  | asg (g : G) (e : T) | par (i j : Nat) (a b : T) | par3 (i j l : Nat) (a b c : T) | setix (o i e : T) | app (o e : T) | exp (e : T)
  | ret (e : T) | retN | ife (c : T) (a b : S) | fr (g : G) (it : T) (b : S) | wh (n : Nat) (c : T) (b : S)
  | pass | brk | cont | frz (i : Nat) | setf (o : T) (f : Str) (cs : List Str) (e : T) | dput (o i e : T) | clr (o : T)
  | rai (n f : Str) (fl : Bool) (e : T) | rai0 (n : Str) | tryM (b : S) (hs : List (Str × List (Str × Bool) × D)) | try1 (b : S) (x : Str) (tbl : List (Str × Bool)) (i : Nat) (e : XT)
inductive RS where
  | nx (env : Env) (m : M) | rt (d : D) (m : M) | bk (env : Env) (m : M) | ct (env : Env) (m : M) | ex (c : Exc) (env : Env) (m : M) | no
def R.st {α : Type} (r : R α) (env : Env) (k : α → M → RS) : RS := match r with
  | .ok a m => k a m
  | .ex c m => .ex c env m
  | .no => .no
def setixD (d k v : D) (m : M) : Option M := match d, k with
  | .ref j, .int i => match m[j]? with
    | some (.lst ds) => match ixN ds.length i with
      | some n => some (m.set j (.lst (ds.set n v)))
      | none => none
    | _ => none
  | _, _ => none
def putFD (f : Str) (v : D) : List (Str × D) → List (Str × D)
  | [] => [(f, v)]
  | (g, x) :: r => if g = f then (g, v) :: r else (g, x) :: putFD f v r
/-- o.f = v, o an instance of our own -/
def setfD (cs : List Str) (d : D) (f : Str) (v : D) (m : M) : Option M := match d with
  | .ref j => match m[j]? with
    | some (.ins c gs) => if cs.contains c && decide (gs.length < 1000) then some (m.set j (.ins c (putFD f v gs))) else none
    | _ => none
  | _ => none
/-- d[k] = v, d a dict of our own -/
def dputD (d k v : D) (m : M) : Option M := match d, keyOf k with
  | .ref j, some kk => match m[j]? with
    | some (.dct kvs) => match keysOf kvs with
      | some es => if es.length < sizeLine then some (m.set j (.dct ((putD es kk v).map fun p => (keyD p.1, p.2)))) else none
      | none => none
    | _ => none
  | _, _ => none
def clrD (d : D) (m : M) : Option M := match d with
  | .ref j => match m[j]? with
    | some (.dct _) => some (m.set j (.dct []))
    | _ => none
  | _ => none
def appD (j : Nat) (v : D) (m : M) : Option M := match m[j]? with
  | some (.lst ds) => if ds.length < sizeLine then some (m.set j (.lst (ds ++ [v]))) else none
  | _ => none
def isLst (j : Nat) (m : M) : Bool := match m[j]? with
  | some (.lst _) => true
  | _ => false
def frzD (i : Nat) (env : Env) (m : M) : Option (Env × M) := match env[i]? with
  | some (some (.ref k)) => match m[k]? with
    | some (.lst ds) => some (env.set i (some (.lst ds)), m.set k .gone)
    | some (.dct ds) => some (env.set i (some (.dct ds)), m.set k .gone)
    | _ => none
  | _ => none
def forGo (step : D → Env → M → RS) : List D → Env → M → RS
  | [], env, m => .nx env m
  | x :: xs, env, m => match step x env m with
    | .nx e m => forGo step xs e m
    | .ct e m => forGo step xs e m
    | .bk e m => .nx e m
    | r => r
def whGo (c : SB) (b : Env → M → RS) : Nat → Env → M → RS
  | 0, _, _ => .no
  | n + 1, env, m => (c env m).st env fun t m => if t then
      match b env m with
      | .nx e m => whGo c b n e m
      | .ct e m => whGo c b n e m
      | .bk e m => .nx e m
      | r => r
    else .nx env m
/-- the clauses of a try, one after the other -/
def hsGo (c : Exc) (env : Env) (m : M) : List (Str × List (Str × Bool) × D) → RS
  | [] => .ex c env m
  | (_, tbl, d) :: r => match tbl.lookup c.name with
    | some true => .rt d m
    | some false => hsGo c env m r
    | none => .no
def evS (fs : List Sem) : S → Env → M → RS
  | .nil, env, m => .nx env m
  | .cons s r, env, m => match evS fs s env m with
    | .nx e m => evS fs r e m
    | x => x
  | .asg g e, env, m => (evE fs e env m).st env fun d m => match asgG g d env with
    | some env2 => .nx env2 m
    | none => .no
  | .par i j a b, env, m => (evE fs a env m).st env fun d m => (evE fs b env m).st env fun e m => .nx ((env.set i (some d)).set j (some e)) m
  | .par3 i j l a b c, env, m => (evE fs a env m).st env fun d m => (evE fs b env m).st env fun e m => (evE fs c env m).st env fun f m => .nx (((env.set i (some d)).set j (some e)).set l (some f)) m
  | .setix o i e, env, m => (evE fs e env m).st env fun v m => (evE fs o env m).st env fun d m => (evE fs i env m).st env fun k m => match setixD d k v m with
    | some m => .nx env m
    | none => .no
  | .app o e, env, m => (evE fs o env m).st env fun d m => match d with
    | .ref j => if isLst j m then (evE fs e env m).st env fun v m => match appD j v m with
        | some m => .nx env m
        | none => .no
      else .no
    | _ => .no
  | .setf o f cs e, env, m => (evE fs e env m).st env fun v m => (evE fs o env m).st env fun d m => match setfD cs d f v m with
    | some m => .nx env m
    | none => .no
  | .dput o i e, env, m => (evE fs e env m).st env fun v m => (evE fs o env m).st env fun d m => (evE fs i env m).st env fun k m => match dputD d k v m with
    | some m => .nx env m
    | none => .no
  | .clr o, env, m => (evE fs o env m).st env fun d m => match clrD d m with
    | some m => .nx env m
    | none => .no
  | .exp e, env, m => (evE fs e env m).st env fun _ m => .nx env m
  | .ret e, env, m => (evE fs e env m).st env fun d m => .rt d m
  | .retN, _, m => .rt .non m
  | .ife c a b, env, m => (evT fs c env m).st env fun t m => if t then evS fs a env m else evS fs b env m
  | .fr g it b, env, m => (evE fs it env m).st env fun d m => match viewI d m with
    | some xs => forGo (fun x env m => match asgG g x env with
        | some env2 => evS fs b env2 m
        | none => .no) xs env m
    | none => .no
  | .wh n c b, env, m => whGo (evT fs c) (evS fs b) n env m
  | .pass, env, m => .nx env m
  | .brk, env, m => .bk env m
  | .cont, env, m => .ct env m
  | .frz i, env, m => match frzD i env m with
    | some (e, m) => .nx e m
    | none => .no
  | .rai n f fl e, env, m => (evE fs e env m).st env fun d m => if pvD fl d then .ex ⟨n, [(f, d)]⟩ env m else .no
  | .rai0 n, env, m => .ex ⟨n, []⟩ env m
  | .tryM b hs, env, m => match evS fs b env m with
    | .ex c env m => hsGo c env m hs
    | r => r
  | .try1 b _ tbl i e, env, m => match evS fs b env m with
    | .ex c env m => match tbl.lookup c.name with
      | some true => if i < env.length then match evX c e m with
          | .ok d m => .rt d m
          | _ => .no
        else .no
      | some false => .ex c env m
      | none => .no
    | r => r
/-! ### does it stand there -/
def noComp : Expr → Bool
  | .ListComp .. => false
  | .SetComp .. => false
  | .DictComp .. => false
  | _ => true
def noTup : Expr → Bool
  | .Tuple .. => false
  | .List .. => false
  | _ => true
def noFold (vs : List Expr) : Bool := !(vs.all (foldedForSure 8)) && !(vs.all (constantsAlone 8))
/-- a target that is not only of locals -/
def tupCell (C : Ck) : Expr → Bool
  | .Tuple ts _ _ => ts.any fun
    | .Name x _ => decide (C.sc.names.lookup x ≠ some .local)
    | _ => true
  | _ => false
/-- a plain assignment -/
def asgOk (C : Ck) (tg v : Expr) : Bool := (noTup tg || noTup v || tupCell C tg) && match v with
  | .ListComp _ _ scope vp => match tg with
    | .Name y py => match C.sc.names.lookup y with
      | some .local => (py.line == vp.line) && !(scope.names.any fun (n, k) => n == y && (k == .local || k == .cell))
      | some .cell => true
      | _ => false
    | _ => true
  | .DictComp _ _ _ scope vp => match tg with
    | .Name y py => match C.sc.names.lookup y with
      | some .local => (py.line == vp.line) && !(scope.names.any fun (n, k) => n == y && (k == .local || k == .cell))
      | some .cell => true
      | _ => false
    | _ => false
  | v => noComp v
def chkD : D → Expr → Bool
  | .non, .Constant .none _ _ => true
  | .bl b, .Constant (.bool c) _ _ => b == c
  | .int i, .Constant (.int j) _ _ => decide (i = j)
  | .str x, .Constant (.str y) _ _ => decide (x = y)
  | _, _ => false
def chkHs (C : Ck) : List (Str × List (Str × Bool) × D) → List ExceptHandler → Bool
  | [], [] => true
  | (x, tbl, d) :: hs, .ExceptHandler (some (.Name y _)) none [.Return (some p) _] _ :: hds => decide (y = x) && glB C.sc x && !tbl.isEmpty && tbl.all (fun r => C.tb.xsub.contains (r.1, x, r.2)) && chkD d p && chkHs C hs hds
  | _, _ => false
mutual
def chk1 (C : Ck) : S → Stmt → Bool
  | .asg g e, .Assign [tg] v _ => chkG C g tg && chk C e v && asgOk C tg v && plainB tg
  | .par i j a b, .Assign [.Tuple [.Name x px, .Name y py] _ _] (.Tuple [p, q] _ _) _ => decide (C.N[i]? = some x) && decide (C.N[j]? = some y) && decide (i ≠ j) && decide (C.sc.names.lookup x = some .local) && decide (C.sc.names.lookup y = some .local) &&
      decide (x ≠ y) && (px.line == py.line) && plainB p && plainB q && noFold [p, q] && chk C a p && chk C b q
  | .par3 i j l a b c, .Assign [.Tuple [.Name x px, .Name y py, .Name z pz] _ _] (.Tuple [p, q, r] _ _) _ => decide (C.N[i]? = some x) && decide (C.N[j]? = some y) && decide (C.N[l]? = some z) && decide (i ≠ j) && decide (i ≠ l) && decide (j ≠ l) &&
      decide (C.sc.names.lookup x = some .local) && decide (C.sc.names.lookup y = some .local) && decide (C.sc.names.lookup z = some .local) && decide (x ≠ y) && decide (x ≠ z) && decide (y ≠ z) && (px.line == py.line) && (px.line == pz.line) &&
      plainB p && plainB q && plainB r && noFold [p, q, r] && chk C a p && chk C b q && chk C c r
  | .setix o i e, .Assign [.Subscript p q _] v _ => noSliceB q && noComp v && chk C e v && chk C o p && chk C i q
  | .app o e, .Expr (.Call (.Attribute p x ap) [q] [] pos) _ => decide (x = "append") && noCall0 p && plainB q && (ap.endLine == pos.line) && chk C o p && chk C e q
  | .setf o f cs e, .Assign [.Attribute p g _] v _ => decide (g = f) && cs.all (fun c => hasFld C c f) && chk C e v && chk C o p
  | .dput o i e, .Assign [.Subscript p q _] v _ => noSliceB q && noComp v && chk C e v && chk C o p && chk C i q
  | .clr o, .Expr (.Call (.Attribute p x ap) [] [] pos) _ => decide (x = "clear") && noCall0 p && (ap.endLine == pos.line) && chk C o p
  | .exp e, .Expr p _ => noComp p && chk C e p
  | .ret e, .Return (some p) _ => chk C e p
  | .retN, .Return none _ => true
  | .ife c a b, .If p x y _ => chk C c p && chkB C a x && chkB C b y
  | .fr g it b, .For tg iter body [] _ => chkG C g tg && chkI C tg it iter && noSet iter && chkB C b body
  | .wh _ c b, .While p body [] _ => chk C c p && chkB C b body
  | .rai n f fl e, .Raise (some (.Call (.Name x _) [p] [] _)) none _ => decide (x = n) && glB C.sc x && plainB p && chk C e p && C.tb.xcs.contains (n, f, fl)
  | .rai0 n, .Raise (some (.Call (.Name x _) [.Constant (.str _) _ _] [] _)) none _ => decide (x = n) && glB C.sc x && C.tb.xc0.contains n
  | .tryM b hs, .Try body hds [] [] _ => chkHs C hs hds && !hs.isEmpty && chkB C b body
  | .try1 b x tbl i e, .Try body [.ExceptHandler (some (.Name y _)) (some nm) [.Return (some p) _] _] [] [] _ => decide (y = x) && glB C.sc x && decide (C.N[i]? = some nm) && decide (C.sc.names.lookup nm = some .local) && okN nm &&
      !tbl.isEmpty && tbl.all (fun r => C.tb.xsub.contains (r.1, x, r.2)) && chkX nm C.tb.xcs e p && chkB C b body
  | .pass, .Pass _ => true
  | .brk, .Break _ => true
  | .cont, .Continue _ => true
  | _, _ => false
def chkB (C : Ck) : S → List Stmt → Bool
  | .nil, [] => true
  | .cons (.frz _) r, sts => chkB C r sts
  | .cons s r, st :: sts => chk1 C s st && chkB C r sts
  | _, _ => false
end
end HB
namespace HB
open PySem L2
section
variable (K : PySem.W.Frag) (mg : Str → Option Value) (W : WX)
def RdS (rho : List Addr) (F H : Hp) (D : Ends) : RS → Prop
  | .nx env m => ∀ σ rho' F' H', Step rho F H rho' F' H' → Abs K mg rho' F' H' m → RpEnv K mg rho' F' σ env → D.nx σ H'
  | .bk env m => ∀ σ rho' F' H', Step rho F H rho' F' H' → Abs K mg rho' F' H' m → RpEnv K mg rho' F' σ env → D.bk σ H'
  | .ct env m => ∀ σ rho' F' H', Step rho F H rho' F' H' → Abs K mg rho' F' H' m → RpEnv K mg rho' F' σ env → D.ct σ H'
  | .rt d m => ∀ v rho' F' H', Step rho F H rho' F' H' → Abs K mg rho' F' H' m → Rp K mg rho' F' v d → D.rt v H'
  | .ex c env m => ∀ cls dx σ rho' F' H', Step rho F H rho' F' H' → Abs K mg rho' F' H' m → RpEnv K mg rho' F' σ env → RpX K mg rho' F' c cls dx → W cls dx σ H'
  | .no => False
end
section
variable {K : PySem.W.Frag} {mg : Str → Option Value} {W : WX} {rho rho' : List Addr} {F F' H H' : Hp} {D : Ends}
theorem RdS.step {r : RS} (h : RdS K mg W rho F H D r) (s : Step rho F H rho' F' H') : RdS K mg W rho' F' H' D r := by
  cases r with
  | nx env m => exact fun σ r2 F2 H2 s2 => h σ r2 F2 H2 (s.trans s2)
  | bk env m => exact fun σ r2 F2 H2 s2 => h σ r2 F2 H2 (s.trans s2)
  | ct env m => exact fun σ r2 F2 H2 s2 => h σ r2 F2 H2 (s.trans s2)
  | rt d m => exact fun σ r2 F2 H2 s2 => h σ r2 F2 H2 (s.trans s2)
  | ex c env m => exact fun cls dx σ r2 F2 H2 s2 => h cls dx σ r2 F2 H2 (s.trans s2)
  | no => exact h
/-- an expression ahead of the rest -/
theorem RdS.ahead {α β : Type} {rel : List Addr → Hp → β → α → Prop} {r : R α} {env : Env} {k : α → M → RS} {σ : L2.St} {Q : β → Hp → Prop} (En : RpEnv K mg rho F σ env) (h : RdS K mg W rho F H D (r.st env k))
    (f : ∀ d m v rho' F' H', Step rho F H rho' F' H' → Abs K mg rho' F' H' m → rel rho' F' v d → RdS K mg W rho' F' H' D (k d m) → Q v H') : RdE K mg W σ rel rho F H Q r := by
  cases r with
  | ok d m => exact fun v r2 F2 H2 s A q => f d m v r2 F2 H2 s A q (RdS.step (show RdS K mg W rho F H D (k d m) from h) s)
  | ex c m => exact fun cls dx r2 F2 H2 s A q => h cls dx σ r2 F2 H2 s A (En.mono s.onto) q
  | no => exact h
end
def tSt (X : Cx) (W : WX) (ss : Env → M → RS) : TS := fun D σ H => ∃ rho F env m, Abs X.K X.mg rho F H m ∧ RpEnv X.K X.mg rho F σ env ∧ RdS X.K X.mg W rho F H D (ss env m)
structure GdS (X : Cx) (W : WX) (C : Ck) (fs : List Sem) (k : Nat) : Prop extends GdE X W C fs k where
  own : PassesOwn (model X.prog X.w) X.A X.env X.xe
  stk : X.stack = X.env :: X.outer
  frm : X.env.frame = some X.env.locals
  kind : X.env.scope.kind = .function
  rw0 : C.raw = none
theorem PS.imp {X : Cx} {st : Stmt} {t t' : TS} (h : PS X st t) (f : ∀ D σ H, t' D σ H → t D σ H) : PS X st t' := ⟨fun pins s σ H D I q => h.run pins s σ H D I (f D σ H q)⟩
theorem PSs.imp {X : Cx} {st : List Stmt} {t t' : TS} (h : PSs X st t) (f : ∀ D σ H, t' D σ H → t D σ H) : PSs X st t' := ⟨fun pins s σ H D I q => h.run pins s σ H D I (f D σ H q)⟩
section
variable {X : Cx} {W : WX} {C : Ck} {fs : List Sem} {k : Nat}
theorem sw_plain {v : Expr} {t : Option Expr} {l : Nat} {env : PySem.Env} (h : noComp v = true) : swapsWith v t l env = pure false := by
  cases v <;> first | rfl | (simp [noComp] at h)
theorem swS_plain {v tg : Expr} {l : Nat} {env : PySem.Env} (h : noComp v = true) : swapsWithSole [tg] v l env = pure false := sw_plain h
theorem block_fn {env : PySem.Env} (h : env.scope.kind = .function) : env.blockKind = .function := by
  unfold Env.blockKind
  rw [h]; rfl
theorem st_none {tg v : Expr} {env : PySem.Env} (h : (noTup tg || noTup v) = true) : swappedStores [tg] v env = pure none := by
  unfold swappedStores
  simp only [Bool.or_eq_true] at h
  rcases h with h | h
  · cases tg <;> first | (simp [noTup] at h; done) | rfl
  · cases v <;> first | (simp [noTup] at h; done) | (cases tg <;> rfl)
theorem fm_lt {α β : Type} {f : α → Option β} : ∀ {l : List α}, (∃ x ∈ l, f x = none) → (l.filterMap f).length < l.length
  | [], h => by obtain ⟨x, hx, _⟩ := h; cases hx
  | a :: l, h => by
    cases ha : f a with
    | none =>
      rw [List.filterMap_cons_none ha]
      have := List.length_filterMap_le f l
      simp only [List.length_cons]; omega
    | some b =>
      rw [List.filterMap_cons_some ha]
      obtain ⟨x, hx, e⟩ := h
      rcases List.mem_cons.mp hx with rfl | hx
      · rw [ha] at e; cases e
      · have := fm_lt ⟨x, hx, e⟩
        simp only [List.length_cons]; omega
theorem st_cell {C : Ck} {tg v : Expr} {env : PySem.Env} (hs : env.scope = C.sc) (h : tupCell C tg = true) : swappedStores [tg] v env = pure none := by
  cases tg with
  | Tuple ts a b =>
    simp only [tupCell, List.any_eq_true] at h
    obtain ⟨t, ht, hn⟩ := h
    cases v with
    | Tuple vs c d =>
      unfold swappedStores
      dsimp only
      split
      · rfl
      · split
        · rfl
        · rw [if_pos]
          rw [Bool.or_eq_true]
          left
          refine bne_iff_ne.mpr (Nat.ne_of_lt (fm_lt ⟨t, ht, ?_⟩))
          cases t with
          | Name x p =>
            simp only [decide_eq_true_eq] at hn
            have : (env.kindOf x == some .local) = false := by
              show (env.scope.names.lookup x == some .local) = false
              rw [hs]
              simpa using hn
            simp only [this, Bool.false_and, Bool.false_eq_true, if_false]
          | _ => rfl
    | _ => rfl
  | _ => simp [tupCell] at h
theorem asg1 {tg : Expr} {env : PySem.Env} (h : plainB tg = true) : (assignEach [tg] env).map (·.2) = [assign tg env] := by
  rw [asgEach_cons h]; rfl
/-- the parts of a comprehension that stands there -/
theorem lc_parts (g : GdE X W C fs k) {own : List (Str × Nat)} {gg : G} {it c e : T} {elt : Expr} {gens : List Comprehension} {scope : Scope} {pos : Pos} (h : chk C (.lc own gg it c e) (.ListComp elt gens scope pos) = true) :
    ∃ tg iter ifs, gens = [⟨tg, iter, ifs, 0⟩] ∧ PI X tg iter (tI X W (evE fs it)) ∧ BlkOk X.N X.env.scope scope own ∧
      (∀ (s : Shared) (H : Hp) (A : Addr) (cl : List (Str × Addr)) (fp : List Addr), PG (X.blk s H scope (compEnvC scope cl A X.env) fp) tg (tG X gg)) ∧
      (∀ (s : Shared) (H : Hp) (A : Addr) (cl : List (Str × Addr)) (fp : List Addr), PTs (X.blk s H scope (compEnvC scope cl A X.env) fp) ifs (tCond X (isNoP c) (evE fs c))) ∧
      (∀ (s : Shared) (H : Hp) (A : Addr) (cl : List (Str × Addr)) (fp : List Addr), PE (X.blk s H scope (compEnvC scope cl A X.env) fp) elt (tE X W0 (evE fs e))) ∧
      (∀ x, foldedSetIterable iter X.env x = pure x) ∧ ∀ i ∈ gSlots gg, i ∈ own.map (·.2) := by
  match gens, h with
  | [⟨tg, iter, ifs, asy⟩], h =>
    unfold chk at h
    simp only [Bool.and_eq_true, decide_eq_true_eq] at h
    obtain ⟨⟨⟨⟨⟨⟨⟨h0, h1⟩, h2⟩, h3⟩, h4⟩, h5⟩, h6⟩, h7⟩ := h
    subst h0
    have hi : chkI C tg it iter = true := h1
    refine ⟨tg, iter, ifs, rfl, snd_iter g (sndAll it) (fun a _ => sndAll a) (fun a b _ => ⟨sndAll a, sndAll b⟩) (fun k es _ => ⟨sndAll es, allS es⟩) hi, by rw [g.N, g.sc]; exact blkOk_by h3, fun s H A cl fp => sndG (g.blk (own := own) s H A cl fp).t gg h4, fun s H A cl fp => ?_,
      fun s H A cl fp => ((sndAll e _ _ _ k (g.blk (own := own) s H A cl fp)).1 _ h7).v, folded_plain h2, fun i hi => ?_⟩
    · match ifs, h6 with
      | [], h6 =>
        simp only at h6
        rw [h6]
        exact pts_nil
      | [q], h6 =>
        simp only [Bool.and_eq_true, Bool.not_eq_true'] at h6
        rw [h6.1]
        exact pts_one ((sndAll c _ _ _ k (g.blk (own := own) s H A cl fp)).1 _ h6.2).t
      | _ :: _ :: _, h6 => simp at h6
    · simp only [List.all_eq_true, List.contains_eq_mem, decide_eq_true_eq] at h5
      exact h5 i hi
  | [], h => simp [chk] at h
  | _ :: _ :: _, h => simp [chk] at h
theorem dc_parts (g : GdE X W C fs k) {own : List (Str × Nat)} {gg : G} {it kx vx : T} {ek ev : Expr} {gens : List Comprehension} {scope : Scope} {pos : Pos} (h : chk C (.dc own gg it kx vx) (.DictComp ek ev gens scope pos) = true) :
    ∃ tg iter, gens = [⟨tg, iter, [], 0⟩] ∧ PI X tg iter (tI X W (evE fs it)) ∧ BlkOk X.N X.env.scope scope own ∧ (∀ s H A cl fp, PG (X.blk s H scope (compEnvC scope cl A X.env) fp) tg (tG X gg)) ∧
      (∀ s H A cl fp, PE (X.blk s H scope (compEnvC scope cl A X.env) fp) ek (tE X W0 (evE fs kx))) ∧ (∀ s H A cl fp, PE (X.blk s H scope (compEnvC scope cl A X.env) fp) ev (tE X W0 (evE fs vx))) ∧
      (∀ x, foldedSetIterable iter X.env x = pure x) ∧ ∀ i ∈ gSlots gg, i ∈ own.map (·.2) := by
  match gens, h with
  | [⟨tg, iter, ifs, asy⟩], h =>
    unfold chk at h
    simp only [Bool.and_eq_true, decide_eq_true_eq] at h
    obtain ⟨⟨⟨⟨⟨⟨⟨⟨h0, h1⟩, h2⟩, h3⟩, h4⟩, h5⟩, h6⟩, h7⟩, h8⟩ := h
    subst h0
    have hi : chkI C tg it iter = true := h1
    have e6 : ifs = [] := List.isEmpty_iff.mp h6
    subst e6
    refine ⟨tg, iter, rfl, snd_iter g (sndAll it) (fun a _ => sndAll a) (fun a b _ => ⟨sndAll a, sndAll b⟩) (fun k es _ => ⟨sndAll es, allS es⟩) hi, by rw [g.N, g.sc]; exact blkOk_by h3, fun s H A cl fp => sndG (g.blk (own := own) s H A cl fp).t gg h4,
      fun s H A cl fp => ((sndAll kx _ _ _ k (g.blk (own := own) s H A cl fp)).1 _ h7).v, fun s H A cl fp => ((sndAll vx _ _ _ k (g.blk (own := own) s H A cl fp)).1 _ h8).v, folded_plain h2, fun i hi => ?_⟩
    simp only [List.all_eq_true, List.contains_eq_mem, decide_eq_true_eq] at h5
    exact h5 i hi
  | [], h => simp [chk] at h
  | _ :: _ :: _, h => simp [chk] at h
/-- target = value -/
theorem snd_asg (g : GdS X W C fs k) {gg : G} {e : T} {tg v : Expr} {pos : Pos} (hg : chkG C gg tg = true) (he : chk C e v = true) (hok : asgOk C tg v = true) (hp : plainB tg = true) : PS X (.Assign [tg] v pos) (tSt X W (evS fs (.asg gg e))) := by
  have PEv := ((sndAll e) X W C k g.toGdE).1 _ he
  have PGt := sndG g.toGdE.t gg hg
  have key : ∀ D σ H, tSt X W (evS fs (.asg gg e)) D σ H → tAsg (tE X W (evE fs e)) (tG X gg) D σ H := by
    rintro D σ H ⟨rho, F, env, m, A, En, h⟩
    simp only [evS] at h
    refine ⟨rho, F, env, m, A, En, RdS.ahead En h fun d m1 v r1 F1 H1 s1 A1 q1 h1 => ?_⟩
    refine ⟨r1, F1, env, m1, d, A1, En.mono s1.onto, q1, ?_⟩
    cases ea : asgG gg d env with
    | none => rw [ea] at h1; exact h1
    | some env2 =>
      rw [ea] at h1
      exact fun σ2 En2 _ => h1 σ2 _ _ _ Step.refl A1 En2
  unfold asgOk at hok
  simp only [Bool.and_eq_true] at hok
  obtain ⟨hT, hok⟩ := hok
  have plain : swapsWithSole [tg] v pos.line X.env = pure false → PS X (.Assign [tg] v pos) (tSt X W (evS fs (.asg gg e))) := fun hn => PS.imp (ps_asg PEv.v PGt hn (by
    simp only [Bool.or_eq_true] at hT
    rcases hT with hT | hT
    · exact st_none (by simpa using hT)
    · exact st_cell g.sc hT) (asg1 hp)) key
  cases v with
  | DictComp ek ev gens scope vp =>
    cases tg with
    | Name y py =>
      simp only at hok
      split at hok
      · rename_i hl
        simp only [Bool.and_eq_true, Bool.not_eq_true'] at hok
        cases e with
        | dc own g2 it kx vx =>
          obtain ⟨tg2, iter, rfl, pi, ok, pg, pk, pv, fol, hgs⟩ := dc_parts (W := W) g.toGdE he
          cases gg with
          | name i =>
            simp only [chkG, Bool.and_eq_true, decide_eq_true_eq] at hg
            have sw : swapsWith (.DictComp ek ev [⟨tg2, iter, [], 0⟩] scope vp) (some (.Name y py)) pos.line X.env = pure true := by
              have ky : X.env.kindOf y = some .local := by show X.env.scope.names.lookup y = _; rw [g.sc]; exact hl
              unfold swapsWith
              simp only [block_fn g.kind, ky, beq_self_eq_true, Bool.true_and]
              have e1 : (py.line == (Expr.DictComp ek ev [⟨tg2, iter, [], 0⟩] scope vp).pos.line) = true := hok.1
              rw [e1, hok.2]; rfl
            refine PS.imp (ps_setDc (i := i) g.calm g.nd (by rw [g.N]; exact hg.1) (by rw [g.sc]; exact hl) sw pi ok pg (fun s H A cl fp => pts_nil) pk pv fol) ?_
            rintro D σ H ⟨rho, F, env, m, A, En, h⟩
            simp only [evS, dc_eq] at h
            exact step_dc (W := W) hgs σ H (fun v H1 => D.nx (σ.set i (some v)) H1) ⟨rho, F, env, m, A, En, RdS.ahead En h fun d m1 v r1 F1 H1 s1 A1 q1 h1 => by
              simp only [asgG] at h1
              exact h1 _ _ _ _ Step.refl A1 ((En.mono s1.onto).set q1 i)⟩
          | _ => simp [chkG] at hg
        | prm p es => simp only [chk] at he; cases p <;> simp [prC] at he
        | mth p a es => simp only [chk] at he; cases p <;> simp [mrC] at he
        | iter k es => simp [chk] at he
        | obin o tbl a b => unfold chk at he; (repeat' split at he) <;> first | (cases he; done) | (rename_i hh; cases hh; done)
        | _ => simp [chk] at he
      · rename_i hl
        refine plain ?_
        have sole : swapsWithSole [.Name y py] (.DictComp ek ev gens scope vp) pos.line X.env = swapsWith (.DictComp ek ev gens scope vp) (some (.Name y py)) pos.line X.env := rfl
        rw [sole]
        unfold swapsWith
        have : X.env.kindOf y = some .cell := by show X.env.scope.names.lookup y = _; rw [g.sc]; exact hl
        simp only [this]
        have e1 : (some NameKind.cell == some NameKind.local) = false := by decide
        simp only [e1, Bool.and_false, Bool.false_and]
      · cases hok
    | _ => cases hok
  | ListComp elt gens scope vp =>
    cases tg with
    | Name y py =>
      simp only at hok
      split at hok
      · rename_i hl
        simp only [Bool.and_eq_true, Bool.not_eq_true'] at hok
        cases e with
        | lc own g2 it c e =>
          obtain ⟨tg2, iter, ifs, rfl, pi, ok, pg, pt, pe, fol, hgs⟩ := lc_parts (W := W) g.toGdE he
          cases gg with
          | name i =>
            simp only [chkG, Bool.and_eq_true, decide_eq_true_eq] at hg
            refine PS.imp (ps_setLc (i := i) g.calm g.nd (by rw [g.N]; exact hg.1) (by rw [g.sc]; exact hl) (sw_true g.kind (by rw [g.sc]; exact hl) hok.1 hok.2) pi ok pg pt pe fol) ?_
            rintro D σ H ⟨rho, F, env, m, A, En, h⟩
            simp only [evS, lc_eq] at h
            refine step_lc (W := W) hgs σ H _ ⟨rho, F, env, m, A, En, RdS.ahead En h fun d m1 v r1 F1 H1 s1 A1 q1 h1 => ?_⟩
            simp only [asgG] at h1
            exact h1 _ _ _ _ Step.refl A1 ((En.mono s1.onto).set q1 i)
          | _ => simp [chkG] at hg
        | prm p es => simp only [chk] at he; cases p <;> simp [prC] at he
        | mth p a es => simp only [chk] at he; cases p <;> simp [mrC] at he
        | iter k es => simp [chk] at he
        | obin o tbl a b => unfold chk at he; (repeat' split at he) <;> first | (cases he; done) | (rename_i hh; cases hh; done)
        | _ => simp [chk] at he
      · rename_i hl
        refine plain ?_
        have sole : swapsWithSole [.Name y py] (.ListComp elt gens scope vp) pos.line X.env = swapsWith (.ListComp elt gens scope vp) (some (.Name y py)) pos.line X.env := rfl
        rw [sole]
        unfold swapsWith
        have : X.env.kindOf y = some .cell := by show X.env.scope.names.lookup y = _; rw [g.sc]; exact hl
        simp only [this]
        have e1 : (some NameKind.cell == some NameKind.local) = false := by decide
        simp only [e1, Bool.and_false, Bool.false_and]
      · cases hok
    | _ => exact plain (by rfl)
  | _ => exact plain (swS_plain hok)
theorem swap2 {x y : Str} {px py pt : Pos} {p q : Expr} {kt k2 : Nat} {pt2 : Pos} {env : PySem.Env} (hk : env.scope.kind = .function) (hx : env.kindOf x = some .local) (hy : env.kindOf y = some .local) (hxy : x ≠ y) (hl : (px.line == py.line) = true) (hp : plainB p = true) (hq : plainB q = true) (hf : noFold [p, q] = true) :
    swappedStores [.Tuple [.Name x px, .Name y py] kt pt] (.Tuple [p, q] k2 pt2) env = pure (some [x, y]) := by
  have hb := block_fn hk
  have hl' : (py.line == px.line) = true := by rw [beq_iff_eq] at hl ⊢; exact hl.symm
  simp only [noFold, Bool.and_eq_true, Bool.not_eq_true'] at hf
  have yx : (y == x) = false := beq_eq_false_iff_ne.mpr (Ne.symm hxy)
  have e1 : [x, y].eraseDups = [x, y] := by simp [List.eraseDups, List.eraseDupsBy, List.eraseDupsBy.loop, yx]
  unfold swappedStores
  simp only [Expr.pos, List.head?, Option.map, Option.getD, List.filterMap, hx, hy, hl', hb, hf.1, hf.2]
  simp [e1]
  intro h
  exfalso
  rcases h with h | h
  · cases p <;> first | (simp [plainB] at hp; done) | cases h
  · cases q <;> first | (simp [plainB] at hq; done) | cases h
theorem swap3 {x y z : Str} {px py pz pt : Pos} {p q r : Expr} {kt k2 : Nat} {pt2 : Pos} {env : PySem.Env} (hk : env.scope.kind = .function) (hx : env.kindOf x = some .local) (hy : env.kindOf y = some .local) (hz : env.kindOf z = some .local) (hxy : x ≠ y) (hxz : x ≠ z) (hyz : y ≠ z) (hl : (px.line == py.line) = true) (hl2 : (px.line == pz.line) = true) (hp : plainB p = true) (hq : plainB q = true) (hr : plainB r = true) (hf : noFold [p, q, r] = true) :
    swappedStores [.Tuple [.Name x px, .Name y py, .Name z pz] kt pt] (.Tuple [p, q, r] k2 pt2) env = pure (some [x, y, z]) := by
  have hb := block_fn hk
  have hl' : (py.line == px.line) = true := by rw [beq_iff_eq] at hl ⊢; exact hl.symm
  have hl3 : (pz.line == px.line) = true := by rw [beq_iff_eq] at hl2 ⊢; exact hl2.symm
  simp only [noFold, Bool.and_eq_true, Bool.not_eq_true'] at hf
  have yx : (y == x) = false := beq_eq_false_iff_ne.mpr (Ne.symm hxy)
  have zx : (z == x) = false := beq_eq_false_iff_ne.mpr (Ne.symm hxz)
  have zy : (z == y) = false := beq_eq_false_iff_ne.mpr (Ne.symm hyz)
  have e1 : [x, y, z].eraseDups = [x, y, z] := by simp [List.eraseDups, List.eraseDupsBy, List.eraseDupsBy.loop, yx, zx, zy]
  unfold swappedStores
  simp only [Expr.pos, List.head?, Option.map, Option.getD, List.filterMap, hx, hy, hz, hl', hl3, hb, hf.1, hf.2]
  simp [e1]
  intro h
  exfalso
  rcases h with h | h | h
  · cases p <;> first | (simp [plainB] at hp; done) | cases h
  · cases q <;> first | (simp [plainB] at hq; done) | cases h
  · cases r <;> first | (simp [plainB] at hr; done) | cases h
end
end HB
namespace HB
open PySem L2
section
variable {X : Cx} {W : WX} {C : Ck} {fs : List Sem} {k : Nat}
theorem snd_par (g : GdS X W C fs k) {i j : Nat} {a b : T} {x y : Str} {px py pt pt2 pos : Pos} {p q : Expr} {kt k2 : Nat} (h : chk1 C (.par i j a b) (.Assign [.Tuple [.Name x px, .Name y py] kt pt] (.Tuple [p, q] k2 pt2) pos) = true) :
    PS X (.Assign [.Tuple [.Name x px, .Name y py] kt pt] (.Tuple [p, q] k2 pt2) pos) (tSt X W (evS fs (.par i j a b))) := by
  simp only [chk1, Bool.and_eq_true, decide_eq_true_eq] at h
  obtain ⟨⟨⟨⟨⟨⟨⟨⟨⟨⟨⟨h1, h2⟩, h3⟩, h4⟩, h5⟩, h6⟩, h7⟩, h8⟩, h9⟩, h10⟩, h11⟩, h12⟩ := h
  have lx : X.env.scope.names.lookup x = some .local := by rw [g.sc]; exact h4
  have ly : X.env.scope.names.lookup y = some .local := by rw [g.sc]; exact h5
  refine PS.imp (ps_par (i := i) (j := j) g.calm g.nd (by rw [g.N]; exact h1) (by rw [g.N]; exact h2) h3 lx ly (pa_cons ((sndAll a X W C k g.toGdE).1 _ h11).v (pa_cons ((sndAll b X W C k g.toGdE).1 _ h12).v pa_nil (star_cons h9)) (star_cons h8)) (swap2 g.kind lx ly h6 h7 h8 h9 h10)) ?_
  rintro D σ H ⟨rho, F, env, m, A, En, h⟩
  simp only [evS] at h
  refine ⟨rho, F, env, m, A, En, RdS.ahead En h fun d m1 v r1 F1 H1 s1 A1 q1 h1 => ?_⟩
  refine ⟨r1, F1, env, m1, A1, En.mono s1.onto, RdS.ahead (En.mono s1.onto) h1 fun e m2 u r2 F2 H2 s2 A2 q2 h2 => ?_⟩
  exact ⟨v, u, rfl, h2 _ _ _ _ Step.refl A2 ((((En.mono s1.onto).mono s2.onto).set (q1.mono s2.onto) i).set q2 j)⟩
theorem snd_par3 (g : GdS X W C fs k) {i j l : Nat} {a b c : T} {x y z : Str} {px py pz pt pt2 pos : Pos} {p q r : Expr} {kt k2 : Nat} (h : chk1 C (.par3 i j l a b c) (.Assign [.Tuple [.Name x px, .Name y py, .Name z pz] kt pt] (.Tuple [p, q, r] k2 pt2) pos) = true) :
    PS X (.Assign [.Tuple [.Name x px, .Name y py, .Name z pz] kt pt] (.Tuple [p, q, r] k2 pt2) pos) (tSt X W (evS fs (.par3 i j l a b c))) := by
  simp only [chk1, Bool.and_eq_true, decide_eq_true_eq] at h
  obtain ⟨⟨⟨⟨⟨⟨⟨⟨⟨⟨⟨⟨⟨⟨⟨⟨⟨⟨⟨⟨h1, h2⟩, h3⟩, h4⟩, h5⟩, h6⟩, h7⟩, h8⟩, h9⟩, h10⟩, h11⟩, h12⟩, h13⟩, h14⟩, h15⟩, h16⟩, h17⟩, h18⟩, h19⟩, h20⟩, h21⟩ := h
  have lx : X.env.scope.names.lookup x = some .local := by rw [g.sc]; exact h7
  have ly : X.env.scope.names.lookup y = some .local := by rw [g.sc]; exact h8
  have lz : X.env.scope.names.lookup z = some .local := by rw [g.sc]; exact h9
  refine PS.imp (ps_par3 (i := i) (j := j) (l := l) g.calm g.nd (by rw [g.N]; exact h1) (by rw [g.N]; exact h2) (by rw [g.N]; exact h3) h4 h5 h6 lx ly lz
    (pa_cons ((sndAll a X W C k g.toGdE).1 _ h19).v (pa_cons ((sndAll b X W C k g.toGdE).1 _ h20).v (pa_cons ((sndAll c X W C k g.toGdE).1 _ h21).v pa_nil (star_cons h17)) (star_cons h16)) (star_cons h15)) (swap3 g.kind lx ly lz h10 h11 h12 h13 h14 h15 h16 h17 h18)) ?_
  rintro D σ H ⟨rho, F, env, m, A, En, h⟩
  simp only [evS] at h
  refine ⟨rho, F, env, m, A, En, RdS.ahead En h fun d m1 v r1 F1 H1 s1 A1 q1 h1 => ?_⟩
  refine ⟨r1, F1, env, m1, A1, En.mono s1.onto, RdS.ahead (En.mono s1.onto) h1 fun e m2 u r2 F2 H2 s2 A2 q2 h2 => ?_⟩
  refine ⟨r2, F2, env, m2, A2, (En.mono s1.onto).mono s2.onto, RdS.ahead ((En.mono s1.onto).mono s2.onto) h2 fun f m3 w r3 F3 H3 s3 A3 q3 h3 => ?_⟩
  exact ⟨v, u, w, rfl, h3 _ _ _ _ Step.refl A3 ((((((En.mono s1.onto).mono s2.onto).mono s3.onto).set ((q1.mono s2.onto).mono s3.onto) i).set (q2.mono s3.onto) j).set q3 l)⟩
theorem snd_setix (g : GdS X W C fs k) {o i e : T} {p q v : Expr} {pp pos : Pos} (h : chk1 C (.setix o i e) (.Assign [.Subscript p q pp] v pos) = true) : PS X (.Assign [.Subscript p q pp] v pos) (tSt X W (evS fs (.setix o i e))) := by
  simp only [chk1, Bool.and_eq_true] at h
  obtain ⟨⟨⟨⟨h1, h2⟩, h3⟩, h4⟩, h5⟩ := h
  have hasg : ∀ u, assign (.Subscript p q pp) X.env u = (do
      let ov ← holding [u] (eval p X.env)
      let iv ← holding [u, ov] (eval q X.env)
      standAt pp
      holding [u, ov, iv] (setItem ov iv u)
      release [u, ov, iv] []) := by
    intro u
    cases q <;> first | (simp [noSliceB] at h1; done) | rfl
  refine PS.imp (ps_asg ((sndAll e X W C k g.toGdE).1 _ h3).v (pg_sub ((sndAll o X W C k g.toGdE).1 _ h4).v ((sndAll i X W C k g.toGdE).1 _ h5).v set_list hasg) (swS_plain h2) (st_none rfl) rfl) ?_
  rintro D σ H ⟨rho, F, env, m, A, En, h⟩
  simp only [evS] at h
  refine ⟨rho, F, env, m, A, En, RdS.ahead En h fun d m1 v r1 F1 H1 s1 A1 q1 h1 => ?_⟩
  refine ⟨r1, F1, env, m1, A1, En.mono s1.onto, RdS.ahead (En.mono s1.onto) h1 fun e m2 u r2 F2 H2 s2 A2 q2 h2 => ?_⟩
  refine ⟨r2, F2, env, m2, A2, (En.mono s1.onto).mono s2.onto, RdS.ahead ((En.mono s1.onto).mono s2.onto) h2 fun f m3 w r3 F3 H3 s3 A3 q3 h3 => ?_⟩
  split at h3
  · rename_i m4 hs
    unfold setixD at hs
    split at hs
    · split at hs
      · split at hs
        · rename_i jj ii _ ds hm _ n hn
          cases hs
          cases q3
          cases q2 with
          | ref hi =>
            have hi3 := s3.ix hi
            obtain ⟨nF, vs, h0, r⟩ := A3.own _ _ _ hi3 hm
            have rv := (q1.mono s2.onto).mono s3.onto
            obtain ⟨st, A4⟩ := A3.write (o := .lst (vs.set n v)) (y := .lst (ds.set n d)) hi3 hm nF ⟨_, h0⟩ ⟨nF, _, upd_same, r.set rv n⟩
            exact ⟨_, vs, ii, n, rfl, rfl, h0, by rw [r.length]; exact hn, h3 σ _ _ _ st A4 ((((En.mono s1.onto).mono s2.onto).mono s3.onto).mono st.onto)⟩
        · cases hs
      · cases hs
    · cases hs
  · exact h3.elim
theorem snd_app (g : GdS X W C fs k) {o e : T} {p q : Expr} {x : Str} {ap pos pos2 : Pos} (h : chk1 C (.app o e) (.Expr (.Call (.Attribute p x ap) [q] [] pos) pos2) = true) : PS X (.Expr (.Call (.Attribute p x ap) [q] [] pos) pos2) (tSt X W (evS fs (.app o e))) := by
  simp only [chk1, Bool.and_eq_true, decide_eq_true_eq] at h
  obtain ⟨⟨⟨⟨⟨h1, h2⟩, h3⟩, h4⟩, h5⟩, h6⟩ := h
  subst h1
  refine PS.imp (ps_expr (pe_bm PySem.F.plainAttrs_list PySem.F.slot_list_append PySem.F.type_list_append mt_append ((sndAll o X W C k g.toGdE).1 _ h5).v (pa_cons ((sndAll e X W C k g.toGdE).1 _ h6).v pa_nil (star_cons h3)) (base_plain h2) (by rw [star_cons h3]; rfl) h4 (star_cons h3) rfl) rfl) ?_
  rintro D σ H ⟨rho, F, env, m, A, En, h⟩
  simp only [evS] at h
  refine ⟨rho, F, env, m, A, En, RdS.ahead En h fun d m1 v r1 F1 H1 s1 A1 q1 h1 => ?_⟩
  split at h1
  · rename_i j
    split at h1
    · rename_i hl
      unfold isLst at hl
      split at hl
      · rename_i ds hm
        cases q1 with
        | ref hi =>
          obtain ⟨_, vs0, h00, _⟩ := A1.own _ _ _ hi hm
          refine ⟨.inl ⟨rfl, _, SqL.of h00⟩, r1, F1, env, m1, A1, En.mono s1.onto, RdS.ahead (En.mono s1.onto) h1 fun f m2 u r2 F2 H2 s2 A2 q2 h2 => ?_⟩
          split at h2
          · rename_i m4 ha
            unfold appD at ha
            split at ha
            · split at ha
              · rename_i ds2 hm2 hlen
                cases ha
                have hi2 := s2.ix hi
                obtain ⟨nF, vs, h0, r⟩ := A2.own _ _ _ hi2 hm2
                obtain ⟨st, A4⟩ := A2.write (o := .lst (vs ++ [u])) (y := .lst (ds2 ++ [f])) hi2 hm2 nF ⟨_, h0⟩ ⟨nF, _, upd_same, r.append (.cons q2 .nil)⟩
                exact ⟨_, vs, u, rfl, rfl, h0, by rw [r.length]; exact hlen, h2 σ _ _ _ st A4 (((En.mono s1.onto).mono s2.onto).mono st.onto)⟩
              · cases ha
            · cases ha
          · exact h2.elim
      · cases hl
    · exact h1.elim
  · exact h1.elim
theorem RpF.putF {K : PySem.W.Frag} {mg : Str → Option Value} {rho : List Addr} {F : Hp} {f : Str} {v : V} {d : D} (r : Rp K mg rho F v d) : ∀ {fs : List (Str × V)} {gs : List (Str × D)}, RpF K mg rho F fs gs → RpF K mg rho F (L2.putF f v fs) (putFD f d gs)
  | _, _, .nil => .cons r .nil
  | _, _, .cons (n := n) q qs => by
    simp only [L2.putF, putFD]
    by_cases h : n = f
    · rw [if_pos h, if_pos h]; exact .cons r qs
    · rw [if_neg h, if_neg h]; exact .cons q (RpF.putF r qs)
theorem RpF.length {K : PySem.W.Frag} {mg : Str → Option Value} {rho : List Addr} {F : Hp} : ∀ {fs : List (Str × V)} {gs : List (Str × D)}, RpF K mg rho F fs gs → fs.length = gs.length
  | _, _, .nil => rfl
  | _, _, .cons _ qs => by rw [List.length_cons, List.length_cons, RpF.length qs]
theorem chk_setf {o e : T} {f : Str} {cs : List Str} {st : Stmt} (h : chk1 C (.setf o f cs e) st = true) : ∃ p v pp pos, st = .Assign [.Attribute p f pp] v pos ∧ cs.all (fun c => hasFld C c f) = true ∧ chk C e v = true ∧ chk C o p = true := by
  unfold chk1 at h
  split at h
  all_goals first
    | (rename_i heq; cases heq; done)
    | (rename_i heq; cases heq; simp only [Bool.and_eq_true, decide_eq_true_eq] at h; obtain ⟨⟨⟨rfl, h2⟩, h3⟩, h4⟩ := h; exact ⟨_, _, _, _, rfl, h2, h3, h4⟩; done)
    | (cases h; done)
theorem snd_setf (g : GdS X W C fs k) {o e : T} {f : Str} {cs : List Str} {st : Stmt} (h : chk1 C (.setf o f cs e) st = true) : PS X st (tSt X W (evS fs (.setf o f cs e))) := by
  obtain ⟨p, v, pp, pos, rfl, h1, h2, h3⟩ := chk_setf h
  rw [List.all_eq_true] at h1
  refine PS.imp (ps_fld ((sndAll o X W C k g.toGdE).1 _ h3).v ((sndAll e X W C k g.toGdE).1 _ h2).v (by cases v <;> rfl)) ?_
  rintro D σ H ⟨rho, F, env, m, A, En, h⟩
  simp only [evS] at h
  refine ⟨rho, F, env, m, A, En, RdS.ahead En h fun d m1 v r1 F1 H1 s1 A1 q1 h1' => ?_⟩
  refine ⟨r1, F1, env, m1, A1, En.mono s1.onto, RdS.ahead (En.mono s1.onto) h1' fun e m2 u r2 F2 H2 s2 A2 q2 h2' => ?_⟩
  split at h2'
  · rename_i m4 hs
    unfold setfD at hs
    split at hs
    · split at hs
      · split at hs
        · rename_i jj _ c gs hm hc
          cases hs
          simp only [Bool.and_eq_true, decide_eq_true_eq, List.contains_iff_mem] at hc
          cases q2 with
          | ref hi =>
            obtain ⟨nF, Cl, dx, fs', h0, hmc, rf⟩ := A2.own _ _ _ hi hm
            have hfl := h1 c hc.1
            unfold hasFld at hfl
            rw [List.any_eq_true] at hfl
            obtain ⟨⟨c', fl⟩, hm', hh⟩ := hfl
            simp only [Bool.and_eq_true, decide_eq_true_eq, List.contains_iff_mem] at hh
            obtain ⟨rfl, hf⟩ := hh
            obtain ⟨Cl', e1, oc, na⟩ := g.tb.ocl _ _ hm'
            have ec := Option.some.inj (hmc.symm.trans e1)
            cases ec
            obtain ⟨st, A4⟩ := A2.write (o := .ins Cl dx (L2.putF f v fs')) (y := .ins c' (putFD f d gs)) hi hm nF ⟨_, h0⟩ ⟨nF, _, _, _, upd_same, hmc, rf.putF (q1.mono s2.onto)⟩
            exact ⟨_, Cl, dx, fs', rfl, h0, oc.cl, na _ hf, by rw [rf.length]; exact hc.2, h2' σ _ _ _ st A4 (((En.mono s1.onto).mono s2.onto).mono st.onto)⟩
        · cases hs
      · cases hs
    · cases hs
  · exact h2'.elim
theorem chk_dput {o i e : T} {st : Stmt} (h : chk1 C (.dput o i e) st = true) : ∃ p q v pp pos, st = .Assign [.Subscript p q pp] v pos ∧ noComp v = true ∧ chk C e v = true ∧ chk C o p = true ∧ chk C i q = true := by
  unfold chk1 at h
  split at h
  all_goals first
    | (rename_i heq; cases heq; done)
    | (rename_i heq; cases heq; simp only [Bool.and_eq_true] at h; obtain ⟨⟨⟨⟨_, h2⟩, h3⟩, h4⟩, h5⟩ := h; exact ⟨_, _, _, _, _, rfl, h2, h3, h4, h5⟩; done)
    | (cases h; done)
theorem snd_dput (g : GdS X W C fs k) {o i e : T} {st : Stmt} (h : chk1 C (.dput o i e) st = true) : PS X st (tSt X W (evS fs (.dput o i e))) := by
  obtain ⟨p, q, v, pp, pos, rfl, h2, h3, h4, h5⟩ := chk_dput h
  refine PS.imp (ps_dput (by have := units_of g.toGdE; omega) ((sndAll o X W C k g.toGdE).1 _ h4).v ((sndAll i X W C k g.toGdE).1 _ h5).v ((sndAll e X W C k g.toGdE).1 _ h3).v (sw_plain h2)) ?_
  rintro D σ H ⟨rho, F, env, m, A, En, h⟩
  simp only [evS] at h
  refine ⟨rho, F, env, m, A, En, RdS.ahead En h fun d m1 v r1 F1 H1 s1 A1 q1 h1 => ?_⟩
  refine ⟨r1, F1, env, m1, A1, En.mono s1.onto, RdS.ahead (En.mono s1.onto) h1 fun e m2 u r2 F2 H2 s2 A2 q2 h2 => ?_⟩
  refine ⟨r2, F2, env, m2, A2, (En.mono s1.onto).mono s2.onto, RdS.ahead ((En.mono s1.onto).mono s2.onto) h2 fun f m3 w r3 F3 H3 s3 A3 q3 h3 => ?_⟩
  split at h3
  · rename_i m4 hs
    unfold dputD at hs
    split at hs
    · rename_i jj kk hk
      split at hs
      · rename_i kvs hm
        split at hs
        · rename_i es he
          split at hs
          · rename_i hl
            cases hs
            have ew := q3.keyV hk
            subst ew
            cases q2 with
            | ref hi =>
              have hi3 := s3.ix hi
              obtain ⟨nF, ks, h0, rk⟩ := A3.own _ _ _ hi3 hm
              obtain ⟨es', e1, kr, _⟩ := rk.kvr
              rw [he] at e1
              cases e1
              have rv := (q1.mono s2.onto).mono s3.onto
              obtain ⟨st, A4⟩ := A3.write (o := .dK (putK ks kk v)) (y := .dct ((putD es kk d).map fun p => (keyD p.1, p.2))) hi3 hm nF ⟨_, h0⟩ ⟨nF, _, upd_same, (kr.put kk rv).rpk⟩
              exact ⟨_, _, rfl, DPut.k h0 (by rw [kr.length]; exact hl), h3 σ _ _ _ st A4 ((((En.mono s1.onto).mono s2.onto).mono s3.onto).mono st.onto)⟩
          · cases hs
        · cases hs
      · cases hs
    · cases hs
  · exact h3.elim
theorem chk_clr {o : T} {st : Stmt} (h : chk1 C (.clr o) st = true) : ∃ p ap pos pos2, st = .Expr (.Call (.Attribute p "clear" ap) [] [] pos) pos2 ∧ noCall0 p = true ∧ (ap.endLine == pos.line) = true ∧ chk C o p = true := by
  unfold chk1 at h
  split at h
  all_goals first
    | (rename_i heq; cases heq; done)
    | (rename_i heq; cases heq; simp only [Bool.and_eq_true, decide_eq_true_eq] at h; obtain ⟨⟨⟨rfl, h2⟩, h3⟩, h4⟩ := h; exact ⟨_, _, _, _, rfl, h2, h3, h4⟩; done)
    | (cases h; done)
theorem snd_clr (g : GdS X W C fs k) {o : T} {st : Stmt} (h : chk1 C (.clr o) st = true) : PS X st (tSt X W (evS fs (.clr o))) := by
  obtain ⟨p, ap, pos, pos2, rfl, h2, h3, h4⟩ := chk_clr h
  refine PS.imp (ps_expr (pe_dclear ((sndAll o X W C k g.toGdE).1 _ h4).v (base_plain h2) h3) rfl) ?_
  rintro D σ H ⟨rho, F, env, m, A, En, h⟩
  simp only [evS] at h
  refine ⟨rho, F, env, m, A, En, RdS.ahead En h fun d m1 v r1 F1 H1 s1 A1 q1 h1 => ?_⟩
  split at h1
  · rename_i m4 hs
    unfold clrD at hs
    split at hs
    · split at hs
      · rename_i kvs hm
        cases hs
        cases q1 with
        | ref hi =>
          obtain ⟨nF, ks, h0, rk⟩ := A1.own _ _ _ hi hm
          obtain ⟨st, A4⟩ := A1.write (o := .dK []) (y := .dct []) hi hm nF ⟨_, h0⟩ ⟨nF, [], upd_same, .nil⟩
          exact ⟨.inr (.inr (.inl ⟨rfl, .inl ⟨_, h0⟩⟩)), _, ks, rfl, rfl, h0, h1 σ _ _ _ st A4 ((En.mono s1.onto).mono st.onto)⟩
      · cases hs
    · cases hs
  · exact h1.elim
/-- a block: the induction's word -/
structure SndB (X : Cx) (W : WX) (C : Ck) (fs : List Sem) (s : S) : Prop where
  one : ∀ st, chk1 C s st = true → PS X st (tSt X W (evS fs s))
  blk : ∀ sts, chkB C s sts = true → PSs X sts (tSt X W (evS fs s))
theorem RdS.cons {K : PySem.W.Frag} {mg : Str → Option Value} {rho : List Addr} {F H : Hp} {D : Ends} {r : RS} {nx2 : L2.St → Hp → Prop} {q : RS} {f : Env → M → RS} (hq : q = match r with
    | .nx e m => f e m
    | x => x) (h : RdS K mg W rho F H D q) (hn : ∀ env m, r = .nx env m → ∀ σ rho' F' H', Step rho F H rho' F' H' → Abs K mg rho' F' H' m → RpEnv K mg rho' F' σ env → RdS K mg W rho' F' H' D (f env m) → nx2 σ H') : RdS K mg W rho F H { D with nx := nx2 } r := by
  subst hq
  cases r with
  | nx env m => exact fun σ r2 F2 H2 s A En => hn env m rfl σ r2 F2 H2 s A En (RdS.step (show RdS K mg W rho F H D (f env m) from h) s)
  | bk env m => exact h
  | ct env m => exact h
  | rt d m => exact h
  | ex c env m => exact h
  | no => exact h
theorem snd_for (g : GdS X W C fs k) {gg : G} {it : T} {b : S} {tg iter : Expr} {body : List Stmt} {pos : Pos} (hg : chkG C gg tg = true) (hi : chkI C tg it iter = true) (hs : noSet iter = true) (hb : PSs X body (tSt X W (evS fs b))) : PS X (.For tg iter body [] pos) (tSt X W (evS fs (.fr gg it b))) := by
  refine PS.imp (ps_for g.own g.calm (snd_iter g.toGdE (sndAll it) (fun a _ => sndAll a) (fun a b _ => ⟨sndAll a, sndAll b⟩) (fun k es _ => ⟨sndAll es, allS es⟩) hi) (sndG g.toGdE.t gg hg) hb (folded_plain hs)) ?_
  rintro D σ H ⟨rho, F, env, m, A, En, h⟩
  simp only [evS] at h
  refine ⟨rho, F, env, m, A, En, ?_⟩
  cases ei : evE fs it env m with
  | no => rw [ei] at h; exact h
  | ex c m1 => rw [ei] at h; exact fun cls dx r1 F1 H1 s1 A1 q => h cls dx σ r1 F1 H1 s1 A1 (En.mono s1.onto) q
  | ok d m1 =>
    rw [ei] at h
    simp only [R.st] at h ⊢
    cases ev : viewI d m1 with
    | none => rw [ev] at h; exact h
    | some xs =>
      rw [ev] at h
      simp only at h ⊢
      intro J r1 F1 H1 s1 A1 wk
      generalize hstep : (fun x env m => match asgG gg x env with
        | some env2 => evS fs b env2 m
        | none => RS.no) = step at h
      refine ⟨fun i n σ' Hi => n = xs.length - i ∧ i ≤ xs.length ∧ ∃ ri Fi envi mi, Step r1 F1 H1 ri Fi Hi ∧ Abs X.K X.mg ri Fi Hi mi ∧ RpEnv X.K X.mg ri Fi σ' envi ∧ RdS X.K X.mg W r1 F1 H1 D (forGo step (xs.drop i) envi mi), ?_, ?_⟩
      · exact ⟨xs.length, by simp, Nat.zero_le _, r1, F1, env, m1, Step.refl, A1, En.mono s1.onto, RdS.step (by simpa using h) s1⟩
      · rintro i n σ' Hi ⟨rfl, hle, ri, Fi, envi, mi, st, Ai, Eni, hq⟩
        by_cases hlt : i < xs.length
        · right
          have ex : xs[i]? = some xs[i] := by simp [hlt]
          obtain ⟨hgo, hy⟩ := wk.go i xs[i] ri Fi Hi mi ex st.onto Ai
          refine ⟨hgo, fun σ2 H2 => i + 1 ≤ xs.length ∧ ∃ ri Fi envi mi, Step r1 F1 H1 ri Fi H2 ∧ Abs X.K X.mg ri Fi H2 mi ∧ RpEnv X.K X.mg ri Fi σ2 envi ∧ RdS X.K X.mg W r1 F1 H1 D (forGo step (xs.drop (i + 1)) envi mi), ?_, ?_⟩
          · rintro σ2 H2 ⟨a, b⟩
            exact ⟨xs.length - (i + 1), by omega, rfl, a, b⟩
          · intro v H2 hyl
            obtain ⟨F3, st3, A3, rv⟩ := hy v H2 hyl
            have dr : xs.drop i = xs[i] :: xs.drop (i + 1) := List.drop_eq_getElem_cons hlt
            rw [dr] at hq
            simp only [forGo] at hq
            refine ⟨ri, F3, envi, mi, xs[i], A3, Eni.mono st3.onto, rv, ?_⟩
            have e0 : step xs[i] envi mi = match asgG gg xs[i] envi with
              | some env2 => evS fs b env2 mi
              | none => RS.no := by rw [← hstep]
            cases ea : asgG gg xs[i] envi with
            | none =>
              rw [ea] at e0
              rw [e0] at hq
              exact hq
            | some env2 =>
              rw [ea] at e0
              simp only at e0
              rw [e0] at hq
              intro σ2 En2 _
              refine ⟨ri, F3, env2, mi, A3, En2, ?_⟩
              cases eb : evS fs b env2 mi with
              | no => rw [eb] at hq; exact hq
              | nx e2 m2 => rw [eb] at hq; exact fun σ3 r4 F4 H4 s4 A4 En4 => ⟨hlt, r4, F4, e2, m2, (st.trans st3).trans s4, A4, En4, hq⟩
              | ct e2 m2 => rw [eb] at hq; exact fun σ3 r4 F4 H4 s4 A4 En4 => ⟨hlt, r4, F4, e2, m2, (st.trans st3).trans s4, A4, En4, hq⟩
              | bk e2 m2 => rw [eb] at hq; exact fun σ3 r4 F4 H4 s4 A4 En4 => hq σ3 r4 F4 H4 ((st.trans st3).trans s4) A4 En4
              | rt d2 m2 => rw [eb] at hq; exact fun u r4 F4 H4 s4 A4 q4 => hq u r4 F4 H4 ((st.trans st3).trans s4) A4 q4
              | ex c e2 m2 => rw [eb] at hq; exact fun cls dx σ3 r4 F4 H4 s4 A4 En4 q4 => hq cls dx σ3 r4 F4 H4 ((st.trans st3).trans s4) A4 En4 q4
        · left
          have e : i = xs.length := by omega
          subst e
          refine ⟨wk.stop ri Fi Hi mi st.onto Ai, ?_⟩
          simp only [List.drop_length, forGo] at hq
          exact hq σ' ri Fi Hi st Ai Eni
theorem snd_while (g : GdS X W C fs k) {n : Nat} {c : T} {b : S} {p : Expr} {body : List Stmt} {pos : Pos} (hc : chk C c p = true) (hb : PSs X body (tSt X W (evS fs b))) : PS X (.While p body [] pos) (tSt X W (evS fs (.wh n c b))) := by
  refine PS.imp (ps_while g.own ((sndAll c X W C k g.toGdE).1 _ hc).t hb) ?_
  rintro D σ H ⟨rho, F, env, m, A, En, h⟩
  simp only [evS] at h
  refine ⟨fun n σ' Hi => ∃ ri Fi envi mi, Step rho F H ri Fi Hi ∧ Abs X.K X.mg ri Fi Hi mi ∧ RpEnv X.K X.mg ri Fi σ' envi ∧ RdS X.K X.mg W rho F H D (whGo (evT fs c) (evS fs b) n envi mi), ⟨n, rho, F, env, m, Step.refl, A, En, h⟩, ?_⟩
  rintro j σ' Hi ⟨ri, Fi, envi, mi, st, Ai, Eni, hq⟩
  refine ⟨ri, Fi, envi, mi, Ai, Eni, ?_⟩
  cases j with
  | zero => exact False.elim hq
  | succ j =>
    simp only [whGo] at hq
    cases ec : evT fs c envi mi with
    | no => rw [ec] at hq; exact hq
    | ex x m1 => rw [ec] at hq; exact fun cls dx r1 F1 H1 s1 A1 q => hq cls dx σ' r1 F1 H1 (st.trans s1) A1 (Eni.mono s1.onto) q
    | ok t m1 =>
      rw [ec] at hq
      simp only [R.st] at hq
      intro tv r1 F1 H1 s1 A1 et
      subst et
      cases tv with
      | false => exact iteF (hq σ' r1 F1 H1 (st.trans s1) A1 (Eni.mono s1.onto))
      | true =>
        refine iteT ⟨fun σ2 H2 => ∃ ri Fi envi mi, Step rho F H ri Fi H2 ∧ Abs X.K X.mg ri Fi H2 mi ∧ RpEnv X.K X.mg ri Fi σ2 envi ∧ RdS X.K X.mg W rho F H D (whGo (evT fs c) (evS fs b) j envi mi), fun σ2 H2 q => ⟨j, Nat.lt_succ_self j, q⟩, ?_⟩
        refine ⟨r1, F1, envi, m1, A1, Eni.mono s1.onto, ?_⟩
        simp only [if_true] at hq
        cases eb : evS fs b envi m1 with
        | no => rw [eb] at hq; exact hq
        | nx e2 m2 => rw [eb] at hq; exact fun σ3 r4 F4 H4 s4 A4 En4 => ⟨r4, F4, e2, m2, (st.trans s1).trans s4, A4, En4, hq⟩
        | ct e2 m2 => rw [eb] at hq; exact fun σ3 r4 F4 H4 s4 A4 En4 => ⟨r4, F4, e2, m2, (st.trans s1).trans s4, A4, En4, hq⟩
        | bk e2 m2 => rw [eb] at hq; exact fun σ3 r4 F4 H4 s4 A4 En4 => hq σ3 r4 F4 H4 ((st.trans s1).trans s4) A4 En4
        | rt d2 m2 => rw [eb] at hq; exact fun u r4 F4 H4 s4 A4 q4 => hq u r4 F4 H4 ((st.trans s1).trans s4) A4 q4
        | ex x e2 m2 => rw [eb] at hq; exact fun cls dx σ3 r4 F4 H4 s4 A4 En4 q4 => hq cls dx σ3 r4 F4 H4 ((st.trans s1).trans s4) A4 En4 q4
theorem set_same {α : Type} : ∀ {l : List α} {i : Nat} {x : α}, l[i]? = some x → l.set i x = l
  | [], _, _, h => by simp at h
  | a :: l, 0, x, h => by simp at h; subst h; rfl
  | a :: l, i + 1, x, h => by
    simp only [List.set_cons_succ]
    rw [set_same (by simpa using h)]
/-- a dict may be locked ahead of a block -/
theorem pss_lock {sts : List Stmt} {t : TS} (h : PSs X sts t) : PSs X sts (fun D σ H => t D σ H ∨ ∃ p kvs, H p = some (.dK kvs) ∧ ∀ o, t D σ (upd H p (.frz o (.dK kvs)))) := ⟨fun pins s σ H D I q => by
  rcases q with q | ⟨p, kvs, hp, q⟩
  · exact h.run pins s σ H D I q
  · obtain ⟨o, J⟩ := I.lock hp trivial
    exact h.run pins s σ _ D J (q o)⟩
/-- an object of ours stands still from here on -/
theorem snd_frz {i : Nat} {r : S} {sts : List Stmt} (hr : PSs X sts (tSt X W (evS fs r))) : PSs X sts (tSt X W (evS fs (.cons (.frz i) r))) := by
  refine PSs.imp (pss_lock hr) ?_
  rintro D σ H ⟨rho, F, env, m, A, En, h⟩
  simp only [evS] at h
  cases ef : frzD i env m with
  | none => rw [ef] at h; exact h.elim
  | some em =>
    obtain ⟨env2, m2⟩ := em
    rw [ef] at h
    simp only at h
    unfold frzD at ef
    split at ef
    · rename_i kk he
      obtain ⟨v, hv, rv⟩ := En.2 i _ he
      cases rv with
      | ref hi =>
        have hil : i < env.length := (List.getElem?_eq_some_iff.mp he).1
        split at ef
        · rename_i ds hm
          cases ef
          obtain ⟨nF, vs, h0, rr⟩ := A.own _ _ _ hi hm
          obtain ⟨st, A2⟩ := A.freeze hi hm nF h0
          refine .inl ⟨rho, _, _, _, A2, ?_, RdS.step h st⟩
          have := (En.mono st.onto).set (v := V.ref _) (d := .lst ds) (.lst upd_same (rr.mono st.onto)) i
          rwa [set_same hv] at this
        · rename_i ds hm
          cases ef
          obtain ⟨nF, vs, h0, rr⟩ := A.own _ _ _ hi hm
          refine .inr ⟨_, vs, h0, fun o => ?_⟩
          obtain ⟨st, A2⟩ := A.write (o := .frz o (.dK vs)) (y := .gone) hi hm nF ⟨_, h0⟩ trivial
          have hm2 : (m.set kk .gone)[kk]? = some .gone := List.getElem?_set_self (List.getElem?_eq_some_iff.mp hm).1
          obtain ⟨st2, A3⟩ := A2.freeze hi hm2 nF upd_same
          rw [List.set_set] at A3
          refine ⟨rho, _, _, _, A3, ?_, RdS.step h (st.trans st2)⟩
          have := (En.mono (st.trans st2).onto).set (v := V.ref _) (d := .dct ds) (.dK upd_same (rr.mono (st.trans st2).onto)) i
          rwa [set_same hv] at this
        · cases ef
    · cases ef
end
end HB
namespace HB
open PySem L2
section
variable {fs : List Sem}
theorem chk_rai {C : Ck} {n f : Str} {fl : Bool} {e : T} {st : Stmt} (h : chk1 C (.rai n f fl e) st = true) : ∃ p q pos pos2, st = .Raise (some (.Call (.Name n p) [q] [] pos)) none pos2 ∧ glB C.sc n = true ∧ plainB q = true ∧ chk C e q = true ∧ (n, f, fl) ∈ C.tb.xcs := by
  unfold chk1 at h
  split at h
  all_goals try contradiction
  all_goals try (simp at h; done)
  rename_i h1
  cases h1
  simp only [Bool.and_eq_true, decide_eq_true_eq, List.contains_iff_mem] at h
  obtain ⟨⟨⟨⟨rfl, h2⟩, h3⟩, h4⟩, h5⟩ := h
  exact ⟨_, _, _, _, rfl, h2, h3, h4, h5⟩
theorem chk_try1 {C : Ck} {b : S} {x : Str} {tbl : List (Str × Bool)} {i : Nat} {e : XT} {st : Stmt} (h : chk1 C (.try1 b x tbl i e) st = true) : ∃ body np nm p rp hp pos, st = .Try body [.ExceptHandler (some (.Name x np)) (some nm) [.Return (some p) rp] hp] [] [] pos ∧
    glB C.sc x = true ∧ C.N[i]? = some nm ∧ C.sc.names.lookup nm = some .local ∧ okN nm = true ∧ tbl ≠ [] ∧ (∀ r ∈ tbl, (r.1, x, r.2) ∈ C.tb.xsub) ∧ chkX nm C.tb.xcs e p = true ∧ chkB C b body = true := by
  unfold chk1 at h
  split at h
  all_goals try contradiction
  all_goals try (simp at h; done)
  rename_i h1
  cases h1
  simp only [Bool.and_eq_true, decide_eq_true_eq, List.all_eq_true, List.contains_iff_mem, Bool.not_eq_true', List.isEmpty_eq_false_iff] at h
  obtain ⟨⟨⟨⟨⟨⟨⟨⟨rfl, h2⟩, h3⟩, h4⟩, h5⟩, h9⟩, h6⟩, h7⟩, h8⟩ := h
  exact ⟨_, _, _, _, _, _, _, rfl, h2, h3, h4, h5, h9, h6, h7, h8⟩
theorem snd_rai {n f : Str} {fl : Bool} {e : T} {X : Cx} {W : WX} {C : Ck} {k : Nat} (g : GdS X W C fs k) {st : Stmt} (h : chk1 C (.rai n f fl e) st = true) : PS X st (tSt X W (evS fs (.rai n f fl e))) := by
  obtain ⟨p, q, pos, pos2, rfl, h1, h2, h3, h4⟩ := chk_rai h
  obtain ⟨vn, Cl, fI, T, hv, hd⟩ := g.tb.xok _ _ _ h4
  obtain ⟨gl, _, _⟩ := gl_of g.toGdE h1
  refine PS.imp (ps_raise g.calm g.tk (pmk_x T hv g.tb.sup g.room (pa_cons ((sndAll e X W C k g.toGdE).1 _ h3).v pa_nil (star_cons h2)) gl hd (star_cons h2) rfl)) ?_
  rintro D σ H ⟨rho, F, env, m, A, En, h⟩
  simp only [evS] at h
  refine ⟨rho, F, env, m, A, En, RdS.ahead En h fun d m1 v r1 F1 H1 s1 A1 q1 h1 => ?_⟩
  split at h1
  · rename_i hp
    refine ⟨v, rfl, pvV_of hp q1, fun dx nd => ?_⟩
    obtain ⟨st, A'⟩ := A1.fresh (o := .xd [(f, v)]) nd
    exact h1 _ _ σ _ _ _ st A' ((En.mono s1.onto).mono st.onto) (.own T.gC upd_same (.cons (q1.mono st.onto) .nil))
  · exact h1.elim
theorem chk_rai0 {C : Ck} {n : Str} {st : Stmt} (h : chk1 C (.rai0 n) st = true) : ∃ p t k q pos pos2, st = .Raise (some (.Call (.Name n p) [.Constant (.str t) k q] [] pos)) none pos2 ∧ glB C.sc n = true ∧ n ∈ C.tb.xc0 := by
  unfold chk1 at h
  split at h
  all_goals try contradiction
  all_goals try (simp at h; done)
  rename_i h1
  cases h1
  simp only [Bool.and_eq_true, decide_eq_true_eq, List.contains_iff_mem] at h
  obtain ⟨⟨rfl, h2⟩, h3⟩ := h
  exact ⟨_, _, _, _, _, _, rfl, h2, h3⟩
theorem snd_rai0 {n : Str} {X : Cx} {W : WX} {C : Ck} {k : Nat} (g : GdS X W C fs k) {st : Stmt} (h : chk1 C (.rai0 n) st = true) : PS X st (tSt X W (evS fs (.rai0 n))) := by
  obtain ⟨p, t, kk, q, pos, pos2, rfl, h1, h4⟩ := chk_rai0 h
  obtain ⟨Cl, B, newId, initId, bmB, T, ei, gC, kC, exC, tyC, hdb⟩ := g.tb.xo0 _ h4
  obtain ⟨gl, _, _⟩ := gl_of g.toGdE h1
  refine PS.imp (ps_raise g.calm g.tk (pmk_own T ei gC kC (raises_own exC tyC) gl hdb)) ?_
  rintro D σ H ⟨rho, F, env, m, A, En, h⟩
  simp only [evS] at h
  exact h _ _ σ _ _ _ Step.refl A En (.bare gC)
/-! ### several clauses -/
def vOf : D → V
  | .bl b => .bl b
  | .int i => .int i
  | .str x => .str x
  | _ => .non
theorem chkD_pe {X : Cx} {d : D} {e : Expr} (h : chkD d e = true) : PE X e (tC (vOf d)) := by
  unfold chkD at h
  split at h
  · exact pe_non
  · rename_i b c _ _
    have e := eq_of_beq h
    subst e; exact pe_bl
  · simp only [decide_eq_true_eq] at h
    subst h; exact pe_int
  · simp only [decide_eq_true_eq] at h
    subst h; exact pe_str
  · cases h
theorem chkD_rp {K : PySem.W.Frag} {mg : Str → Option Value} {rho : List Addr} {F : Hp} {d : D} {e : Expr} (h : chkD d e = true) : Rp K mg rho F (vOf d) d := by
  unfold chkD at h
  split at h
  · exact .non
  · exact .bl
  · exact .int
  · exact .str
  · cases h
theorem hs_ok {X : Cx} {W : WX} {C : Ck} {k : Nat} (g : GdS X W C fs k) : ∀ {hs : List (Str × List (Str × Bool) × D)} {hds : List ExceptHandler}, chkHs C hs hds = true →
    ∃ l, HdsOk X hds l ∧ ∀ (W' : WX) (D : Ends) (rho : List Addr) (F H : Hp) (m : M) (σ : L2.St) (env : Env) (c : Exc) (cls : Value) (dx : Option Addr), Abs X.K X.mg rho F H m → RpEnv X.K X.mg rho F σ env → RpX X.K X.mg rho F c cls dx →
      RdS X.K X.mg W' rho F H D (hsGo c env m hs) → wMany X.K W' D l cls dx σ H
  | [], [], _ => ⟨[], .nil, fun W' D rho F H m σ env c cls dx A En rx h => h cls dx σ _ _ _ Step.refl A En rx⟩
  | (x, tbl, d) :: hs, [], h => by simp [chkHs] at h
  | [], _ :: _, h => by simp [chkHs] at h
  | (x, tbl, d) :: hs, hd :: hds, h => by
    obtain ⟨np, p, rp, hp, rfl, h1, h2, h3, h4, h5⟩ : ∃ np p rp hp, hd = .ExceptHandler (some (.Name x np)) none [.Return (some p) rp] hp ∧ glB C.sc x = true ∧ tbl ≠ [] ∧ (∀ r ∈ tbl, (r.1, x, r.2) ∈ C.tb.xsub) ∧ chkD d p = true ∧ chkHs C hs hds = true := by
      unfold chkHs at h
      split at h
      all_goals try contradiction
      rename_i e1 e2
      cases e1
      cases e2
      simp only [Bool.and_eq_true, decide_eq_true_eq, List.all_eq_true, List.contains_iff_mem, Bool.not_eq_true', List.isEmpty_eq_false_iff] at h
      obtain ⟨⟨⟨⟨⟨rfl, h2⟩, h3⟩, h4⟩, h5⟩, h6⟩ := h
      exact ⟨_, _, _, _, rfl, h2, h3, h4, h5, h6⟩
    obtain ⟨l, l1, l2⟩ := hs_ok g h5
    obtain ⟨gl, gd, _⟩ := gl_of g.toGdE h1
    obtain ⟨r0, hr0⟩ : ∃ r0, r0 ∈ tbl := List.exists_mem_of_ne_nil _ h2
    obtain ⟨_, B, _, hx, _⟩ := g.tb.xsb _ _ _ (h3 _ hr0)
    refine ⟨(.ref B, fun a cls d' => fun D σ H => D.rt (vOf d) H) :: l, .cons ⟨gl, gd, .inl hx⟩ (fun a oe cls d' pn hz hf => pss_one (ps_ret (chkD_pe h4))) l1, ?_⟩
    intro W' D rho F H m σ env c cls dx A En rx h
    simp only [hsGo] at h
    cases lk : tbl.lookup c.name with
    | none => rw [lk] at h; exact h.elim
    | some yes =>
      rw [lk] at h
      obtain ⟨Ac, Bc, m1, m2', ex⟩ := g.tb.xsb _ _ _ (h3 _ (lookup_in lk))
      have eB : Bc = B := by
        have := Option.some.inj (m2'.symm.trans hx)
        cases this; rfl
      have eA : cls = .ref Ac := by
        cases rx with
        | bare q => exact Option.some.inj (q.symm.trans m1)
        | own q _ _ => exact Option.some.inj (q.symm.trans m1)
      subst eB eA
      refine ⟨yes, ex, fun hy a na => ?_, fun hy => ?_⟩
      · subst hy
        exact h _ _ _ _ Step.refl A (chkD_rp h4)
      · subst hy
        exact l2 W' D rho F H m σ env c _ dx A En rx h
theorem chk_tryM {C : Ck} {b : S} {hs : List (Str × List (Str × Bool) × D)} {st : Stmt} (h : chk1 C (.tryM b hs) st = true) : ∃ body hds pos, st = .Try body hds [] [] pos ∧ chkHs C hs hds = true ∧ hs ≠ [] ∧ chkB C b body = true := by
  unfold chk1 at h
  split at h
  all_goals try contradiction
  all_goals try (simp at h; done)
  rename_i h1
  cases h1
  simp only [Bool.and_eq_true, Bool.not_eq_true', List.isEmpty_eq_false_iff] at h
  exact ⟨_, _, _, rfl, h.1.1, h.1.2, h.2⟩
theorem snd_tryM {b : S} {hs : List (Str × List (Str × Bool) × D)} {X : Cx} {W : WX} {C : Ck} {k : Nat} (ib : ∀ {X : Cx} {W : WX} {C : Ck} {k : Nat}, GdS X W C fs k → SndB X W C fs b) (g : GdS X W C fs k) {st : Stmt} (h : chk1 C (.tryM b hs) st = true) : PS X st (tSt X W (evS fs (.tryM b hs))) := by
  obtain ⟨body, hds, pos, rfl, h1, h2, h3⟩ := chk_tryM h
  obtain ⟨l, l1, l2⟩ := hs_ok g h1
  cases hds with
  | nil =>
    cases hs with
    | nil => exact absurd rfl h2
    | cons a r => obtain ⟨x, tbl, d⟩ := a; simp [chkHs] at h1
  | cons h0 hds =>
    refine PS.imp (ps_try_many (tb := fun W => tSt X W (evS fs b)) (Wout := W) g.stk g.frm g.tk ?_ l1) ?_
    · intro W' pn xe tk own
      have g' : GdS (X.tr pn xe) W' C fs k := { g with tk := tk, own := own }
      exact (ib g').blk _ h3
    · rintro D σ H ⟨rho, F, env, m, A, En, h⟩
      refine ⟨rho, F, env, m, A, En, ?_⟩
      simp only [evS] at h
      cases ev : evS fs b env m with
      | nx e2 m2 => rw [ev] at h; exact h
      | rt d2 m2 => rw [ev] at h; exact h
      | bk e2 m2 => rw [ev] at h; exact h
      | ct e2 m2 => rw [ev] at h; exact h
      | no => rw [ev] at h; exact h
      | ex c e2 m2 =>
        rw [ev] at h
        simp only at h
        intro cls dx σ2 r2 F2 H2 s2 A2 En2 rx
        exact l2 _ D r2 F2 H2 m2 σ2 e2 c cls dx A2 En2 rx (RdS.step h s2)
theorem lookup_mem {α β : Type} [BEq α] [LawfulBEq α] {a : α} {b : β} : ∀ {l : List (α × β)}, l.lookup a = some b → (a, b) ∈ l
  | [], h => by cases h
  | (x, y) :: l, h => by
    simp only [List.lookup] at h
    split at h
    · rename_i e
      have := eq_of_beq e
      subst this; cases h
      exact List.mem_cons_self
    · exact List.mem_cons_of_mem _ (lookup_mem h)
theorem evX_noex : ∀ (e : XT) (c : Exc), (∀ m c' m', evX c e m ≠ .ex c' m') ∧ (∀ m c' m', evXA c e m ≠ .ex c' m') := by
  have bnd : ∀ {α β : Type} {r : R α} {k : α → M → R β} {c' : Exc} {m' : M}, (∀ c m, r ≠ .ex c m) → (∀ a m c m', k a m ≠ .ex c m') → r.bind k ≠ .ex c' m' := by
    intro α β r k c' m' h1 h2
    cases r with
    | ok a m => exact h2 a m c' m'
    | ex c m => exact absurd rfl (h1 c m)
    | no => exact nofun
  intro e c
  induction e with
  | fld ns f =>
    refine ⟨fun m c' m' => ?_, fun m c' m' => by simp [evXA]⟩
    simp only [evX]
    split
    · split <;> exact nofun
    · exact nofun
  | non => exact ⟨fun m c' m' => by simp [evX], fun m c' m' => by simp [evXA]⟩
  | bl b => exact ⟨fun m c' m' => by simp [evX], fun m c' m' => by simp [evXA]⟩
  | int b => exact ⟨fun m c' m' => by simp [evX], fun m c' m' => by simp [evXA]⟩
  | str b => exact ⟨fun m c' m' => by simp [evX], fun m c' m' => by simp [evXA]⟩
  | tup es ih =>
    refine ⟨fun m c' m' => ?_, fun m c' m' => by simp [evXA]⟩
    simp only [evX]
    exact bnd (ih.2 m) fun a m c m' => by split <;> exact nofun
  | lst es ih =>
    refine ⟨fun m c' m' => ?_, fun m c' m' => by simp [evXA]⟩
    simp only [evX]
    exact bnd (ih.2 m) fun a m c m' => by split <;> exact nofun
  | nil => exact ⟨fun m c' m' => by simp [evX], fun m c' m' => by simp [evXA]⟩
  | cons x es i1 i2 =>
    refine ⟨fun m c' m' => by simp [evX], fun m c' m' => ?_⟩
    simp only [evXA]
    exact bnd (i1.1 m) fun a m c m' => bnd (i2.2 m) fun a m c m' => nofun
  | add x y i1 i2 =>
    refine ⟨fun m c' m' => ?_, fun m c' m' => by simp [evXA]⟩
    simp only [evX]
    exact bnd (i1.1 m) fun a m c m' => bnd (i2.1 m) fun b m c m' => bop_noex (o := .add)
theorem snd_try1 {b : S} {x : Str} {tbl : List (Str × Bool)} {i : Nat} {e : XT} {X : Cx} {W : WX} {C : Ck} {k : Nat} (ib : ∀ {X : Cx} {W : WX} {C : Ck} {k : Nat}, GdS X W C fs k → SndB X W C fs b) (g : GdS X W C fs k) {st : Stmt} (h : chk1 C (.try1 b x tbl i e) st = true) : PS X st (tSt X W (evS fs (.try1 b x tbl i e))) := by
  obtain ⟨body, np, nm, p, rp, hp, pos, rfl, h1, h2, h3, h4, ht, h5, h6, h7⟩ := chk_try1 h
  obtain ⟨gl, gd, _⟩ := gl_of g.toGdE h1
  obtain ⟨o1, o2, o3⟩ := okN_of h4
  have hl : X.env.kindOf nm = some .local := by
    show X.env.scope.names.lookup nm = _
    rw [g.sc]; exact h3
  obtain ⟨r0, hr0⟩ : ∃ r0, r0 ∈ tbl := List.exists_mem_of_ne_nil _ ht
  obtain ⟨_, Cx', _, hx, _⟩ := g.tb.xsb _ _ _ (h5 _ hr0)
  refine PS.imp (ps_try_as (i := i) (c := .ref Cx') (tb := fun W => tSt X W (evS fs b)) (ts := fun a cls d => fun D σ H => tX X i a cls d (fun c m => evX c e m) σ H D.rt) (Wout := W) g.stk g.frm g.nd (by rw [g.N]; exact h2) hl ⟨gl, gd, .inl hx⟩ g.tk ?_ ?_) ?_
  · intro W' pn xe tk own
    have g' : GdS (X.tr pn xe) W' C fs k := { g with tk := tk, own := own }
    exact (ib g').blk _ h7
  · intro a oe cls d pn hz hf
    exact pss_one (ps_ret ((sndX (X := X) (i := i) (n := nm) (xcs := C.tb.xcs) (a := a) (oe := oe) (cls := cls) (d := d) (pn := pn) (by rw [g.N]; exact h2) (.inl hl) o1 o2 g.tb.xok hz hf e).1 _ h6))
  · rintro D σ H ⟨rho, F, env, m, A, En, h⟩
    refine ⟨rho, F, env, m, A, En, ?_⟩
    simp only [evS] at h
    cases ev : evS fs b env m with
    | nx e2 m2 => rw [ev] at h; exact h
    | rt d2 m2 => rw [ev] at h; exact h
    | bk e2 m2 => rw [ev] at h; exact h
    | ct e2 m2 => rw [ev] at h; exact h
    | no => rw [ev] at h; exact h
    | ex c e2 m2 =>
      rw [ev] at h
      simp only at h
      intro cls dx σ2 r2 F2 H2 s2 A2 En2 rx
      cases lk : tbl.lookup c.name with
      | none => rw [lk] at h; exact h.elim
      | some yes =>
        rw [lk] at h
        obtain ⟨Ac, Bc, m1, m2', ex⟩ := g.tb.xsb _ _ _ (h5 _ (lookup_mem lk))
        have eB : Bc = Cx' := by
          have := Option.some.inj (m2'.symm.trans hx)
          cases this; rfl
        have eA : cls = .ref Ac := by
          cases rx with
          | bare q => exact Option.some.inj (q.symm.trans m1)
          | own q _ _ => exact Option.some.inj (q.symm.trans m1)
        subst eB eA
        refine ⟨yes, ex, fun hy a na => ?_, fun hy => ?_⟩
        · subst hy
          simp only at h
          split at h
          · rename_i il
            have rd := h
            refine ⟨r2, F2, c, m2, A2, rx, ?_, ?_⟩
            · rw [List.getElem?_set_self (by rw [En2.1]; exact il)]
            · cases ee : evX c e m2 with
              | ok d3 m3 =>
                rw [ee] at h
                show RdE _ _ _ _ _ _ _ _ _ (evX c e m2)
                rw [ee]
                exact fun v r3 F3 H3 s3 A3 q3 => h v _ _ _ (s2.trans s3) A3 q3
              | ex c3 m3 => exact absurd ee ((evX_noex e c).1 _ _ _)
              | no => rw [ee] at h; exact h.elim
          · exact h.elim
        · subst hy
          exact h _ _ _ _ _ _ s2 A2 En2 rx
theorem sndS : ∀ (s : S) {X : Cx} {W : WX} {C : Ck} {k : Nat}, GdS X W C fs k → SndB X W C fs s := by
  intro s
  induction s with
  | nil =>
    intro X W C k g
    refine ⟨fun st h => by cases st <;> simp [chk1] at h, fun sts h => ?_⟩
    cases sts with
    | nil =>
      refine PSs.imp pss_nil ?_
      rintro D σ H ⟨rho, F, env, m, A, En, h⟩
      simp only [evS] at h
      exact h σ _ _ _ Step.refl A En
    | cons st sts => simp [chkB] at h
  | cons s r is ir =>
    intro X W C k g
    refine ⟨fun st h => by cases st <;> simp [chk1] at h, fun sts h => ?_⟩
    by_cases hz : ∃ i, s = .frz i
    · obtain ⟨i, rfl⟩ := hz
      simp only [chkB] at h
      exact snd_frz ((ir g).blk _ h)
    · cases sts with
      | nil => cases s <;> first | (simp [chkB] at h; done) | exact absurd ⟨_, rfl⟩ hz
      | cons st sts =>
        have h2 : chk1 C s st = true ∧ chkB C r sts = true := by
          cases s <;> first | exact absurd ⟨_, rfl⟩ hz | simpa only [chkB, Bool.and_eq_true] using h
        refine PSs.imp (pss_cons ((is g).one st h2.1) ((ir g).blk sts h2.2)) ?_
        rintro D σ H ⟨rho, F, env, m, A, En, h⟩
        simp only [evS] at h
        refine ⟨rho, F, env, m, A, En, RdS.cons (f := evS fs r) rfl h fun e2 m2 _ σ2 r2 F2 H2 s2 A2 En2 h2 => ⟨r2, F2, e2, m2, A2, En2, h2⟩⟩
  | asg gg e =>
    intro X W C k g
    refine ⟨fun st h => ?_, fun sts h => by cases sts <;> simp [chkB] at h⟩
    cases st with
    | Assign ts v pos =>
      match ts, h with
      | [tg], h =>
        simp only [chk1, Bool.and_eq_true] at h
        obtain ⟨⟨⟨h1, h2⟩, h3⟩, h4⟩ := h
        exact snd_asg g h1 h2 h3 h4
      | [], h => simp [chk1] at h
      | _ :: _ :: _, h => simp [chk1] at h
    | _ => simp [chk1] at h
  | par i j a b =>
    intro X W C k g
    refine ⟨fun st h => ?_, fun sts h => by cases sts <;> simp [chkB] at h⟩
    have h0 := h
    unfold chk1 at h
    split at h
    all_goals first
      | (rename_i heq; cases heq; done)
      | (rename_i heq; cases heq; exact snd_par g h0; done)
      | (cases h; done)
  | par3 i j l a b c =>
    intro X W C k g
    refine ⟨fun st h => ?_, fun sts h => by cases sts <;> simp [chkB] at h⟩
    have h0 := h
    unfold chk1 at h
    split at h
    all_goals first
      | (rename_i heq; cases heq; done)
      | (rename_i heq; cases heq; exact snd_par3 g h0; done)
      | (cases h; done)
  | setix o i e =>
    intro X W C k g
    refine ⟨fun st h => ?_, fun sts h => by cases sts <;> simp [chkB] at h⟩
    have h0 := h
    unfold chk1 at h
    split at h
    all_goals first
      | (rename_i heq; cases heq; done)
      | (rename_i heq; cases heq; exact snd_setix g h0; done)
      | (cases h; done)
  | app o e =>
    intro X W C k g
    refine ⟨fun st h => ?_, fun sts h => by cases sts <;> simp [chkB] at h⟩
    have h0 := h
    unfold chk1 at h
    split at h
    all_goals first
      | (rename_i heq; cases heq; done)
      | (rename_i heq; cases heq; exact snd_app g h0; done)
      | (cases h; done)
  | exp e =>
    intro X W C k g
    refine ⟨fun st h => ?_, fun sts h => by cases sts <;> simp [chkB] at h⟩
    have h0 := h
    unfold chk1 at h
    split at h
    all_goals first
      | (rename_i heq; cases heq; done)
      | (rename_i heq; cases heq; (simp only [Bool.and_eq_true] at h; refine PS.imp (ps_expr ((sndAll e X W C k g.toGdE).1 _ h.2).v (sw_plain h.1)) ?_; rintro D σ H ⟨rho, F, env, m, A, En, h⟩; simp only [evS] at h; exact ⟨rho, F, env, m, A, En, RdS.ahead En h fun d m1 v r1 F1 H1 s1 A1 q1 h1 => h1 σ _ _ _ Step.refl A1 (En.mono s1.onto)⟩); done)
      | (cases h; done)
  | ret e =>
    intro X W C k g
    refine ⟨fun st h => ?_, fun sts h => by cases sts <;> simp [chkB] at h⟩
    have h0 := h
    unfold chk1 at h
    split at h
    all_goals first
      | (rename_i heq; cases heq; done)
      | (rename_i heq; cases heq; (refine PS.imp (ps_ret ((sndAll e X W C k g.toGdE).1 _ h).v) ?_; rintro D σ H ⟨rho, F, env, m, A, En, h⟩; simp only [evS] at h; exact ⟨rho, F, env, m, A, En, RdS.ahead En h fun d m1 v r1 F1 H1 s1 A1 q1 h1 => h1 v _ _ _ Step.refl A1 q1⟩); done)
      | (cases h; done)
  | retN =>
    intro X W C k g
    refine ⟨fun st h => ?_, fun sts h => by cases sts <;> simp [chkB] at h⟩
    have h0 := h
    unfold chk1 at h
    split at h
    all_goals first
      | (rename_i heq; cases heq; done)
      | (rename_i heq; cases heq; (refine PS.imp ps_retN ?_; rintro D σ H ⟨rho, F, env, m, A, En, h⟩; simp only [evS] at h; exact h _ _ _ _ Step.refl A .non); done)
      | (cases h; done)
  | ife c a b ia ib =>
    intro X W C k g
    refine ⟨fun st h => ?_, fun sts h => by cases sts <;> simp [chkB] at h⟩
    have h0 := h
    unfold chk1 at h
    split at h
    all_goals first
      | (rename_i heq; cases heq; done)
      | (rename_i heq; cases heq; (simp only [Bool.and_eq_true] at h; refine PS.imp (ps_if ((sndAll c X W C k g.toGdE).1 _ h.1.1).t ((ia g).blk _ h.1.2) ((ib g).blk _ h.2)) ?_; rintro D σ H ⟨rho, F, env, m, A, En, h⟩; simp only [evS] at h; exact ⟨rho, F, env, m, A, En, RdS.ahead En h fun t m1 v r1 F1 H1 s1 A1 q1 h1 => by (subst q1; cases v <;> exact ⟨r1, F1, env, m1, A1, En.mono s1.onto, by simpa using h1⟩)⟩); done)
      | (cases h; done)
  | fr gg it b ib =>
    intro X W C k g
    refine ⟨fun st h => ?_, fun sts h => by cases sts <;> simp [chkB] at h⟩
    have h0 := h
    unfold chk1 at h
    split at h
    all_goals first
      | (rename_i heq; cases heq; done)
      | (rename_i heq; cases heq; (simp only [Bool.and_eq_true] at h; exact snd_for g h.1.1.1 h.1.1.2 h.1.2 ((ib g).blk _ h.2)); done)
      | (cases h; done)
  | wh n c b ib =>
    intro X W C k g
    refine ⟨fun st h => ?_, fun sts h => by cases sts <;> simp [chkB] at h⟩
    have h0 := h
    unfold chk1 at h
    split at h
    all_goals first
      | (rename_i heq; cases heq; done)
      | (rename_i heq; cases heq; (simp only [Bool.and_eq_true] at h; exact snd_while g h.1 ((ib g).blk _ h.2)); done)
      | (cases h; done)
  | pass =>
    intro X W C k g
    refine ⟨fun st h => ?_, fun sts h => by cases sts <;> simp [chkB] at h⟩
    have h0 := h
    unfold chk1 at h
    split at h
    all_goals first
      | (rename_i heq; cases heq; done)
      | (rename_i heq; cases heq; (refine PS.imp ps_pass ?_; rintro D σ H ⟨rho, F, env, m, A, En, h⟩; simp only [evS] at h; exact h σ _ _ _ Step.refl A En); done)
      | (cases h; done)
  | brk =>
    intro X W C k g
    refine ⟨fun st h => ?_, fun sts h => by cases sts <;> simp [chkB] at h⟩
    have h0 := h
    unfold chk1 at h
    split at h
    all_goals first
      | (rename_i heq; cases heq; done)
      | (rename_i heq; cases heq; (refine PS.imp ps_break ?_; rintro D σ H ⟨rho, F, env, m, A, En, h⟩; simp only [evS] at h; exact h σ _ _ _ Step.refl A En); done)
      | (cases h; done)
  | cont =>
    intro X W C k g
    refine ⟨fun st h => ?_, fun sts h => by cases sts <;> simp [chkB] at h⟩
    have h0 := h
    unfold chk1 at h
    split at h
    all_goals first
      | (rename_i heq; cases heq; done)
      | (rename_i heq; cases heq; (refine PS.imp ps_continue ?_; rintro D σ H ⟨rho, F, env, m, A, En, h⟩; simp only [evS] at h; exact h σ _ _ _ Step.refl A En); done)
      | (cases h; done)
  | rai0 n =>
    intro X W C k g
    exact ⟨fun st h => snd_rai0 g h, fun sts h => by cases sts <;> simp [chkB] at h⟩
  | tryM b hs ib =>
    intro X W C k g
    exact ⟨fun st h => snd_tryM ib g h, fun sts h => by cases sts <;> simp [chkB] at h⟩
  | rai n f fl e =>
    intro X W C k g
    exact ⟨fun st h => snd_rai g h, fun sts h => by cases sts <;> simp [chkB] at h⟩
  | try1 b x tbl i e ib =>
    intro X W C k g
    exact ⟨fun st h => snd_try1 ib g h, fun sts h => by cases sts <;> simp [chkB] at h⟩
  | frz i =>
    intro X W C k g
    exact ⟨fun st h => by cases st <;> simp [chk1] at h, fun sts h => by cases sts <;> simp [chkB] at h⟩
  | setf o f cs e =>
    intro X W C k g
    exact ⟨fun st h => snd_setf g h, fun sts h => by cases sts <;> simp [chkB] at h⟩
  | dput o i e =>
    intro X W C k g
    exact ⟨fun st h => snd_dput g h, fun sts h => by cases sts <;> simp [chkB] at h⟩
  | clr o =>
    intro X W C k g
    exact ⟨fun st h => snd_clr g h, fun sts h => by cases sts <;> simp [chkB] at h⟩
end
/-! ### a def of the text -/
/-- what a body comes to -/
def runB (fs : List Sem) (n : Nat) (b : S) : Sem := fun ds m => match evS fs b (ds.map some ++ List.replicate (n - ds.length) none) m with
  | .nx _ m => .ok .non m
  | .rt d m => .ok d m
  | .ex c _ m => .ex c m
  | _ => .no
end HB
namespace HB
open PySem L2
/-- the world of a law: what its top has left -/
structure Wld (K : PySem.W.Frag) (mg : Str → Option Value) (base : Heap) : Prop where
  bs : ∃ o, base.get? sysModules = some o
  nob : ∀ x ∈ bltAll, mg x = none
section
variable {P : Program} {w : World} {K : PySem.W.Frag} {mg : Str → Option Value} {base : Heap}
theorem rp_start {rho : List Addr} {F : Hp} {vs : List V} {ds : List D} {n : Nat} (r : RpL K mg rho F vs ds) : RpEnv K mg rho F (vs.map some ++ List.replicate (n - vs.length) none) (ds.map some ++ List.replicate (n - ds.length) none) := by
  refine ⟨by simp [r.length], fun i d h => ?_⟩
  by_cases hi : i < ds.length
  · rw [List.getElem?_append_left (by simpa using hi), List.getElem?_map] at h
    cases e : ds[i]? with
    | none => rw [e] at h; cases h
    | some d' =>
      rw [e] at h
      cases h
      obtain ⟨v, hv, rv⟩ := r.get e
      refine ⟨v, ?_, rv⟩
      rw [List.getElem?_append_left (by simpa [r.length] using hi), List.getElem?_map, hv]
      rfl
  · rw [List.getElem?_append_right (by simpa using hi), List.getElem?_replicate] at h
    split at h <;> cases h
/-- all that a def calls -/
structure Cls4 (P : Program) (w : World) (K : PySem.W.Frag) (mg : Str → Option Value) (base : Heap) (k : Nat) (fns : List (Str × Nat)) (mths : List (Str × Str × Nat)) (prps : List (Str × Str)) (mkrs : List (Str × Nat × Option (Str × Int))) (fs : List Sem) : Prop where
  len : fns.length + mths.length + prps.length + mkrs.length ≤ fs.length
  fok : ∀ (j : Nat) y n sem, fns[j]? = some (y, n) → fs[j]? = some sem → Callee P w K mg base k y n sem
  mok : ∀ (j : Nat) c y n sem, mths[j]? = some (c, y, n) → fs[fns.length + j]? = some sem → Mth P w K mg base k c y n sem
  pok : ∀ (j : Nat) c y sem, prps[j]? = some (c, y) → fs[fns.length + mths.length + j]? = some sem → Prp P w K mg base k c y sem
  cok : ∀ (j : Nat) c n kw sem, mkrs[j]? = some (c, n, kw) → fs[fns.length + mths.length + prps.length + j]? = some sem → Mkr P w K mg base k c n kw sem
theorem def_ok {x qual : Str} {st : Stmt} {f : Addr} {fd : FuncData} {N ps : List Str} {k : Nat} {fns : List (Str × Nat)} {mths : List (Str × Str × Nat)} {prps : List (Str × Str)} {mkrs : List (Str × Nat × Option (Str × Int))} {fs : List Sem} {tb : Tb} {b : S} (Wd : Wld K mg base) (Fn : FunX K x qual st f fd) (Sc : FnScope N ps (defScope st)) (hc : chkB ⟨N, defScope st, none, fns, mths, prps, mkrs, tb⟩ b (defBody st) = true)
    (cs : Cls4 P w K mg base k fns mths prps mkrs fs) (ht : TbOk P w K mg tb) :
    FnG P w K mg base (k + 1) f fd ps (spD K mg ps.length (runB fs N.length b)) := by
  refine fnG_of Fn Sc fun cdv B fr s H vs Q E room gd hlen want => ?_
  have g : GdS (cxOf (L2.CX P w) P w K mg base N qual (defScope st) f cdv B fr s H E) (fun cls d _ H => E cls d H) ⟨N, defScope st, none, fns, mths, prps, mkrs, tb⟩ fs k :=
    { N := rfl, sc := rfl, fn := fun _ _ => rfl, nd := Sc.nd, calm := rfl, room := room, gd := gd, tk := takes_of rfl rfl rfl rfl, fl := by have := cs.len; show fns.length ≤ fs.length; omega, fl4 := cs.len, fok := cs.fok, mok := cs.mok, pok := cs.pok, cok := cs.cok, tb := ht, bs := Wd.bs, nob := Wd.nob, own := passes_of rfl, stk := rfl, frm := rfl, kind := Sc.kind, rw0 := rfl }
  refine ⟨_, (sndS b g).blk _ hc, ?_⟩
  obtain ⟨_, rho, F, ds, m, A, r, h⟩ := want
  refine ⟨rho, F, ds.map some ++ List.replicate (N.length - ds.length) none, m, A, rp_start r, ?_⟩
  unfold runB at h
  cases e : evS fs b (ds.map some ++ List.replicate (N.length - ds.length) none) m with
  | no => rw [e] at h; exact h
  | nx env m2 => rw [e] at h; exact fun σ r2 F2 H2 s2 A2 _ => h _ r2 F2 H2 s2 A2 .non
  | rt d m2 => rw [e] at h; exact h
  | bk env m2 => rw [e] at h; exact h.elim
  | ct env m2 => rw [e] at h; exact h.elim
  | ex c env m2 => rw [e] at h; exact fun cls dx σ r2 F2 H2 s2 A2 _ q => h cls dx r2 F2 H2 s2 A2 q
theorem Callee.mono {j k : Nat} {x : Str} {n : Nat} {sem : Sem} (h : Callee P w K mg base j x n sem) (hjk : j ≤ k) : Callee P w K mg base k x n sem := by
  obtain ⟨f, fd, ps, a, b, c, d, e⟩ := h
  exact ⟨f, fd, ps, a, b, c, d, e.mono hjk⟩
theorem Mth.mono {j k : Nat} {c x : Str} {n : Nat} {sem : Sem} (h : Mth P w K mg base j c x n sem) (hjk : j ≤ k) : Mth P w K mg base k c x n sem := by
  obtain ⟨C, f, i, a, b, c, d, d', g, r⟩ := h
  exact ⟨C, f, i, a, b, c, d, d', Nat.le_trans g hjk, r⟩
theorem Prp.mono {j k : Nat} {c x : Str} {sem : Sem} (h : Prp P w K mg base j c x sem) (hjk : j ≤ k) : Prp P w K mg base k c x sem := by
  obtain ⟨C, p, f, fd, ps, i, a, b, c, d, e, r⟩ := h
  exact ⟨C, p, f, fd, ps, i, a, b, c, d, Nat.le_trans e hjk, r⟩
theorem Mkr.mono {j k : Nat} {c : Str} {n : Nat} {kw : Option (Str × Int)} {sem : Sem} (h : Mkr P w K mg base j c n kw sem) (hjk : j ≤ k) : Mkr P w K mg base k c n kw sem := by
  obtain ⟨C, f, fd, ps, i, a, b, c, d, r⟩ := h
  exact ⟨C, f, fd, ps, i, a, b, c, Nat.le_trans d hjk, r⟩
end
end HB
namespace HB
open PySem L2 PySem.Spec PyProof.Rows PySem.Calls
/-! ### the law's own call, by data -/
/-- the script alone -/
def scrH (a : Addr) (o : Obj) (ns : List Int) : Hp := fun b => if b = a then some (.frz o (.lst (ns.map V.int))) else none
theorem scrH_at {a : Addr} {o : Obj} {ns : List Int} : scrH a o ns a = some (.frz o (.lst (ns.map V.int))) := by unfold scrH; rw [if_pos rfl]
theorem scrH_ne {a b : Addr} {o : Obj} {ns : List Int} (h : b ≠ a) : scrH a o ns b = none := by unfold scrH; rw [if_neg h]
/-- nothing but the script may be tracked -/
structure Scr (K : PySem.W.Frag) (a : Addr) (o : Obj) (ns : List Int) (H : Hp) : Prop where
  kind : H = (fun _ => none) ∨ (H = scrH a o ns ∧ K.lookup a = none)
  seq : SqL K H a (ns.map V.int)
theorem Scr.other {K : PySem.W.Frag} {a b : Addr} {o : Obj} {ns : List Int} {H : Hp} (S : Scr K a o ns H) (h : b ≠ a) : H b = none := by
  rcases S.kind with e | ⟨e, _⟩
  · rw [e]
  · rw [e]; exact scrH_ne h
section
variable {P : Program} {w : World} {K : PySem.W.Frag} {mg mb : Str → Option Value} {k : Nat} {fa a : Addr} {fd : FuncData} {x : Str} {sem : Sem} {s₁ : Shared} {us : List Value} {ns : List Int}
theorem law_core (KX : K.In s₁.heap) (gl : s₁.heap.Ns mainGlobals mg) (bl : s₁.heap.Ns builtinsNs mb) (bb : ∀ y : Str, y ≠ "__name__" → mb y = bootBuiltins y) (nl : s₁.heap.NoLimit) (ng : s₁.gens = #[])
    (at_ : s₁.heap.get? a = some { cls := .type "list", data := .seq us.toArray }) (room : Room k callerA)
    (G : ∀ base : Heap, K.In base → base.Ns mainGlobals mg → FnG P w K mg base k fa fd [x] (spD K mg 1 sem)) (bnd : ∀ (s : Shared) (u : Value), BindsTo s fd ⟨[u], []⟩ [(x, u)])
    (val : ∃ m, sem [.scr ns] [] = .ok (.bl true) m) {H : Hp} (S : Scr K a { cls := .type "list", data := .seq us.toArray } ns H) (hok : HOk P w H s₁.heap) :
    codeAny (model P w) callerA (.call (.ref fa) ⟨[.ref a], []⟩) (fun r s' => r = .ok (.ret (.bool true)) ∧ OldK s₁.heap s'.heap ∧ s'.os = s₁.os ∧ AllBare s'.gens) s₁ := by
  have dictNo : ∀ {b : Addr} {o : Obj} {es : Array DictEntry} {ep : Nat}, s₁.heap.get? b = some o → o.data = .dict es ep → b ≠ a := by
    intro b o es ep e d z
    subst z
    rw [at_] at e
    cases e
    exact nomatch (show Data.seq us.toArray _ = Data.dict es ep from d)
  have nsB : ∀ {b : Addr} {m : Str → Option Value}, s₁.heap.Ns b m → (hidT s₁.heap H).Ns b m := by
    rintro b m ⟨o, es, ep, e, d, r⟩
    exact ⟨o, es, ep, hidT_get e (S.other (dictNo e d)), d, r⟩
  have kB : K.In (hidT s₁.heap H) := by
    intro b o e
    refine hidT_get (KX b o e) ?_
    rcases S.kind with z | ⟨z, na⟩
    · rw [z]
    · refine S.other fun y => ?_
      rw [y, na] at e
      cases e
  obtain ⟨mc, n1, n2⟩ := nl
  have md : Mod K mg (hidT s₁.heap H) := { kin := kB, glob := nsB gl, blt := ⟨mb, nsB bl, bb⟩, nolimit := ⟨mc, nsB n1, n2⟩ }
  have en : Env0 P w K mg (hidT s₁.heap H) callerA [] s₁ H :=
    { frames := rfl, mod := md, bs := fun b o e => of_hidT e, bsz := Nat.le_of_eq (hidT_size _ _), funs := trivial, frf := fun b z => (List.not_mem_nil z).elim, hok := hok, bare := .of_eq ng }
  obtain ⟨m, hv⟩ := val
  have want : spD K mg 1 sem [.ref a] H (fun v _ => v = .bl true) (fun _ _ _ => False) := by
    refine ⟨rfl, [], H, [.scr ns], [], ⟨Same.refl H, rfl, List.nodup_nil, fun i b o e => by simp at e, fun b z => (List.not_mem_nil z).elim⟩, .cons (.scr S.seq) .nil, ?_⟩
    rw [hv]
    intro v r2 F2 H2 s2 A2 q
    cases q
    rfl
  refine codeAny_mono (G _ kB (nsB gl) callerA [] s₁ H ⟨[.ref a], []⟩ [.ref a] [.ref a] _ _ room rfl en (bnd s₁ (.ref a)) (.cons rfl .nil) rfl want) ?_
  rintro (e | fl) s' h
  · have h2 : L2.CX P w [] H s₁ (fun _ _ _ => False) e s' := h
    obtain ⟨_, _, _, _, _, _, _, _, _, _, _, _, no⟩ := h2
    exact no.elim
  · cases fl with
    | ret u =>
      obtain ⟨v, H', os, bare, un, hok', r', q⟩ := h
      have q2 : v = V.bl true := q
      subst q2
      have u2 : u = Value.bool true := r'
      subst u2
      refine ⟨rfl, OldK.of_keep fun b o e => ?_, os, bare⟩
      by_cases ba : b = a
      · rcases S.kind with z | ⟨z, _⟩
        · exact un.keep b o e (by rw [z]) (fun y => (List.not_mem_nil y).elim) (by simp)
        · subst ba
          have h0 : H b = some (.frz { cls := .type "list", data := .seq us.toArray } (.lst (ns.map V.int))) := by rw [z]; exact scrH_at
          obtain ⟨k1, _⟩ := hok b _ h0
          obtain ⟨k2, _⟩ := hok' b _ (un.frzs b _ _ h0)
          rw [e] at k1
          cases k1
          exact k2
      · exact un.keep b o e (S.other ba) (fun y => (List.not_mem_nil y).elim) (by simp)
    | next => exact h.elim
    | brk => exact h.elim
    | cont => exact h.elim
theorem law_data (KX : K.In s₁.heap) (gl : s₁.heap.Ns mainGlobals mg) (bl : s₁.heap.Ns builtinsNs mb) (bb : ∀ y : Str, y ≠ "__name__" → mb y = bootBuiltins y) (nl : s₁.heap.NoLimit) (ng : s₁.gens = #[])
    (at_ : s₁.heap.get? a = some { cls := .type "list", data := .seq us.toArray }) (hin : IntsAre us ns) (len : ns.length ≤ sizeLine) (room : Room k callerA)
    (G : ∀ base : Heap, K.In base → base.Ns mainGlobals mg → FnG P w K mg base k fa fd [x] (spD K mg 1 sem)) (bnd : ∀ (s : Shared) (u : Value), BindsTo s fd ⟨[u], []⟩ [(x, u)])
    (val : ∃ m, sem [.scr ns] [] = .ok (.bl true) m) :
    codeAny (model P w) callerA (.call (.ref fa) ⟨[.ref a], []⟩) (fun r s' => r = .ok (.ret (.bool true)) ∧ OldK s₁.heap s'.heap ∧ s'.os = s₁.os ∧ AllBare s'.gens) s₁ := by
  have rv := vals_ints hin
  cases hk : K.lookup a with
  | some o =>
    have e := KX a o hk
    rw [at_] at e
    cases e
    refine law_core (H := fun _ => none) KX gl bl bb nl ng at_ room G bnd val ⟨.inl rfl, ?_⟩ fun b u z => nomatch z
    exact .inr ⟨_, us.toArray, _, hk, rfl, rfl, rfl, by rw [List.size_toArray, hin.length]; exact len, by simpa using rv⟩
  | none =>
    refine law_core (H := scrH a { cls := .type "list", data := .seq us.toArray } ns) KX gl bl bb nl ng at_ room G bnd val ⟨.inr ⟨rfl, hk⟩, .inl (.inr ⟨_, scrH_at⟩)⟩ fun b u z => ?_
    by_cases ba : b = a
    · subst ba
      rw [scrH_at] at z
      cases z
      exact ⟨at_, by rw [List.length_map]; exact len, us, _, rv, at_⟩
    · rw [scrH_ne ba] at z
      cases z
/-- the law's walk, over a head by facts -/
theorem walk_data {l : PySem.W.OpenLaw} {n k : Nat} {q : Program} {loose : List Str} {XP : (Str → Option Value) → Heap → Prop} {YP : World → Heap → Prop} {d : DefRec} {x : Str}
    (hn : l.most = some n) (hn2 : n ≤ sizeLine) (hdf : d.params.defaults = []) (room : Room k callerA)
    (F : ∀ (w : World) (mg : Str → Option Value) (fa : Addr) (h : Heap), YP w h → h.Ns mainGlobals mg → mg d.name = some (.ref fa) →
      ∃ (K : PySem.W.Frag) (fd : FuncData) (sem : Sem), K.In h ∧ (∀ (s : Shared) (u : Value), BindsTo s fd ⟨[u], []⟩ [(x, u)]) ∧
        (∀ ns : List Int, ns.length ≤ n → (∀ z ∈ ns, Builtin.Int.intBits z ≤ 1048576) → ∃ m, sem [.scr ns] [] = .ok (.bl true) m) ∧
        ∀ base : Heap, K.In base → base.Ns mainGlobals mg → FnG l.prog w K mg base k fa fd [x] (spD K mg 1 sem)) :
    PySem.W.WalkO q loose XP YP l.row.toRowW d [] (fun f vs => PySem.call f vs) := by
  refine Att.attach_callB hn hdf ?_
  intro w s0 s1 mg mb fa o pm cd doc a us ns gr yy ho hd hcd hmg hobj hin hlen hbits hgen
  obtain ⟨K, fd, sem, kx, bnd, val, G⟩ := F w mg fa _ yy gr.T.g hmg
  exact law_data kx gr.T.g gr.T.b gr.T.builtins gr.T.nolimit hgen hobj hin (Nat.le_trans hlen hn2) room G bnd (val ns hlen hbits)
end
end HB
namespace HB
open PySem L2 PySem.Spec PyProof.Rows PySem.HBX
/-! ### what a head tells: names, defs, own errors -/
structure XD where
  x : Str
  f : Str
  v : Str
  fl : Bool
  qual : Str
  params : Arguments
  body : List Stmt
  scope : Scope
  bas : String
  newId : String
  initId : String
  bm : List Value
abbrev XW : Type := Option (Str × Str × Arguments × FuncBody × Scope × Addr × List Str × Addr)
def xW (K : PySem.W.Frag) (x : Str) : XW := match K.lookup (He.ma K (He.ga K x) "__init__") with
  | some ⟨.type "function", _, .func fd, _⟩ => some (fd.name, fd.qualname, fd.params, fd.body, fd.scope, fd.globals, fd.closure.map (·.1), fd.builtins)
  | _ => none
def XD.val (d : XD) : XW := some ("__init__", d.qual, d.params, .stmts d.body, d.scope, mainGlobals, ["__class__"], builtinsNs)
def codeB (K : PySem.W.Frag) (file : Str) (v : Value) : Bool := match v with
  | .ref a => (match K.lookup a with
    | some ⟨_, _, .fields vs, _⟩ => (match (vs[2]? : Option Value) with
      | some (.str y _) => file == y
      | _ => false)
    | _ => false)
  | _ => false
def cellB (K : PySem.W.Frag) (C : Addr) (cl : List (Str × Addr)) : Bool := match cl with
  | [(_, c)] => (match K.lookup c with
    | some ⟨_, _, .cell (some (.ref C')), _⟩ => C' == C
    | _ => false)
  | _ => false
def fnB (K : PySem.W.Frag) (file qual : Str) (C fI : Addr) : Bool := match K.lookup fI with
  | some ⟨.type "function", _, .func fd, _⟩ => (match fd.defaults with
    | .none => PySem.W.codeIn K fd.code qual && codeB K file fd.code && cellB K C fd.closure
    | _ => false)
  | _ => false
def XD.ok (file : Str) (K : PySem.W.Frag) (d : XD) : Bool :=
  let C := He.ga K d.x
  let fI := He.ma K C "__init__"
  He.eqO (PySem.W.nsIn K mainGlobals d.x) (some (some (.ref C))) && (PySem.W.keepIn K (.ref C) && (decide (PySem.W.subIn K (.ref C) (.type "BaseException") = some true) && (decide (PySem.W.typeIn K (.ref C) = some (.type "type")) && (PySem.W.hasDictIn K C &&
  (He.eqO (PySem.W.findIn K (.ref C) "__init__") (some (some (.ref fI))) && (He.eqO (PySem.W.findIn K (.ref C) "__setattr__") (some (some (.builtin "object.__setattr__"))) && (He.eqO (PySem.W.findIn K (.ref C) "__getattribute__") (some (some (.builtin "BaseException.__getattribute__"))) &&
  (He.eqO (PySem.W.findIn K (.ref C) "__getattr__") (some none) && (He.eqO (PySem.W.findIn K (.ref C) d.f) (some none) && (He.eqO (PySem.W.takerIn K C d.f) (some none) && (decide (PySem.W.mroIn K C (.ref C) = some true) && (He.eqO (PySem.W.nsIn K cStatics "thirdparty.any") (some none) &&
  (He.eqO (PySem.W.nsIn K mainGlobals "super") (some none) && (PySem.W.excInitIn K C d.bm d.newId && (PySem.W.excOver K C d.bm && (decide (PySem.W.subIn K (.ref C) (.type d.bas) = some true) && (He.eqO (PySem.W.ks_superIn K C C "__init__") (some (some (.builtin d.initId))) &&
  (fnB K file d.qual C fI && (PySem.W.clsIn K C).isSome))))))))))))))))))
/-- what the text of such a class must be -/
structure XD.Txt (P : Program) (w : World) (d : XD) : Prop where
  bs : XBase d.bas d.newId d.initId d.bm
  vn : vnOk d.v = true
  dbg : (d.x == ("__debug__" : Str)) = false
  top : (P.main.scope.names.lookup ("super" : Str)).isSome = false
  txt : ∃ (q : Nat → Pos) (p1 p2 : Pos) (msg : Expr), d.params = xParams p1 p2 d.v ∧ d.body = xBody q d.f d.v msg ∧ MsgOk P w d.v d.fl msg ∧ ((q 2).endLine == (q 3).line) = true
  nms : d.scope.names = [(("self" : Str), NameKind.local), (d.v, .local), ("__class__", .free), ("super", .globalImplicit)]
  knd : d.scope.kind = .function ∧ d.scope.isCoroutine = false ∧ d.scope.isGenerator = false
  bnd : ∀ (kV doc pm ct : Value) (an : Option Addr) (cda cc : Addr) (s : Shared) (a b : Value), BindsTo s (PySem.W.ksFn "__init__" d.qual d.params d.body d.scope .none kV doc pm an (.ref cda) ct cc) ⟨[a, b], []⟩ [("self", a), (d.v, b)]
theorem xok_of {P : Program} {w : World} {K : PySem.W.Frag} {h : Heap} {mg : Str → Option Value} {d : XD} (X : K.In h) (G : h.Ns mainGlobals mg) (c : d.ok P.main.file K = true) (e : xW K d.x = d.val) (T : d.Txt P w) : XOk P w K mg d.x d.f d.fl := by
  simp only [XD.ok, Bool.and_eq_true, decide_eq_true_eq] at c
  obtain ⟨c1, c2, c3, c4, c5, c6, c7, c8, c9, c10, c11, c12, c13, c14, c15, c16, c17, c18, c19, c20⟩ := c
  refine ⟨d.v, He.ga K d.x, He.ma K (He.ga K d.x) "__init__", ?_, T.vn, T.dbg⟩
  obtain ⟨q, p1, p2, msg, t1, t2, t3, t4⟩ := T.txt
  obtain ⟨k1, k2, k3⟩ := T.knd
  refine { gC := PySem.W.mg_of X G (He.eqO_ok c1), kC := c2, exC := c3, tyC := c4, hdC := c5, iC := He.eqO_ok c6, sa := He.eqO_ok c7, ga := He.eqO_ok c8, gg := He.eqO_ok c9, noN := He.eqO_ok c10, tk := He.eqO_ok c11, sC := c12, tp := He.eqO_ok c13, sup := He.eqO_ok c14, top := T.top, bsx := ⟨d.bas, d.newId, d.initId, d.bm, T.bs, c15, c16, c17, He.eqO_ok c18⟩, fn := ?_ }
  unfold xW at e
  unfold fnB at c19
  cases lk : K.lookup (He.ma K (He.ga K d.x) "__init__") with
  | none => rw [lk] at c19; cases c19
  | some o =>
    obtain ⟨oc, od, dt, osl⟩ := o
    rw [lk] at c19 e
    split at c19
    · rename_i fd sl hh
      cases hh
      rename_i od2
      split at c19
      · rename_i hd
        simp only [Bool.and_eq_true] at c19
        obtain ⟨⟨d1, d2⟩, d3⟩ := c19
        simp only [XD.val, Option.some.injEq, Prod.mk.injEq] at e
        obtain ⟨e1, e2, e3, e4, e5, e6, e7, e8⟩ := e
        obtain ⟨n1, n2, n3, n4, n5, n6, n7, n8, n9, n10, n11, n12, n13, n14, n15⟩ := fd
        dsimp only at e1 e2 e3 e4 e5 e6 e7 e8 d1 d2 d3 hd
        subst e1 e2 e3 e4 e5 e6 e8 hd
        unfold codeB at d2
        split at d2
        · rename_i cda
          split at d2
          · rename_i ccl cdd vs ccs lc
            split at d2
            · rename_i y tf hy
              unfold cellB at d3
              split at d3
              · rename_i nm cc
                split at d3
                · rename_i cl cld C' csl lcc
                  have hC := eq_of_beq d3
                  subst hC
                  have hn : nm = "__class__" := by simpa using e7
                  subst hn
                  obtain ⟨cdD, hD⟩ := Option.isSome_iff_exists.mp c20
                  refine ⟨q, p1, p2, d.qual, d.scope, n9, n10, n11, n14, ccl, cl, od, n12, cdd, cld, cda, cc, osl, ccs, csl, vs, y, tf, msg, cdD, ?_, d1, lc, hy, d2, lcc, hD, T.nms, k1, k2, k3, t3, t4, ?_⟩
                  · rw [← t1, ← t2]
                  · intro s a b
                    rw [← t1, ← t2]
                    exact T.bnd _ _ _ _ _ _ _ s a b
                · cases d3
              · cases d3
            · cases d2
          · cases d2
        · cases d2
      · cases c19
    · cases c19
/-! ### properties -/
structure PfD where
  c : Str
  y : Str
  qual : Str
  params : Arguments
  body : List Stmt
  scope : Scope
def pAd (K : PySem.W.Frag) (c y : Str) : Addr := match PySem.W.recIn K (He.ma K (He.ga K c) y) "property" with
  | some (.ref g :: _) => g
  | _ => 0
def pW (K : PySem.W.Frag) (c y : Str) : He.FnW := match K.lookup (pAd K c y) with
  | some ⟨_, _, .func fd, _⟩ => some (fd.name, fd.qualname, fd.params, fd.body, fd.scope, fd.globals, fd.closure, fd.builtins)
  | _ => none
def PfD.val (d : PfD) : He.FnW := some (d.y, d.qual, d.params, .stmts d.body, d.scope, mainGlobals, [], builtinsNs)
def isRec (K : PySem.W.Frag) (p : Addr) : Bool := match PySem.W.recIn K p "property" with
  | some (.ref _ :: _) => true
  | _ => false
def fnAt (K : PySem.W.Frag) (a : Addr) (qual : Str) : Bool := match K.lookup a with
  | some ⟨_, _, .func fd, _⟩ => PySem.W.codeIn K fd.code qual && He.dflB K fd.defaults []
  | _ => false
def PfD.ok (K : PySem.W.Frag) (d : PfD) : Bool :=
  let C := He.ga K d.c
  let p := He.ma K C d.y
  He.eqO (PySem.W.findIn K (.ref C) d.y) (some (some (.ref p))) && (He.eqO (PySem.W.specialIn K (.ref p) "__get__") (some (some (.builtin "property.__get__"))) && (decide (PySem.W.takesIn K (.ref p) = some true) && (isRec K p && (PySem.W.keepIn K (.ref (pAd K d.c d.y)) && fnAt K (pAd K d.c d.y) d.qual))))
theorem PfD.prop {K : PySem.W.Frag} {d : PfD} (c : d.ok K = true) : PropOf K (He.ga K d.c) d.y (He.ma K (He.ga K d.c) d.y) (pAd K d.c d.y) := by
  simp only [PfD.ok, Bool.and_eq_true, decide_eq_true_eq] at c
  obtain ⟨c1, c2, c3, c4, _, _⟩ := c
  refine ⟨He.eqO_ok c1, He.eqO_ok c2, c3, ?_⟩
  unfold isRec at c4
  unfold pAd
  split at c4
  · rename_i a r e
    exact ⟨r, by rw [e]⟩
  · cases c4
theorem PfD.funD {K : PySem.W.Frag} {d : PfD} (e : pW K d.c d.y = d.val) (c : d.ok K = true) : ∃ fd, FunD K d.y d.qual d.params d.body d.scope [] [] (pAd K d.c d.y) fd := by
  simp only [PfD.ok, Bool.and_eq_true, decide_eq_true_eq] at c
  obtain ⟨_, _, _, _, kp, c2⟩ := c
  unfold pW at e
  unfold fnAt at c2
  cases q : K.lookup (pAd K d.c d.y) with
  | none => rw [q] at c2; cases c2
  | some o =>
    obtain ⟨oc, od, dt, osl⟩ := o
    rw [q] at c2 e
    cases dt with
    | func fd =>
      simp only [Bool.and_eq_true] at c2
      obtain ⟨n1, n2, n3, n4, n5, n6, n7, n8, n9, n10, n11, n12, n13, n14, n15⟩ := fd
      simp only [PfD.val, Option.some.injEq, Prod.mk.injEq] at e
      obtain ⟨e1, e2, e3, e4, e5, e6, e7, e8⟩ := e
      dsimp only at c2
      subst e1 e2 e3 e4 e5 e6 e7 e8
      exact ⟨_, ⟨⟨oc, od, _, _, _, _, _, _, _, osl, rfl, q, c2.1, He.dflB_ok c2.2, .inl rfl⟩, kp⟩⟩
    | _ => cases c2
/-! ### facts of errors as values, of own classes -/
inductive Fb where
  | xcl (r : Str) | isr (r c : Str) (b : Bool) | isb (r c : Str) (b : Bool) | ocl (c : Str) | okn (c d : Str)
def tyAll : List String := ["NoneType", "bool", "int", "str", "tuple", "list", "dict"]
def Fb.ok (K : PySem.W.Frag) : Fb → Bool
  | .xcl r => (PySem.W.clsIn K (He.ga K r)).isSome && (He.eqO (PySem.W.findIn K (.ref (He.ga K r)) "__getattribute__") (some (some (.builtin "BaseException.__getattribute__"))) && (He.eqO (PySem.W.findIn K (.ref (He.ga K r)) "__getattr__") (some none) &&
    (decide (PySem.W.subIn K (.ref (He.ga K r)) (.type "BaseException") = some true) && (He.eqO (PySem.W.findIn K (.ref (He.ga K r)) "__class__") (some (some (.builtin "object.__class__"))) && (He.eqO (PySem.W.specialIn K (.builtin "object.__class__") "__get__") (some (some (.builtin "getset_descriptor.__get__"))) &&
    (decide (PySem.W.takesIn K (.builtin "object.__class__") = some true) && decide (PySem.W.mroIn K (He.ga K r) (.type "object") = some true)))))))
  | .isr r c b => decide (PySem.W.kitOne K (.ref (He.ga K r)) (.ref (He.ga K c)) = some b)
  | .isb r c b => decide (PySem.W.kitOne K (.ref (He.ga K r)) (.type c.toString) = some b)
  | .ocl c => He.eqO (PySem.W.findIn K (.ref (He.ga K c)) "__class__") (some (some (.builtin "object.__class__"))) && (He.eqO (PySem.W.specialIn K (.builtin "object.__class__") "__get__") (some (some (.builtin "getset_descriptor.__get__"))) && (decide (PySem.W.takesIn K (.builtin "object.__class__") = some true) &&
    (decide (PySem.W.mroIn K (He.ga K c) (.type "object") = some true) && (He.eqO (PySem.W.findIn K (.ref (He.ga K c)) "__ne__") (some (some (.builtin "object.__ne__"))) && (PySem.W.selfFirst K (He.ga K c) && tyAll.all fun t => decide (PySem.W.kitOne K (.type t) (.ref (He.ga K c)) = some false) && PySem.W.notFirst K (He.ga K c) (.type t))))))
  | .okn c d => decide (PySem.W.kitOne K (.ref (He.ga K c)) (.ref (He.ga K d)) = some (decide (c = d))) && PySem.W.notFirst K (He.ga K c) (.ref (He.ga K d))
theorem ocl_ok {K : PySem.W.Frag} {c : Str} (hc : (He.Fa.cls c).ok K = true) (h : (Fb.ocl c).ok K = true) : OCl K (He.ga K c) := by
  simp only [Fb.ok, Bool.and_eq_true, decide_eq_true_eq, List.all_eq_true] at h
  obtain ⟨h1, h2, h3, h4, h5, h5', h6⟩ := h
  exact ⟨He.cls_ok hc, He.eqO_ok h1, He.eqO_ok h2, h3, h4, He.eqO_ok h5, h5', fun t ht => h6 t ht⟩
theorem xcl_ok {K : PySem.W.Frag} {r : Str} (h : (Fb.xcl r).ok K = true) : XCl K (He.ga K r) := by
  simp only [Fb.ok, Bool.and_eq_true, decide_eq_true_eq] at h
  obtain ⟨h1, h2, h3, h4, h5, h6, h7, h8⟩ := h
  exact ⟨h1, He.eqO_ok h2, He.eqO_ok h3, h4, He.eqO_ok h5, He.eqO_ok h6, h7, h8⟩
/-! ### the head of a law -/
structure Hd where
  gl : List Str
  fr : List Str
  tb : Tb
  xk : List Str
  ms : List (Str × Str)
  fn : List He.DefD
  xs : List XD
  pf : List PfD := []
  mks : List Str := []
def Hd.fa (d : Hd) : List He.Fa := d.gl.map .glo ++ (d.fr.map .free ++ (d.tb.gints.map (fun p => .int p.1 p.2) ++ (d.tb.xsub.map (fun p => .exm p.1 p.2.1 p.2.2) ++ (d.tb.xc0.map .exc ++ (d.ms.map (fun p => .meth p.1 p.2) ++ (d.tb.ocl.map (fun p => .cls p.1) ++ (d.tb.ocl.flatMap (fun p => p.2.map (.noat p.1)) ++ d.mks.map .mkr)))))))
def Hd.fb (d : Hd) : List Fb := d.xk.map .xcl ++ d.tb.xis.map fun p => (if d.gl.contains p.2.1 then .isr p.1 p.2.1 p.2.2 else .isb p.1 p.2.1 p.2.2)
def Hd.fc (d : Hd) : List Fb := d.tb.ocl.map (fun p => .ocl p.1) ++ d.tb.ocl.flatMap fun p => d.tb.ocl.map fun q => .okn p.1 q.1
/-! ### the Hook -/
abbrev AlX : Type := Bool × List He.FnW × List XW × List He.FnW
def obsX (file : Str) (d : Hd) (K : PySem.W.Frag) : AlX :=
  ((d.fa.all fun f => f.ok K) && (d.fn.all fun d => d.ok K) && (d.xs.all fun d => d.ok file K) && (d.fb.all fun f => f.ok K) && (d.fc.all fun f => f.ok K) && (d.pf.all fun d => d.ok K) && (K.lookup sysModules).isSome, d.fn.map fun d => He.fnW K d.at_, d.xs.map fun d => xW K d.x, d.pf.map fun d => pW K d.c d.y)
def valX (d : Hd) : AlX := (true, d.fn.map He.DefD.val, d.xs.map XD.val, d.pf.map PfD.val)
def SaysX (file : Str) (d : Hd) (K : PySem.W.Frag) : Prop := obsX file d K = valX d
def asX (g : Addr → Option Obj) (n : Nat) : List Addr := sysModules :: cStatics :: He.asD g n
def obsXG (file : Str) (n : Nat) (d : Hd) (g : Addr → Option Obj) : AlX := obsX file d (He.frG g (asX g n))
def hookX (file : Str) (n : Nat) (d : Hd) : PySem.W.Hook where
  α := AlX
  obs := fun s => obsXG file n d s.heap.get?
  val := fun _ => valX d
  says := fun _ h => ∃ K : PySem.W.Frag, K.In h ∧ SaysX file d K
  of := fun _ _ e => ⟨_, He.frG_in, e⟩
  keeps := fun _ _ _ ⟨K, hK, c⟩ k => ⟨K, PySem.W.Frag.In.keeps hK k, c⟩
theorem obsXG_eq {file : Str} {n : Nat} {d : Hd} {g : Addr → Option Obj} {s : Shared} (h : ∀ a, g a = s.heap.get? a) : obsXG file n d g = (hookX file n d).obs s := by
  have e : g = s.heap.get? := funext h
  subst e
  rfl
section
variable {file : Str} {d : Hd} {K : PySem.W.Frag}
theorem SaysX.all (c : SaysX file d K) : ((d.fa.all fun f => f.ok K) = true ∧ (d.fn.all fun d => d.ok K) = true) ∧ (d.xs.all fun d => d.ok file K) = true ∧ (d.fb.all fun f => f.ok K) = true ∧ (d.fc.all fun f => f.ok K) = true ∧ (d.pf.all fun d => d.ok K) = true ∧ (K.lookup sysModules).isSome = true := by
  have z : ((d.fa.all fun f => f.ok K) && (d.fn.all fun d => d.ok K) && (d.xs.all fun d => d.ok file K) && (d.fb.all fun f => f.ok K) && (d.fc.all fun f => f.ok K) && (d.pf.all fun d => d.ok K) && (K.lookup sysModules).isSome) = true := congrArg (fun z : AlX => z.1) c
  simp only [Bool.and_eq_true] at z
  obtain ⟨⟨⟨⟨⟨⟨z1, z2⟩, z3⟩, z4⟩, z5⟩, z6⟩, z7⟩ := z
  exact ⟨⟨z1, z2⟩, z3, z4, z5, z6, z7⟩
theorem SaysX.fact (c : SaysX file d K) {f : He.Fa} (h : f ∈ d.fa) : f.ok K = true := List.all_eq_true.mp c.all.1.1 f h
theorem SaysX.factB (c : SaysX file d K) {f : Fb} (h : f ∈ d.fb) : f.ok K = true := List.all_eq_true.mp c.all.2.2.1 f h
theorem SaysX.factC (c : SaysX file d K) {f : Fb} (h : f ∈ d.fc) : f.ok K = true := List.all_eq_true.mp c.all.2.2.2.1 f h
theorem SaysX.prop_ (c : SaysX file d K) (i : Nat) {q : PfD} (h : d.pf[i]? = some q) : PropOf K (He.ga K q.c) q.y (He.ma K (He.ga K q.c) q.y) (pAd K q.c q.y) ∧ ∃ fd, FunD K q.y q.qual q.params q.body q.scope [] [] (pAd K q.c q.y) fd := by
  have e : d.pf.map (fun d => pW K d.c d.y) = d.pf.map PfD.val := congrArg (fun z : AlX => z.2.2.2) c
  have e2 : (d.pf.map fun d => pW K d.c d.y)[i]? = (d.pf.map PfD.val)[i]? := by rw [e]
  rw [List.getElem?_map, List.getElem?_map, h] at e2
  have ok := List.all_eq_true.mp c.all.2.2.2.2.1 q (List.mem_of_getElem? h)
  exact ⟨PfD.prop ok, PfD.funD (Option.some.inj e2) ok⟩
theorem SaysX.def_ (c : SaysX file d K) (i : Nat) {q : He.DefD} (h : d.fn[i]? = some q := by rfl) : ∃ fd, FunD K q.name q.qual q.params q.body q.scope (q.dvs K) (q.kws K) (He.fAd K q.at_) fd := by
  have e : d.fn.map (fun d => He.fnW K d.at_) = d.fn.map He.DefD.val := congrArg (fun z : AlX => z.2.1) c
  have e2 : (d.fn.map fun d => He.fnW K d.at_)[i]? = (d.fn.map He.DefD.val)[i]? := by rw [e]
  rw [List.getElem?_map, List.getElem?_map, h] at e2
  exact He.DefD.funD (Option.some.inj e2) (List.all_eq_true.mp c.all.1.2 q (List.mem_of_getElem? h))
theorem SaysX.cls {P : Program} {w : World} {h : Heap} {mg : Str → Option Value} (c : SaysX P.main.file d K) (X : K.In h) (G : h.Ns mainGlobals mg) (i : Nat) {q : XD} (hi : d.xs[i]? = some q) (T : q.Txt P w) : XOk P w K mg q.x q.f q.fl := by
  have e : d.xs.map (fun d => xW K d.x) = d.xs.map XD.val := congrArg (fun z : AlX => z.2.2.1) c
  have e2 : (d.xs.map fun d => xW K d.x)[i]? = (d.xs.map XD.val)[i]? := by rw [e]
  rw [List.getElem?_map, List.getElem?_map, hi] at e2
  exact xok_of X G (List.all_eq_true.mp c.all.2.1 q (List.mem_of_getElem? hi)) (Option.some.inj e2) T
end
end HB
namespace HB
open PySem L2 PySem.Spec PyProof.Rows PySem.HBX
/-! ### a law's defs, one after the other -/
/-- the tables tell of names that the head knows -/
def Hd.good (d : Hd) : Bool := bltAll.all (fun x => d.fr.contains x) && (d.tb.xsub.all (fun r => d.gl.contains r.1 && d.gl.contains r.2.1) && (d.tb.xc0.all (fun x => d.gl.contains x && !(x == ("__debug__" : Str))) && (d.ms.all (fun p => d.gl.contains p.1) && (d.tb.ocl.all (fun p => d.gl.contains p.1) && (d.mks.all (fun c => d.gl.contains c && !(c == ("__debug__" : Str))) && (d.pf.all (fun p => d.gl.contains p.c) &&
  d.tb.xis.all fun r => d.gl.contains r.1 && (d.xk.contains r.1 && (d.gl.contains r.2.1 || (d.fr.contains r.2.1 && decide (bootBuiltins r.2.1 = some (.type r.2.1.toString)))))))))))
/-- what is known behind the top -/
structure Al (P : Program) (w : World) (d : Hd) (K : PySem.W.Frag) (mg : Str → Option Value) (h base : Heap) : Prop where
  kx : K.In h
  ns : h.Ns mainGlobals mg
  says : SaysX P.main.file d K
  wld : Wld K mg base
  tb : TbOk P w K mg d.tb
  good : d.good = true
/-- what super().__init__ is told -/
def msgOf : List Stmt → Expr
  | .Expr (.Call _ [m] _ _) _ :: _ => m
  | _ => .Constant .none 0 ⟨0, 0, 0, 0⟩
def clsBody : Stmt → List Stmt
  | .ClassDef (body := b) .. => b
  | _ => []
/-- the datum of a plain def, of a method -/
def dOf (x : Str) (st : Stmt) : He.DefD := { at_ := (x, none), name := x, qual := x, params := defArgs st, body := defBody st, scope := defScope st }
def mOf (c y q : Str) (st : Stmt) : He.DefD := { at_ := (c, some y), name := y, qual := q, params := defArgs st, body := defBody st, scope := defScope st }
def pOf (c y q : Str) (st : Stmt) : PfD := ⟨c, y, q, defArgs st, defBody st, defScope st⟩
/-- the datum of an __init__ with one keyword-only parameter -/
def kOf (c q k : Str) (d : Int) (st : Stmt) : He.DefD := { at_ := (c, some "__init__"), name := "__init__", qual := q, params := defArgs st, body := defBody st, scope := defScope st, kwd := [(k, .int d)] }
theorem fun_of {K : PySem.W.Frag} {x q : Str} {st : Stmt} {f : Addr} {fd : FuncData} {dvs : List V} {kws : List (Str × V)} (F : FunD K x q (defArgs st) (defBody st) (defScope st) dvs kws f fd) : FunX K x q st f fd := by
  obtain ⟨oc, od, dV, kV, doc, pm, an, cdv, ct, osl, e, lk, hcd, _, _⟩ := F.ex
  exact ⟨⟨oc, od, dV, kV, doc, pm, an, cdv, ct, osl, e, lk, hcd⟩, F.kp⟩
/-- a method whose last parameter has a default -/
def mOfD (c y q : Str) (d : Int) (st : Stmt) : He.DefD := { at_ := (c, some y), name := y, qual := q, params := defArgs st, body := defBody st, scope := defScope st, dfl := [.int d] }
abbrev BndD (x q : Str) (st : Stmt) (ps : List Str) (n j : Nat) : Prop := ∀ (T : Addr) (kV doc pm : Value) (an : Option Addr) (cdv ct : Value) (us its : List Value), us.length = n → its.length = 1 →
  ∃ k, bindArgs (PySem.W.fnOf x q (defArgs st) (defBody st) (defScope st) (.ref T) kV doc pm an cdv ct) ⟨us, []⟩ = seqItems? (.ref T) >>= k ∧ k (some its.toArray) = pure (ps.zip (us ++ its.drop j))
abbrev Bnd (x q : Str) (st : Stmt) (ps : List Str) : Prop := ∀ (kV doc pm : Value) (an : Option Addr) (cdv ct : Value) (us : List Value), us.length = ps.length → bindArgs (PySem.W.fnOf x q (defArgs st) (defBody st) (defScope st) .none kV doc pm an cdv ct) ⟨us, []⟩ = pure (ps.zip us)
section
variable {P : Program} {w : World} {d : Hd} {K : PySem.W.Frag} {mg : Str → Option Value} {h base : Heap}
theorem al_of (kx : K.In h) (ns : h.Ns mainGlobals mg) (says : SaysX P.main.file d K) (kb : K.In base) (gd : d.good = true) (hx : ∀ x f fl, (x, f, fl) ∈ d.tb.xcs → XOk P w K mg x f fl) : Al P w d K mg h base where
  kx := kx
  ns := ns
  says := says
  good := gd
  wld := by
    simp only [Hd.good, Bool.and_eq_true, List.all_eq_true] at gd
    have free : ∀ x ∈ d.fr, mg x = none := fun x hx => He.free_ok kx ns (says.fact (f := .free x) (by simp [Hd.fa, hx]))
    refine ⟨?_, fun x hx => free x (by simpa using gd.1 x hx)⟩
    obtain ⟨o, ho⟩ := Option.isSome_iff_exists.mp says.all.2.2.2.2.2
    exact ⟨o, kb _ _ ho⟩
  tb := by
    simp only [Hd.good, Bool.and_eq_true, List.all_eq_true, Bool.or_eq_true, decide_eq_true_eq, Bool.not_eq_true', List.contains_iff_mem] at gd
    obtain ⟨g1, g2, g3, g4, g6, g7, g8, g5⟩ := gd
    have free : ∀ x ∈ d.fr, mg x = none := fun x hx => He.free_ok kx ns (says.fact (f := .free x) (by simp [Hd.fa, hx]))
    have glo : ∀ x ∈ d.gl, mg x = some (.ref (He.ga K x)) := fun x hx => He.glo_ok kx ns (says.fact (f := .glo x) (by simp [Hd.fa, hx]))
    refine ⟨fun y i hm => He.int_ok kx ns (says.fact (f := .int y i) ?_), hx, fun r x b hm => ?_, fun x hm => ?_, fun r c b hm => ?_, free _ (g1 _ (by decide +kernel)), fun c fl hm => ?_, fun c fl c' fl' hm hm' C C' e1 e2 => ?_⟩
    · simp only [Hd.fa, List.mem_append, List.mem_map]; exact .inr (.inr (.inl ⟨_, hm, rfl⟩))
    · have z := g2 _ hm
      refine ⟨_, _, glo _ z.1, glo _ z.2, He.exm_ok (says.fact (f := .exm r x b) ?_)⟩
      simp only [Hd.fa, List.mem_append, List.mem_map]; exact .inr (.inr (.inr (.inl ⟨_, hm, rfl⟩)))
    · have z := g3 _ hm
      obtain ⟨e1, e2, e3, e4⟩ := He.exc_ok (says.fact (f := .exc x) (by simp only [Hd.fa, List.mem_append, List.mem_map]; exact .inr (.inr (.inr (.inr (.inl ⟨_, hm, rfl⟩))))))
      exact ⟨_, _, _, _, _, PySem.F.excBase_ValueError, e1, glo _ z.1, e2, e3, e4, z.2⟩
    · obtain ⟨z1, z2, z3⟩ := g5 _ hm
      refine ⟨_, glo _ z1, xcl_ok (says.factB (f := .xcl r) (by simp only [Hd.fb, List.mem_append, List.mem_map]; exact .inl ⟨_, z2, rfl⟩)), ?_⟩
      by_cases hc : c ∈ d.gl
      · refine .inl ⟨_, glo _ hc, of_decide_eq_true (says.factB (f := .isr r c b) ?_)⟩
        simp only [Hd.fb, List.mem_append, List.mem_map]
        exact .inr ⟨_, hm, by simp [hc]⟩
      · rcases z3 with z3 | ⟨z3, z4⟩
        · exact absurd z3 hc
        · refine .inr ⟨_, free _ z3, z4, of_decide_eq_true (says.factB (f := .isb r c b) ?_)⟩
          simp only [Hd.fb, List.mem_append, List.mem_map]
          exact .inr ⟨_, hm, by simp [hc]⟩
    · have cf := says.fact (f := .cls c) (by simp only [Hd.fa, List.mem_append, List.mem_map]; exact .inr (.inr (.inr (.inr (.inr (.inr (.inl ⟨_, hm, rfl⟩)))))))
      refine ⟨_, glo _ (g6 _ hm), ocl_ok cf (says.factC (f := .ocl c) (by simp only [Hd.fc, List.mem_append, List.mem_map]; exact .inl ⟨_, hm, rfl⟩)), fun f hf => He.noat_ok (says.fact (f := .noat c f) ?_)⟩
      simp only [Hd.fa, List.mem_append, List.mem_map, List.mem_flatMap]
      exact .inr (.inr (.inr (.inr (.inr (.inr (.inr (.inl ⟨_, hm, _, hf, rfl⟩)))))))
    · have z := says.factC (f := .okn c c') (by simp only [Hd.fc, List.mem_append, List.mem_map, List.mem_flatMap]; exact .inr ⟨_, hm, _, hm', rfl⟩)
      simp only [Fb.ok, Bool.and_eq_true, decide_eq_true_eq] at z
      have w1 := Option.some.inj (e1.symm.trans (glo _ (g6 _ hm)))
      have w2 := Option.some.inj (e2.symm.trans (glo _ (g6 _ hm')))
      cases w1
      cases w2
      exact z
/-- all callees of a def: defs, then methods, properties, makers -/
def Cals (P : Program) (w : World) (K : PySem.W.Frag) (mg : Str → Option Value) (base : Heap) (k : Nat) : List (Str × Nat) → List (Str × Str × Nat) → List (Str × Str) → List (Str × Nat × Option (Str × Int)) → List Sem → Prop
  | (x, n) :: r, ms, ps, ks, s :: t => (∃ j, j ≤ k ∧ Callee P w K mg base j x n s) ∧ Cals P w K mg base k r ms ps ks t
  | [], (c, y, n) :: r, ps, ks, s :: t => (∃ j, j ≤ k ∧ Mth P w K mg base j c y n s) ∧ Cals P w K mg base k [] r ps ks t
  | [], [], (c, y) :: r, ks, s :: t => (∃ j, j ≤ k ∧ Prp P w K mg base j c y s) ∧ Cals P w K mg base k [] [] r ks t
  | [], [], [], (c, n, kw) :: r, s :: t => (∃ j, j ≤ k ∧ Mkr P w K mg base j c n kw s) ∧ Cals P w K mg base k [] [] [] r t
  | [], [], [], [], [] => True
  | _, _, _, _, _ => False
theorem cals_of {k : Nat} : ∀ {fns : List (Str × Nat)} {ms : List (Str × Str × Nat)} {ps : List (Str × Str)} {ks : List (Str × Nat × Option (Str × Int))} {fs : List Sem}, Cals P w K mg base k fns ms ps ks fs → Cls4 P w K mg base k fns ms ps ks fs
  | [], [], [], [], [], _ => ⟨Nat.le_refl _, fun j y n s e => by simp at e, fun j c y n s e => by simp at e, fun j c y s e => by simp at e, fun j c n kw s e => by simp at e⟩
  | (x, n) :: r, ms, ps, ks, s :: t, c => by
    unfold Cals at c
    obtain ⟨⟨i, hi, ci⟩, c⟩ := c
    have ih := cals_of c
    refine ⟨by have := ih.len; simp only [List.length_cons]; omega, fun j y m sem e1 e2 => ?_, fun j c y m sem e1 e2 => ih.mok j c y m sem e1 ?_, fun j c y sem e1 e2 => ih.pok j c y sem e1 ?_, fun j c m kw sem e1 e2 => ih.cok j c m kw sem e1 ?_⟩
    · cases j with
      | zero =>
        simp only [List.getElem?_cons_zero, Option.some.injEq, Prod.mk.injEq] at e1 e2
        obtain ⟨rfl, rfl⟩ := e1
        subst e2
        exact ci.mono hi
      | succ j => exact ih.fok j y m sem (by simpa using e1) (by simpa using e2)
    · rw [List.length_cons, Nat.add_right_comm] at e2; simpa using e2
    · rw [show (((x, n) :: r).length + ms.length + j) = (r.length + ms.length + j) + 1 by simp only [List.length_cons]; omega] at e2; simpa using e2
    · rw [show (((x, n) :: r).length + ms.length + ps.length + j) = (r.length + ms.length + ps.length + j) + 1 by simp only [List.length_cons]; omega] at e2; simpa using e2
  | [], (c', y', n') :: r, ps, ks, s :: t, c => by
    unfold Cals at c
    obtain ⟨⟨i, hi, ci⟩, c⟩ := c
    have ih := cals_of c
    refine ⟨by have := ih.len; simp only [List.length_cons, List.length_nil] at this ⊢; omega, fun j y n s e => by simp at e, fun j c y m sem e1 e2 => ?_, fun j c y sem e1 e2 => ih.pok j c y sem e1 ?_, fun j c m kw sem e1 e2 => ih.cok j c m kw sem e1 ?_⟩
    · cases j with
      | zero =>
        simp only [List.length_nil, Nat.add_zero, List.getElem?_cons_zero, Option.some.injEq, Prod.mk.injEq] at e1 e2
        obtain ⟨rfl, rfl, rfl⟩ := e1
        subst e2
        exact ci.mono hi
      | succ j => exact ih.mok j c y m sem (by simpa using e1) (by simp only [List.length_nil, Nat.zero_add] at e2 ⊢; simpa using e2)
    · rw [show (([] : List (Str × Nat)).length + ((c', y', n') :: r).length + j) = (([] : List (Str × Nat)).length + r.length + j) + 1 by simp only [List.length_cons, List.length_nil]; omega] at e2; simpa using e2
    · rw [show (([] : List (Str × Nat)).length + ((c', y', n') :: r).length + ps.length + j) = (([] : List (Str × Nat)).length + r.length + ps.length + j) + 1 by simp only [List.length_cons, List.length_nil]; omega] at e2; simpa using e2
  | [], [], (c', y') :: r, ks, s :: t, c => by
    unfold Cals at c
    obtain ⟨⟨i, hi, ci⟩, c⟩ := c
    have ih := cals_of c
    refine ⟨by have := ih.len; simp only [List.length_cons, List.length_nil] at this ⊢; omega, fun j y n s e => by simp at e, fun j c y n s e => by simp at e, fun j c y sem e1 e2 => ?_, fun j c m kw sem e1 e2 => ih.cok j c m kw sem e1 ?_⟩
    · cases j with
      | zero =>
        simp only [List.length_nil, Nat.add_zero, List.getElem?_cons_zero, Option.some.injEq, Prod.mk.injEq] at e1 e2
        obtain ⟨rfl, rfl⟩ := e1
        subst e2
        exact ci.mono hi
      | succ j => exact ih.pok j c y sem (by simpa using e1) (by simp only [List.length_nil, Nat.zero_add, Nat.add_zero] at e2 ⊢; simpa using e2)
    · rw [show (([] : List (Str × Nat)).length + ([] : List (Str × Str × Nat)).length + ((c', y') :: r).length + j) = (([] : List (Str × Nat)).length + ([] : List (Str × Str × Nat)).length + r.length + j) + 1 by simp only [List.length_cons, List.length_nil]; omega] at e2; simpa using e2
  | [], [], [], (c', n', k') :: r, s :: t, c => by
    unfold Cals at c
    obtain ⟨⟨i, hi, ci⟩, c⟩ := c
    have ih := cals_of c
    refine ⟨by have := ih.len; simp only [List.length_cons, List.length_nil] at this ⊢; omega, fun j y n s e => by simp at e, fun j c y n s e => by simp at e, fun j c y s e => by simp at e, fun j c m kw sem e1 e2 => ?_⟩
    cases j with
    | zero =>
      simp only [List.length_nil, Nat.add_zero, List.getElem?_cons_zero, Option.some.injEq, Prod.mk.injEq] at e1 e2
      obtain ⟨rfl, rfl, rfl⟩ := e1
      subst e2
      exact ci.mono hi
    | succ j => exact ih.cok j c m kw sem (by simpa using e1) (by simp only [List.length_nil, Nat.zero_add, Nat.add_zero] at e2 ⊢; simpa using e2)
  | (_, _) :: _, _, _, _, [], c => by unfold Cals at c; exact c.elim
  | [], (_, _, _) :: _, _, _, [], c => by unfold Cals at c; exact c.elim
  | [], [], (_, _) :: _, _, [], c => by unfold Cals at c; exact c.elim
  | [], [], [], (_, _, _) :: _, [], c => by unfold Cals at c; exact c.elim
  | [], [], [], [], _ :: _, c => by unfold Cals at c; exact c.elim
section
variable {N ps : List Str} {k : Nat} {fns : List (Str × Nat)} {ms : List (Str × Str × Nat)} {prs : List (Str × Str)} {mks : List (Str × Nat × Option (Str × Int))} {fs : List Sem} {b : S} {st : Stmt}
theorem callee_D (A : Al P w d K mg h base) (i : Nat) {x : Str} (hd : d.fn[i]? = some (dOf x st)) (hg : x ∈ d.gl) (Sc : FnScope N ps (defScope st)) (hb : Bnd x x st ps)
    (cs : Cals P w K mg base k fns ms prs mks fs) (hc : chkB ⟨N, defScope st, none, fns, ms, prs, mks, d.tb⟩ b (defBody st) = true) : Callee P w K mg base (k + 1) x ps.length (runB fs N.length b) := by
  obtain ⟨fd, F⟩ := A.says.def_ i hd
  have hm := He.glo_ok A.kx A.ns (A.says.fact (f := .glo x) (by simp [Hd.fa, hg]))
  exact ⟨_, fd, ps, hm, F.kp, FunD.bindsN F hb, rfl, def_ok A.wld (fun_of F) Sc hc (cals_of cs) A.tb⟩
theorem fnIn_of {x q : Str} {params : Arguments} {body : List Stmt} {scope : Scope} {dvs : List V} {kws : List (Str × V)} {f : Addr} {fd : FuncData} (F : FunD K x q params body scope dvs kws f fd) : PySem.W.fnIn K f = true := by
  obtain ⟨oc, od, dV, kV, doc, pm, an, cdv, ct, osl, e, lk, _⟩ := F.ex
  unfold PySem.W.fnIn
  rw [lk]
theorem mth_D (A : Al P w d K mg h base) (i : Nat) {c y q : Str} (hd : d.fn[i]? = some (mOf c y q st)) (hg : (c, y) ∈ d.ms) (Sc : FnScope N ps (defScope st)) (hb : Bnd y q st ps)
    (cs : Cals P w K mg base k fns ms prs mks fs) (hc : chkB ⟨N, defScope st, none, fns, ms, prs, mks, d.tb⟩ b (defBody st) = true) : Mth P w K mg base (k + 3) c y ps.length (runB fs N.length b) := by
  obtain ⟨fd, F⟩ := A.says.def_ i hd
  have gd := A.good
  simp only [Hd.good, Bool.and_eq_true, List.all_eq_true, List.contains_iff_mem] at gd
  have hgl : c ∈ d.gl := gd.2.2.2.1 _ hg
  have hm := He.glo_ok A.kx A.ns (A.says.fact (f := .glo c) (by simp [Hd.fa, hgl]))
  have mt := A.says.fact (f := .meth c y) (by simp only [Hd.fa, List.mem_append, List.mem_map]; exact .inr (.inr (.inr (.inr (.inr (.inl ⟨_, hg, rfl⟩))))))
  obtain ⟨c1, mt⟩ := He.ba mt
  obtain ⟨c2, c3⟩ := He.ba mt
  exact ⟨_, _, k + 1, hm, He.eqO_ok c1, c2, c3, fnIn_of F, Nat.le_refl _, .of (def_ok A.wld (fun_of F) Sc hc (cals_of cs) A.tb) (FunD.bindsN F hb) rfl⟩
/-- a method with a default: all parameters written -/
theorem mth_Dd (A : Al P w d K mg h base) (i : Nat) {c y q : Str} {dd : Int} (hd : d.fn[i]? = some (mOfD c y q dd st)) (hg : (c, y) ∈ d.ms) (Sc : FnScope N ps (defScope st)) (hb : BndD y q st ps ps.length 1)
    (cs : Cals P w K mg base k fns ms prs mks fs) (hc : chkB ⟨N, defScope st, none, fns, ms, prs, mks, d.tb⟩ b (defBody st) = true) : Mth P w K mg base (k + 3) c y ps.length (runB fs N.length b) := by
  obtain ⟨fd, F⟩ := A.says.def_ i hd
  have gd := A.good
  simp only [Hd.good, Bool.and_eq_true, List.all_eq_true, List.contains_iff_mem] at gd
  have hgl : c ∈ d.gl := gd.2.2.2.1 _ hg
  have hm := He.glo_ok A.kx A.ns (A.says.fact (f := .glo c) (by simp [Hd.fa, hgl]))
  have mt := A.says.fact (f := .meth c y) (by simp only [Hd.fa, List.mem_append, List.mem_map]; exact .inr (.inr (.inr (.inr (.inr (.inl ⟨_, hg, rfl⟩))))))
  obtain ⟨c1, mt⟩ := He.ba mt
  obtain ⟨c2, c3⟩ := He.ba mt
  have F' : FunD K y q (defArgs st) (defBody st) (defScope st) [V.int dd] [] (He.ma K (He.ga K c) y) fd := F
  obtain ⟨ds, hv, hbs⟩ := FunD.binds1 (ps := ps) F' ps.length 1 (by simp) (by simp) hb
  have e : ds = [] := by cases hv; rfl
  subst e
  exact ⟨_, _, k + 1, hm, He.eqO_ok c1, c2, c3, fnIn_of F', Nat.le_refl _, .of (def_ok A.wld (fun_of F') Sc hc (cals_of cs) A.tb) hbs rfl⟩
/-- .. the last one left to its default -/
theorem mth_De (A : Al P w d K mg h base) (i : Nat) {c y q : Str} {dd : Int} {n : Nat} (hd : d.fn[i]? = some (mOfD c y q dd st)) (hg : (c, y) ∈ d.ms) (Sc : FnScope N ps (defScope st)) (hn : n + 1 = ps.length) (hb : BndD y q st ps n 0)
    (cs : Cals P w K mg base k fns ms prs mks fs) (hc : chkB ⟨N, defScope st, none, fns, ms, prs, mks, d.tb⟩ b (defBody st) = true) : Mth P w K mg base (k + 3) c y n (fun ds m => runB fs N.length b (ds ++ [.int dd]) m) := by
  obtain ⟨fd, F⟩ := A.says.def_ i hd
  have gd := A.good
  simp only [Hd.good, Bool.and_eq_true, List.all_eq_true, List.contains_iff_mem] at gd
  have hgl : c ∈ d.gl := gd.2.2.2.1 _ hg
  have hm := He.glo_ok A.kx A.ns (A.says.fact (f := .glo c) (by simp [Hd.fa, hgl]))
  have mt := A.says.fact (f := .meth c y) (by simp only [Hd.fa, List.mem_append, List.mem_map]; exact .inr (.inr (.inr (.inr (.inr (.inl ⟨_, hg, rfl⟩))))))
  obtain ⟨c1, mt⟩ := He.ba mt
  obtain ⟨c2, c3⟩ := He.ba mt
  have F' : FunD K y q (defArgs st) (defBody st) (defScope st) [V.int dd] [] (He.ma K (He.ga K c) y) fd := F
  obtain ⟨ds, hv, hbs⟩ := FunD.binds1 (ps := ps) F' n 0 (by simp) (by simpa using hn) hb
  have G := def_ok (ps := ps) A.wld (fun_of F') Sc hc (cals_of cs) A.tb
  refine ⟨_, _, k + 1, hm, He.eqO_ok c1, c2, c3, fnIn_of F', Nat.le_refl _, fd, ps, [V.int dd], ds, _, G, hbs, hv, by simpa using hn, ?_⟩
  rintro vs H Q E hl ⟨_, rho, F0, es, m, A0, r, q⟩
  exact ⟨by rw [List.length_append, hl]; exact hn, rho, F0, es ++ [.int dd], m, A0, r.append (.cons .int .nil), q⟩
theorem prp_D (A : Al P w d K mg h base) (i : Nat) {c y q : Str} (hd : d.pf[i]? = some (pOf c y q st)) (Sc : FnScope N ps (defScope st)) (hb : Bnd y q st ps) (hl : ps.length = 1)
    (cs : Cals P w K mg base k fns ms prs mks fs) (hc : chkB ⟨N, defScope st, none, fns, ms, prs, mks, d.tb⟩ b (defBody st) = true) : Prp P w K mg base (k + 3) c y (runB fs N.length b) := by
  obtain ⟨po, fd, F⟩ := A.says.prop_ i hd
  have gd := A.good
  simp only [Hd.good, Bool.and_eq_true, List.all_eq_true, List.contains_iff_mem] at gd
  have hgl : c ∈ d.gl := gd.2.2.2.2.2.2.1 _ (List.mem_of_getElem? hd)
  have hm := He.glo_ok A.kx A.ns (A.says.fact (f := .glo c) (by simp [Hd.fa, hgl]))
  have G := def_ok (ps := ps) A.wld (fun_of F) Sc hc (cals_of cs) A.tb
  rw [hl] at G
  exact ⟨_, _, _, fd, ps, k + 1, hm, po, FunD.bindsN F hb, hl, Nat.le_refl _, G⟩
theorem mk_of (A : Al P w d K mg h base) {c : Str} (hg : c ∈ d.mks) : mg c = some (.ref (He.ga K c)) ∧ (c == ("__debug__" : Str)) = false ∧ Mk K (He.ga K c) (He.ma K (He.ga K c) "__init__") := by
  have gd := A.good
  simp only [Hd.good, Bool.and_eq_true, List.all_eq_true, List.contains_iff_mem, Bool.not_eq_true'] at gd
  have hgl := gd.2.2.2.2.2.1 _ hg
  have hm := He.glo_ok A.kx A.ns (A.says.fact (f := .glo c) (by simp [Hd.fa, hgl.1]))
  have mt := A.says.fact (f := .mkr c) (by simp only [Hd.fa, List.mem_append, List.mem_map]; exact .inr (.inr (.inr (.inr (.inr (.inr (.inr (.inr ⟨_, hg, rfl⟩))))))))
  exact ⟨hm, hgl.2, He.mkr_ok mt⟩
theorem mkr_D (A : Al P w d K mg h base) (i : Nat) {c q : Str} {n : Nat} (hd : d.fn[i]? = some (mOf c "__init__" q st)) (hg : c ∈ d.mks) (Sc : FnScope N ps (defScope st)) (hb : Bnd "__init__" q st ps) (hl : ps.length = n + 1)
    (cs : Cals P w K mg base k fns ms prs mks fs) (hc : chkB ⟨N, defScope st, none, fns, ms, prs, mks, d.tb⟩ b (defBody st) = true) : Mkr P w K mg base (k + 3) c n none (runB fs N.length b) := by
  obtain ⟨fd, F⟩ := A.says.def_ i hd
  obtain ⟨e1, e2, e3⟩ := mk_of A hg
  have G := def_ok (ps := ps) A.wld (fun_of F) Sc hc (cals_of cs) A.tb
  rw [hl] at G
  exact ⟨_, _, fd, ps, k + 1, e1, e2, e3, Nat.le_refl _, FunD.bindsN F hb, hl, G⟩
/-- how a keyword-only parameter is bound: by its keyword, by its default -/
def BndK (q : Str) (st : Stmt) (ps : List Str) (x : Str) (n : Nat) : Prop := ∀ (D : Addr) (doc pm : Value) (an : Option Addr) (cdv ct : Value) (us mv ws : List Value), us.length = n → mv.length = 0 → ws.length = 1 →
  KwChain D (([] : List Str).zip mv) (bindArgs (PySem.W.fnOf "__init__" q (defArgs st) (defBody st) (defScope st) .none (.ref D) doc pm an cdv ct) ⟨us, [x].zip ws⟩) (ps.zip (us ++ ws))
def BndE (q : Str) (st : Stmt) (ps : List Str) (x : Str) (n : Nat) : Prop := ∀ (D : Addr) (doc pm : Value) (an : Option Addr) (cdv ct : Value) (us mv ws : List Value), us.length = n → mv.length = 1 → ws.length = 0 →
  KwChain D ([x].zip mv) (bindArgs (PySem.W.fnOf "__init__" q (defArgs st) (defBody st) (defScope st) .none (.ref D) doc pm an cdv ct) ⟨us, ([] : List Str).zip ws⟩) (ps.zip (us ++ mv))
theorem mkrK_D (A : Al P w d K mg h base) (i : Nat) {c q x : Str} {dd : Int} {n : Nat} (hd : d.fn[i]? = some (kOf c q x dd st)) (hg : c ∈ d.mks) (Sc : FnScope N ps (defScope st)) (hb : BndK q st ps x (n + 1)) (he : BndE q st ps x (n + 1)) (hl : ps.length = n + 2)
    (cs : Cals P w K mg base k fns ms prs mks fs) (hc : chkB ⟨N, defScope st, none, fns, ms, prs, mks, d.tb⟩ b (defBody st) = true) : Mkr P w K mg base (k + 3) c n (some (x, dd)) (runB fs N.length b) := by
  obtain ⟨fd, F⟩ := A.says.def_ i hd
  obtain ⟨e1, e2, e3⟩ := mk_of A hg
  have F' : FunD K "__init__" q (defArgs st) (defBody st) (defScope st) [] [(x, V.int dd)] (He.ma K (He.ga K c) "__init__") fd := F
  have G := def_ok (ps := ps) A.wld (fun_of F') Sc hc (cals_of cs) A.tb
  rw [hl] at G
  obtain ⟨mv1, k1⟩ := FunD.kbinds0 (ps := ps) F' (n + 1) [x] [] (fun us _ ws => us ++ ws) (by simp) (fun q hq => by cases hq) (fun r1 _ r3 => r1.append r3) hb
  obtain ⟨mv2, k2⟩ := FunD.kbinds0 (ps := ps) F' (n + 1) [] [(x, V.int dd)] (fun us mv _ => us ++ mv) (by simp) (fun q hq => hq) (fun r1 r2 _ => r1.append r2) he
  exact ⟨_, _, fd, ps, k + 1, e1, e2, e3, Nat.le_refl _, hl, G, ⟨_, k1⟩, ⟨_, k2⟩⟩
/-- the law's own def -/
theorem law_D (A : Al P w d K mg h base) {x : Str} {fd : FuncData} (F : FunD K x x (defArgs st) (defBody st) (defScope st) [] [] (He.ga K x) fd) (Sc : FnScope N ps (defScope st))
    (cs : Cals P w K mg base k fns ms prs mks fs) (hc : chkB ⟨N, defScope st, none, fns, ms, prs, mks, d.tb⟩ b (defBody st) = true) : FnG P w K mg base (k + 1) (He.ga K x) fd ps (spD K mg ps.length (runB fs N.length b)) :=
  def_ok A.wld (fun_of F) Sc hc (cals_of cs) A.tb
end
end
end HB
namespace HB
open PySem L2
/-! ### small data: their texts -/
def strB (x : Str) : Bool := decide (x.length ≤ 100) && x.cps.toList.all (fun c => decide (c < 0x110000))
def small : Nat → D → Bool
  | _, .non => true
  | _, .bl _ => true
  | _, .int i => decide (i.natAbs.log2 < 1920)
  | _, .str x => strB x
  | n + 1, .tup ds => decide (ds.length ≤ 4) && ds.all (small n)
  | n + 1, .lst ds => decide (ds.length ≤ 4) && ds.all (small n)
  | n + 1, .dct kvs => decide (kvs.length ≤ 4) && kvs.all fun p => small n p.1 && small n p.2
  | _, _ => false
def smB : Nat → Nat
  | 0 => 2000
  | n + 1 => 9 * smB n
theorem smB_ge : ∀ n, 2000 ≤ smB n
  | 0 => Nat.le_refl _
  | n + 1 => by have := smB_ge n; unfold smB; omega
theorem smB_mono (n : Nat) : smB n ≤ smB (n + 1) := by show smB n ≤ 9 * smB n; omega
/-- what a text costs -/
structure Shw (p : PyData) (k n : Nat) : Prop where
  s : p.showable = true
  d : p.depth ≤ k
  l : p.shown.length ≤ n
structure ShwL (ps : List PyData) (k n : Nat) : Prop where
  s : PyData.showableAll ps = true
  d : PyData.depthAll ps ≤ k
  l : piled (PyData.shownAll ps) ≤ n
theorem shwL_of {k B : Nat} : ∀ (ds : List D), (∀ d ∈ ds, ∃ p, pyR d = some p ∧ Shw p k B) → ∃ ps, pyRL ds = some ps ∧ ShwL ps k (ds.length * (B + 2))
  | [], _ => ⟨[], rfl, ⟨rfl, Nat.zero_le _, Nat.zero_le _⟩⟩
  | d :: ds, h => by
    obtain ⟨p, h1, h2⟩ := h d List.mem_cons_self
    obtain ⟨ps, h3, h4⟩ := shwL_of ds fun x hx => h x (List.mem_cons_of_mem _ hx)
    refine ⟨p :: ps, by simp [pyRL, h1, h3], ⟨by simp [PyData.showableAll, h2.s, h4.s], ?_, ?_⟩⟩
    · simp only [PyData.depthAll]; exact Nat.max_le.mpr ⟨h2.d, h4.d⟩
    · simp only [PyData.shownAll, piled_cons, List.length_cons]
      have := h2.l
      have := h4.l
      rw [Nat.succ_mul]; omega
structure ShwK (ps : List (PyData × PyData)) (k n : Nat) : Prop where
  s : PyData.showableKv ps = true
  d : PyData.depthKv ps ≤ k
  l : piled (PyData.shownKv ps) ≤ n
theorem shwK_of {k B : Nat} : ∀ (ds : List (D × D)), (∀ d ∈ ds, (∃ p, pyR d.1 = some p ∧ Shw p k B) ∧ ∃ p, pyR d.2 = some p ∧ Shw p k B) → ∃ ps, pyRK ds = some ps ∧ ShwK ps k (ds.length * (2 * B + 4))
  | [], _ => ⟨[], rfl, ⟨rfl, Nat.zero_le _, Nat.zero_le _⟩⟩
  | (a, b) :: ds, h => by
    obtain ⟨⟨p, h1, h2⟩, q, h5, h6⟩ := h (a, b) List.mem_cons_self
    obtain ⟨ps, h3, h4⟩ := shwK_of ds fun x hx => h x (List.mem_cons_of_mem _ hx)
    refine ⟨(p, q) :: ps, by simp only at h1 h5; simp [pyRK, h1, h3, h5], ⟨by simp [PyData.showableKv, h2.s, h6.s, h4.s], ?_, ?_⟩⟩
    · simp only [PyData.depthKv]; exact Nat.max_le.mpr ⟨Nat.max_le.mpr ⟨h2.d, h6.d⟩, h4.d⟩
    · simp only [PyData.shownKv, piled_cons, List.length_cons, strLen_append]
      have := h2.l
      have := h4.l
      have := h6.l
      have e : ((": " : String) : Str).length = 2 := rfl
      rw [Nat.succ_mul, e]; omega
theorem piled_sum : ∀ ts : List Str, (ts.map (·.length)).sum + 2 * ts.length = piled ts
  | [] => rfl
  | t :: ts => by
    have := piled_sum ts
    simp only [List.map_cons, List.sum_cons, List.length_cons, piled_cons]; omega
theorem listText_le (ts : List Str) : (listText ts).length ≤ piled ts + 3 := by
  have h := listText_len_le ts
  rw [← piled_sum]; exact h
theorem join_le (ts : List Str) : (Str.join ", " ts).length ≤ piled ts := by
  cases ts with
  | nil => exact Nat.zero_le _
  | cons t ts =>
    have := join_length_add (t :: ts) (by simp)
    omega
theorem tupleText_le (ts : List Str) : (tupleText ts).length ≤ piled ts + 3 := by
  unfold tupleText
  rw [strLen_append, strLen_append]
  have h := join_le ts
  have e1 : ((("(" : String) : Str)).length = 1 := rfl
  have e2 : ((if ts.length == 1 then ",)" else ")" : String) : Str).length ≤ 2 := by split <;> decide
  omega
theorem dictText_le (ts : List Str) : (dictText ts).length ≤ piled ts + 2 := by
  unfold dictText
  rw [strLen_append, strLen_append]
  have h := join_le ts
  have e1 : ((("{" : String) : Str)).length = 1 := rfl
  have e2 : ((("}" : String) : Str)).length = 1 := rfl
  omega
theorem small_shw : ∀ (n : Nat) (d : D), small n d = true → ∃ p, pyR d = some p ∧ Shw p n (smB n) := by
  have flat : ∀ n d, small n d = true → (match d with
      | .tup _ => False
      | .lst _ => False
      | .dct _ => False
      | _ => True) → ∃ p, pyR d = some p ∧ Shw p n (smB n) := by
    intro n d h hd
    have hb := smB_ge n
    cases d with
    | non => exact ⟨_, rfl, ⟨rfl, Nat.zero_le _, Nat.le_trans (by decide : 4 ≤ 2000) hb⟩⟩
    | bl b => exact ⟨_, rfl, ⟨rfl, Nat.zero_le _, Nat.le_trans (by cases b <;> decide) hb⟩⟩
    | int i =>
      have hi : i.natAbs.log2 < 1920 := by cases n <;> simpa [small] using h
      refine ⟨_, rfl, ⟨by simp [PyData.showable, hi], Nat.zero_le _, Nat.le_trans (Nat.le_trans (PyProof.Rows.int_text_len_1921 hi) (by decide)) hb⟩⟩
    | str x =>
      have hx : strB x = true := by cases n <;> simpa [small] using h
      simp only [strB, Bool.and_eq_true, decide_eq_true_eq, List.all_eq_true] at hx
      refine ⟨_, rfl, ⟨rfl, Nat.zero_le _, ?_⟩⟩
      have := StrLaws.reprText_len x (fun c hc => Nat.lt_of_lt_of_le (hx.2 c hc) (by decide))
      show (reprText x).length ≤ _
      omega
    | tup _ => exact hd.elim
    | lst _ => exact hd.elim
    | dct _ => exact hd.elim
    | obj _ _ => cases n <;> simp [small] at h
    | exv _ _ => cases n <;> simp [small] at h
    | ref _ => cases n <;> simp [small] at h
    | scr _ => cases n <;> simp [small] at h
  intro n
  induction n with
  | zero =>
    intro d h
    refine flat 0 d h ?_
    cases d <;> first | trivial | (simp [small] at h)
  | succ n ih =>
    intro d h
    cases d with
    | tup ds =>
      simp only [small, Bool.and_eq_true, decide_eq_true_eq, List.all_eq_true] at h
      obtain ⟨ps, h1, h2⟩ := shwL_of ds fun d hd => ih d (h.2 d hd)
      refine ⟨.tuple ps, by simp [pyR, h1], ⟨by simpa [PyData.showable] using h2.s, by simpa [PyData.depth] using h2.d, ?_⟩⟩
      have e := tupleText_le (PyData.shownAll ps)
      have := h2.l
      have hb := smB_ge n
      have hm : ds.length * (smB n + 2) ≤ 4 * (smB n + 2) := Nat.mul_le_mul_right _ h.1
      show (tupleText (PyData.shownAll ps)).length ≤ 9 * smB n
      omega
    | lst ds =>
      simp only [small, Bool.and_eq_true, decide_eq_true_eq, List.all_eq_true] at h
      obtain ⟨ps, h1, h2⟩ := shwL_of ds fun d hd => ih d (h.2 d hd)
      refine ⟨.list ps, by simp [pyR, h1], ⟨by simpa [PyData.showable] using h2.s, by simpa [PyData.depth] using h2.d, ?_⟩⟩
      have e := listText_le (PyData.shownAll ps)
      have := h2.l
      have hb := smB_ge n
      have hm : ds.length * (smB n + 2) ≤ 4 * (smB n + 2) := Nat.mul_le_mul_right _ h.1
      show (listText (PyData.shownAll ps)).length ≤ 9 * smB n
      omega
    | dct ds =>
      simp only [small, Bool.and_eq_true, decide_eq_true_eq, List.all_eq_true] at h
      obtain ⟨ps, h1, h2⟩ := shwK_of ds fun d hd => ⟨ih _ (h.2 d hd).1, ih _ (h.2 d hd).2⟩
      refine ⟨.dict ps, by simp [pyR, h1], ⟨by simpa [PyData.showable] using h2.s, by simpa [PyData.depth] using h2.d, ?_⟩⟩
      have e := dictText_le (PyData.shownKv ps)
      have := h2.l
      have hb := smB_ge n
      have hm : ds.length * (2 * smB n + 4) ≤ 4 * (2 * smB n + 4) := Nat.mul_le_mul_right _ h.1
      show (dictText (PyData.shownKv ps)).length ≤ 9 * smB n
      omega
    | non => exact flat _ _ h trivial
    | bl b => exact flat _ _ h trivial
    | int i => exact flat _ _ h trivial
    | str x => exact flat _ _ h trivial
    | obj _ _ => exact flat _ _ h trivial
    | exv _ _ => exact flat _ _ h trivial
    | ref _ => exact flat _ _ h trivial
    | scr _ => exact flat _ _ h trivial
theorem repr_small {n : Nat} (hn : n ≤ 4) {d : D} (h : small n d = true) (m : M) : ∃ s, reprD [d] m = .ok (.str s) m := by
  obtain ⟨p, h1, h2⟩ := small_shw n d h
  have hl : smB n ≤ sizeLine := by
    rw [sizeLine_eq]
    match n, hn with
    | 0, _ => decide
    | 1, _ => decide
    | 2, _ => decide
    | 3, _ => decide
    | 4, _ => decide
  have e : pyRT d m = some p := by
    cases d <;> first | exact h1 | (cases n <;> simp [small] at h)
  refine ⟨p.shown, ?_⟩
  simp only [reprD, e]
  rw [if_pos ⟨h2.s, Nat.le_trans h2.d (by omega), Nat.le_trans h2.l hl⟩]
theorem norefL_all : ∀ {ds : List D}, (∀ d ∈ ds, noref d = true) → norefL ds = true
  | [], _ => rfl
  | d :: ds, h => by simp [norefL, h d List.mem_cons_self, norefL_all fun x hx => h x (List.mem_cons_of_mem _ hx)]
theorem norefK_all : ∀ {ds : List (D × D)}, (∀ d ∈ ds, noref d.1 = true ∧ noref d.2 = true) → norefK ds = true
  | [], _ => rfl
  | (a, b) :: ds, h => by
    have := h (a, b) List.mem_cons_self
    simp [norefK, this.1, this.2, norefK_all fun x hx => h x (List.mem_cons_of_mem _ hx)]
theorem small_noref : ∀ (n : Nat) (d : D), small n d = true → noref d = true := by
  intro n
  induction n with
  | zero => intro d h; cases d <;> first | rfl | (simp [small] at h)
  | succ n ih =>
    intro d h
    cases d with
    | tup ds =>
      simp only [small, Bool.and_eq_true, decide_eq_true_eq, List.all_eq_true] at h
      simp only [noref]; exact norefL_all fun d hd => ih d (h.2 d hd)
    | lst ds =>
      simp only [small, Bool.and_eq_true, decide_eq_true_eq, List.all_eq_true] at h
      simp only [noref]; exact norefL_all fun d hd => ih d (h.2 d hd)
    | dct ds =>
      simp only [small, Bool.and_eq_true, decide_eq_true_eq, List.all_eq_true] at h
      simp only [noref]; exact norefK_all fun d hd => ⟨ih _ (h.2 d hd).1, ih _ (h.2 d hd).2⟩
    | non => rfl
    | bl b => rfl
    | int i => rfl
    | str x => rfl
    | obj _ _ => simp [small] at h
    | exv _ _ => simp [small] at h
    | ref _ => simp [small] at h
    | scr _ => simp [small] at h
theorem small_up : ∀ (n : Nat) (d : D), small n d = true → small (n + 1) d = true := by
  intro n
  induction n with
  | zero => intro d h; cases d <;> first | exact h | (simp [small] at h)
  | succ n ih =>
    intro d h
    cases d with
    | tup ds =>
      simp only [small, Bool.and_eq_true, decide_eq_true_eq, List.all_eq_true] at h ⊢
      exact ⟨h.1, fun d hd => ih d (h.2 d hd)⟩
    | lst ds =>
      simp only [small, Bool.and_eq_true, decide_eq_true_eq, List.all_eq_true] at h ⊢
      exact ⟨h.1, fun d hd => ih d (h.2 d hd)⟩
    | dct ds =>
      simp only [small, Bool.and_eq_true, decide_eq_true_eq, List.all_eq_true] at h ⊢
      exact ⟨h.1, fun d hd => ⟨ih _ (h.2 d hd).1, ih _ (h.2 d hd).2⟩⟩
    | non => rfl
    | bl b => rfl
    | int i => exact h
    | str x => exact h
    | obj _ _ => simp [small] at h
    | exv _ _ => simp [small] at h
    | ref _ => simp [small] at h
    | scr _ => simp [small] at h
/-! ### isinstance of plain data -/
def tyP : D → String
  | .non => "NoneType" | .bl _ => "bool" | .int _ => "int" | .str _ => "str" | .tup _ => "tuple" | .lst _ => "list" | .dct _ => "dict" | _ => ""
def plainD : D → Bool
  | .obj _ _ => false | .exv _ _ => false | .ref _ => false | .scr _ => false | _ => true
theorem small_plain {n : Nat} {d : D} (h : small n d = true) : plainD d = true := by
  cases d <;> first | rfl | (cases n <;> simp [small] at h)
theorem isi_all : (["NoneType", "bool", "int", "str", "tuple", "list", "dict"].all fun t => clsNames.all fun c => decide (kitB t c = some (isiB t c))) = true := by decide +kernel
theorem isi_plain {d : D} {c : String} {m : M} (h : plainD d = true) (hc : c ∈ clsNames) : isiD d c m = .ok (.bl (isiB (tyP d) c)) m := by
  have key : ∀ t ∈ ["NoneType", "bool", "int", "str", "tuple", "list", "dict"], kitB t c = some (isiB t c) := by
    intro t ht
    have z := isi_all
    rw [List.all_eq_true] at z
    have z2 := z t ht
    rw [List.all_eq_true] at z2
    exact of_decide_eq_true (z2 c hc)
  unfold isiD
  have e : tyD d m = some (tyP d) := by cases d <;> first | rfl | (simp [plainD] at h)
  have e2 : tyP d ∈ ["NoneType", "bool", "int", "str", "tuple", "list", "dict"] := by cases d <;> first | (simp [tyP]; done) | (simp [plainD] at h)
  rw [e]
  simp only
  rw [key _ e2]
end HB
namespace HB
open PySem L2
/-! ### steps of the evaluator -/
theorem R.bind_ok {α β : Type} {a : α} {m : M} {k : α → M → R β} : (R.ok a m).bind k = k a m := rfl
theorem R.bind_ex {α β : Type} {c : Exc} {m : M} {k : α → M → R β} : (R.ex c m : R α).bind k = .ex c m := rfl
theorem R.st_ok {α : Type} {a : α} {m : M} {env : Env} {k : α → M → RS} : (R.ok a m).st env k = k a m := rfl
theorem R.st_ex {α : Type} {c : Exc} {m : M} {env : Env} {k : α → M → RS} : (R.ex c m : R α).st env k = .ex c env m := rfl
theorem truth_bl {b : Bool} {m : M} : truthB (.bl b) m = .ok b m := rfl
theorem truth_int {i : Int} {m : M} : truthB (.int i) m = .ok (i != 0) m := rfl
section
variable {fs : List Sem} {env : Env} {m m1 m2 m3 : M}
theorem ev_var {i : Nat} {d : D} (h : env[i]? = some (some d)) : evE fs (.var i) env m = .ok d m := by simp only [evE, h]
theorem ev_int {i : Int} : evE fs (.int i) env m = .ok (.int i) m := by simp only [evE]
theorem ev_bl {i : Bool} : evE fs (.bl i) env m = .ok (.bl i) m := by simp only [evE]
theorem ev_str {i : Str} : evE fs (.str i) env m = .ok (.str i) m := by simp only [evE]
theorem ev_non : evE fs .non env m = .ok .non m := by simp only [evE]
theorem ev_gint {x : Str} {i : Int} : evE fs (.gint x i) env m = .ok (.int i) m := by simp only [evE]
theorem ev_neg {a : T} {i : Int} (ha : evE fs a env m = .ok (.int i) m1) : evE fs (.neg a) env m = .ok (.int (-i)) m1 := by simp only [evE, ha, R.bind_ok]
theorem ev_bin {o : BOp} {a b : T} {d e : D} {r : R D} (ha : evE fs a env m = .ok d m1) (hb : evE fs b env m1 = .ok e m2) (h : bopD o d e m2 = r) : evE fs (.bin o a b) env m = r := by simp only [evE, ha, hb, R.bind_ok, h]
theorem ev_cmp {o : COp} {a b : T} {d e : D} {r : R D} (ha : evE fs a env m = .ok d m1) (hb : evE fs b env m1 = .ok e m2) (h : copD o d e m2 = r) : evE fs (.cmp o a b) env m = r := by simp only [evE, ha, hb, R.bind_ok, h]
theorem ev_chain {o p : COp} {a b c : T} {d e g : D} {x y : Bool} (ha : evE fs a env m = .ok d m1) (hb : evE fs b env m1 = .ok e m2) (h : copD o d e m2 = .ok (.bl x) m2) (hc : x = true → evE fs c env m2 = .ok g m3 ∧ copD p e g m3 = .ok (.bl y) m3 ∧ m3 = m2) :
    evE fs (.chain o p a b c) env m = .ok (.bl (x && y)) m2 := by
  simp only [evE, ha, hb, R.bind_ok, h]
  cases x with
  | true =>
    obtain ⟨h1, h2, rfl⟩ := hc rfl
    simp only [h1, R.bind_ok, h2, Bool.true_and]
  | false => simp only [Bool.false_and]
theorem ev_and {a b : T} {x y : Bool} (ha : evE fs a env m = .ok (.bl x) m1) (hb : x = true → evE fs b env m1 = .ok (.bl y) m1) : evE fs (.and a b) env m = .ok (.bl (x && y)) m1 := by
  simp only [evE, ha, R.bind_ok, truth_bl]
  cases x with
  | true => simp only [if_true, hb rfl, Bool.true_and]
  | false => simp
theorem ev_or {a b : T} {x y : Bool} (ha : evE fs a env m = .ok (.bl x) m1) (hb : x = false → evE fs b env m1 = .ok (.bl y) m1) : evE fs (.or a b) env m = .ok (.bl (x || y)) m1 := by
  simp only [evE, ha, R.bind_ok, truth_bl]
  cases x with
  | true => simp
  | false => simp [hb rfl]
theorem ev_not {a : T} {x : Bool} (ha : evE fs a env m = .ok (.bl x) m1) : evE fs (.not a) env m = .ok (.bl (!x)) m1 := by simp only [evE, ha, R.bind_ok, truth_bl]
theorem ev_ite {c a b : T} {x : Bool} {r : R D} (hc : evE fs c env m = .ok (.bl x) m1) (h1 : x = true → evE fs a env m1 = r) (h2 : x = false → evE fs b env m1 = r) : evE fs (.ite c a b) env m = r := by
  simp only [evE, hc, R.bind_ok, truth_bl]
  cases x with
  | true => simpa using h1 rfl
  | false => simpa using h2 rfl
theorem ev_isi {a : T} {c : String} {d : D} (ha : evE fs a env m = .ok d m1) (h : plainD d = true) (hc : c ∈ clsNames := by decide) : evE fs (.isi a c) env m = .ok (.bl (isiB (tyP d) c)) m1 := by simp only [evE, ha, R.bind_ok, isi_plain h hc]
theorem ev_blt {b : BF} {es : T} {ds : List D} {r : R D} (he : evA fs es env m = .ok ds m1) (h : bfD b ds m1 = r) : evE fs (.blt b es) env m = r := by simp only [evE, he, R.bind_ok, h]
theorem ev_nil : evA fs .nil env m = .ok [] m := by simp only [evA]
theorem ev_cons {a es : T} {d : D} {ds : List D} (ha : evE fs a env m = .ok d m1) (he : evA fs es env m1 = .ok ds m2) : evA fs (.cons a es) env m = .ok (d :: ds) m2 := by simp only [evA, ha, he, R.bind_ok]
theorem ev_ix {a b : T} {d e : D} {r : R D} (ha : evE fs a env m = .ok d m1) (hb : evE fs b env m1 = .ok e m2) (h : ixD d e m2 = r) : evE fs (.ix a b) env m = r := by simp only [evE, ha, hb, R.bind_ok, h]
theorem ev_tup {es : T} {ds : List D} (he : evA fs es env m = .ok ds m1) (h : ds.length ≤ 1000) : evE fs (.tup es) env m = .ok (.tup ds) m1 := by
  simp only [evE, he, R.bind_ok]
  rw [if_pos (by rw [sizeLine_eq]; omega)]
theorem ev_lst {es : T} {ds : List D} (he : evA fs es env m = .ok ds m1) (h : ds.length ≤ 1000) : evE fs (.lst es) env m = .ok (.lst ds) m1 := by
  simp only [evE, he, R.bind_ok]
  rw [if_pos (by rw [sizeLine_eq]; omega)]
theorem ev_tupB {es : T} {ds : List D} (he : evA fs es env m = .ok ds m1) (h : Nat.ble ds.length 1000 = true) : evE fs (.tup es) env m = .ok (.tup ds) m1 := ev_tup he (Nat.le_of_ble_eq_true h)
theorem ev_lstB {es : T} {ds : List D} (he : evA fs es env m = .ok ds m1) (h : Nat.ble ds.length 1000 = true) : evE fs (.lst es) env m = .ok (.lst ds) m1 := ev_lst he (Nat.le_of_ble_eq_true h)
theorem ev_dct0 : evE fs .dct0 env m = .ok (.dct []) m := by simp only [evE]
theorem ev_dctI {i j : Int} : evE fs (.dctI i j) env m = .ok (.dct [(.int i, .int j)]) m := by simp only [evE]
theorem ev_lstM {es : T} {ds : List D} (he : evA fs es env m = .ok ds m1) (h : ds.length ≤ 1000) : evE fs (.lstM es) env m = .ok (.ref m1.length) (m1 ++ [.lst ds]) := by
  simp only [evE, he, R.bind_ok]
  rw [if_pos (by rw [sizeLine_eq]; omega)]
theorem ev_call {j : Nat} {es : T} {ds : List D} {sem : Sem} {r : R D} (he : evA fs es env m = .ok ds m1) (hj : fs[j]? = some sem) (h : callD sem ds m1 = r) : evE fs (.call j es) env m = r := by simp only [evE, he, R.bind_ok, hj, h]
theorem ev_join {a b : T} {x : Str} {e : D} {r : R D} (ha : evE fs a env m = .ok (.str x) m1) (hb : evE fs b env m1 = .ok e m2) (h : joinD (.str x) e m2 = r) : evE fs (.join a b) env m = r := by simp only [evE, ha, hb, R.bind_ok, h]
theorem ev_rng1 {a : T} {j : Int} (ha : evE fs a env m = .ok (.int j) m1) (h0 : -(2 ^ 62) ≤ j) (h1 : j < 2 ^ 62) : evE fs (.rng1 a) env m = .ok (.lst ((List.range j.toNat).map fun (i : Nat) => D.int (i : Int))) m1 := by
  simp only [evE, ha, R.bind_ok, rngD]
  rw [if_pos ⟨h0, h1⟩]
theorem ev_slH {a hi : T} {d : D} {v : Int} {r : R D} (ha : evE fs a env m = .ok d m1) (hn : isNoP hi = false) (hh : evE fs hi env m1 = .ok (.int v) m2) (h : slD d none (some v) m2 = r) : evE fs (.sl a .noP hi) env m = r := by
  have e : isNoP .noP = true := rfl
  simp only [evE, ha, R.bind_ok, e, hn, Bool.false_eq_true, if_true, if_false, hh, partD, h]
theorem ev_slL {a lo : T} {d : D} {v : Int} {r : R D} (ha : evE fs a env m = .ok d m1) (hn : isNoP lo = false) (hh : evE fs lo env m1 = .ok (.int v) m2) (h : slD d (some v) none m2 = r) : evE fs (.sl a lo .noP) env m = r := by
  have e : isNoP .noP = true := rfl
  simp only [evE, ha, R.bind_ok, e, hn, Bool.false_eq_true, if_true, if_false, hh, partD, h]
theorem st_nil : evS fs .nil env m = .nx env m := by simp only [evS]
theorem st_ret {e : T} {r : S} {d : D} (h : evE fs e env m = .ok d m1) : evS fs (.cons (.ret e) r) env m = .rt d m1 := by simp only [evS, h, R.st_ok]
theorem st_asg {g : G} {e : T} {r : S} {d : D} {env2 : Env} (h : evE fs e env m = .ok d m1) (hg : asgG g d env = some env2) : evS fs (.cons (.asg g e) r) env m = evS fs r env2 m1 := by simp only [evS, h, R.st_ok, hg]
theorem st_asg1 {i : Nat} {e : T} {r : S} {d : D} (h : evE fs e env m = .ok d m1) : evS fs (.cons (.asg (.name i) e) r) env m = evS fs r (env.set i (some d)) m1 := st_asg h (by simp only [asgG])
theorem st_par {i j : Nat} {a b : T} {r : S} {d e : D} (ha : evE fs a env m = .ok d m1) (hb : evE fs b env m1 = .ok e m2) : evS fs (.cons (.par i j a b) r) env m = evS fs r ((env.set i (some d)).set j (some e)) m2 := by simp only [evS, ha, hb, R.st_ok]
theorem st_par3 {i j l : Nat} {a b c : T} {r : S} {d e f : D} (ha : evE fs a env m = .ok d m1) (hb : evE fs b env m1 = .ok e m2) (hc : evE fs c env m2 = .ok f m3) : evS fs (.cons (.par3 i j l a b c) r) env m = evS fs r (((env.set i (some d)).set j (some e)).set l (some f)) m3 := by
  simp only [evS, ha, hb, hc, R.st_ok]
/-- an if whose branches leave or go on -/
theorem st_ife {c : T} {a b r : S} {x : Bool} (hc : evE fs c env m = .ok (.bl x) m1) : evS fs (.cons (.ife c a b) r) env m = match (if x then evS fs a env m1 else evS fs b env m1) with
    | .nx e m => evS fs r e m
    | y => y := by
  first
    | (simp only [evS, evT, hc, R.bind_ok, truth_bl, R.st_ok]; done)
    | (simp only [evS, evT, hc, R.bind_ok, truth_bl, R.st_ok]; generalize (if x = true then evS fs a env m1 else evS fs b env m1) = q; cases q <;> rfl)
theorem st_ifT {c : T} {a b r : S} {x : Bool} {d : D} (hc : evE fs c env m = .ok (.bl x) m1) (hx : x = true) (ha : evS fs a env m1 = .rt d m2) : evS fs (.cons (.ife c a b) r) env m = .rt d m2 := by
  rw [st_ife hc, hx, if_pos rfl, ha]
theorem st_ifF {c : T} {a r : S} {x : Bool} (hc : evE fs c env m = .ok (.bl x) m1) (hx : x = false) : evS fs (.cons (.ife c a .nil) r) env m = evS fs r env m1 := by
  rw [st_ife hc, hx, if_neg (by simp), st_nil]
theorem st_rai {n f : Str} {fl : Bool} {e : T} {r : S} {d : D} (h : evE fs e env m = .ok d m1) (hp : pvD fl d = true) : evS fs (.cons (.rai n f fl e) r) env m = .ex ⟨n, [(f, d)]⟩ env m1 := by simp only [evS, h, R.st_ok, hp, if_true]
theorem st_exp {e : T} {r : S} {d : D} (h : evE fs e env m = .ok d m1) : evS fs (.cons (.exp e) r) env m = evS fs r env m1 := by simp only [evS, h, R.st_ok]
theorem st_expX {e : T} {r : S} {c : Exc} (h : evE fs e env m = .ex c m1) : evS fs (.cons (.exp e) r) env m = .ex c env m1 := by simp only [evS, h, R.st_ex]
theorem st_retX {e : T} {r : S} {c : Exc} (h : evE fs e env m = .ex c m1) : evS fs (.cons (.ret e) r) env m = .ex c env m1 := by simp only [evS, h, R.st_ex]
theorem st_ifX {c : T} {a b r : S} {x : Bool} {k : Exc} {env2 : Env} (hc : evE fs c env m = .ok (.bl x) m1) (hx : x = true) (ha : evS fs a env m1 = .ex k env2 m2) : evS fs (.cons (.ife c a b) r) env m = .ex k env2 m2 := by
  rw [st_ife hc, hx, if_pos rfl, ha]
theorem st_ifN {c : T} {a b r : S} {x : Bool} {env2 : Env} (hc : evE fs c env m = .ok (.bl x) m1) (hx : x = true) (ha : evS fs a env m1 = .nx env2 m2) : evS fs (.cons (.ife c a b) r) env m = evS fs r env2 m2 := by
  rw [st_ife hc, hx, if_pos rfl, ha]
theorem ev_consX {a es : T} {c : Exc} (ha : evE fs a env m = .ex c m1) : evA fs (.cons a es) env m = .ex c m1 := by simp only [evA, ha, R.bind_ex]
theorem ev_consX2 {a es : T} {d : D} {c : Exc} (ha : evE fs a env m = .ok d m1) (he : evA fs es env m1 = .ex c m2) : evA fs (.cons a es) env m = .ex c m2 := by simp only [evA, ha, he, R.bind_ok, R.bind_ex]
theorem ev_tupX {es : T} {c : Exc} (he : evA fs es env m = .ex c m1) : evE fs (.tup es) env m = .ex c m1 := by simp only [evE, he, R.bind_ex]
theorem st_setix {o i e : T} {r : S} {d k v : D} {m4 : M} (he : evE fs e env m = .ok v m1) (ho : evE fs o env m1 = .ok d m2) (hi : evE fs i env m2 = .ok k m3) (h : setixD d k v m3 = some m4) : evS fs (.cons (.setix o i e) r) env m = evS fs r env m4 := by
  simp only [evS, he, ho, hi, R.st_ok, h]
end
theorem op_fd {i j : Int} {m : M} (h : j ≠ 0) (hl : j.natAbs.log2 < 9000) : bopD .fdiv (.int i) (.int j) m = .ok (.int (i.fdiv j)) m := by simp only [bopD, fdivD]; rw [if_pos ⟨h, hl⟩]
theorem op_md {i j : Int} {m : M} (h : j ≠ 0) : bopD .mod (.int i) (.int j) m = .ok (.int (i.fmod j)) m := by simp only [bopD, modD]; rw [if_pos h]
theorem op_ml {i j : Int} {m : M} (h : i.natAbs.log2 + j.natAbs.log2 < 1000000) : bopD .mul (.int i) (.int j) m = .ok (.int (i * j)) m := by simp only [bopD, mulD]; rw [if_pos h]
theorem op_ad {i j : Int} {m : M} : bopD .add (.int i) (.int j) m = .ok (.int (i + j)) m := rfl
theorem op_sb {i j : Int} {m : M} : bopD .sub (.int i) (.int j) m = .ok (.int (i - j)) m := rfl
theorem op_eqI {i j : Int} {m : M} : copD .eq (.int i) (.int j) m = .ok (.bl (decide (i = j))) m := rfl
theorem op_neI {i j : Int} {m : M} : copD .ne (.int i) (.int j) m = .ok (.bl (!decide (i = j))) m := rfl
theorem op_eqS {i j : Str} {m : M} : copD .eq (.str i) (.str j) m = .ok (.bl (decide (i = j))) m := rfl
theorem op_neS {i j : Str} {m : M} : copD .ne (.str i) (.str j) m = .ok (.bl (!decide (i = j))) m := rfl
theorem op_eqB {i j : Bool} {m : M} : copD .eq (.bl i) (.bl j) m = .ok (.bl (decide (i = j))) m := rfl
theorem op_ltI {i j : Int} {m : M} : copD .lt (.int i) (.int j) m = .ok (.bl (decide (i < j))) m := rfl
theorem op_leI {i j : Int} {m : M} : copD .le (.int i) (.int j) m = .ok (.bl (decide (i ≤ j))) m := rfl
theorem op_gtI {i j : Int} {m : M} : copD .gt (.int i) (.int j) m = .ok (.bl (decide (j < i))) m := rfl
theorem op_geI {i j : Int} {m : M} : copD .ge (.int i) (.int j) m = .ok (.bl (decide (j ≤ i))) m := rfl
/-! ### comprehensions, loops -/
def lcSt (fs : List Sem) (own : List (Str × Nat)) (g : G) (c e : T) (env : Env) (x : D) (m : M) : R (Option D) := match asgG g x (wipeD env (own.map (·.2))) with
  | some env2 => (if isNoP c then R.ok true m else (evE fs c env2 m).bind truthB).bind fun t m => if t then (evE fs e env2 m).bind fun y m => .ok (some y) m else .ok none m
  | none => .no
theorem ev_lc {fs : List Sem} {env : Env} {m m1 m2 : M} {own : List (Str × Nat)} {g : G} {it c e : T} {d : D} {xs ys : List D} (hi : evE fs it env m = .ok d m1) (hv : viewI d m1 = some xs) (hl : xs.length ≤ 1000000) (h : lcGo (lcSt fs own g c e env) xs [] m1 = .ok ys m2) :
    evE fs (.lc own g it c e) env m = .ok (.lst ys) m2 := by
  rw [evE, hi, R.bind_ok, hv]
  dsimp only
  rw [if_pos (by rw [sizeLine_eq]; omega)]
  have e1 : (fun x m => match asgG g x (wipeD env (own.map (·.2))) with
          | some env2 => (if isNoP c then R.ok true m else (evE fs c env2 m).bind truthB).bind fun t m => if t then (evE fs e env2 m).bind fun y m => R.ok (some y) m else .ok none m
          | none => .no) = lcSt fs own g c e env := by
    funext x m
    unfold lcSt
    cases asgG g x (wipeD env (own.map (·.2))) <;> rfl
  have e2 : ∀ q, q = lcGo (lcSt fs own g c e env) xs [] m1 → (q.bind fun ys m => R.ok (D.lst ys) m) = R.ok (D.lst ys) m2 := by
    intro q hq
    rw [hq, h]; rfl
  exact e2 _ (congrArg (fun f => lcGo f xs [] m1) e1)
theorem lc_map {step : D → M → R (Option D)} {f : D → D} {m : M} : ∀ {xs acc : List D}, (∀ x ∈ xs, step x m = .ok (some (f x)) m) → lcGo step xs acc m = .ok (acc ++ xs.map f) m
  | [], acc, _ => by simp [lcGo]
  | x :: xs, acc, h => by
    simp only [lcGo, h x List.mem_cons_self]
    rw [lc_map fun y hy => h y (List.mem_cons_of_mem _ hy)]
    simp
theorem lc_filter {step : D → M → R (Option D)} {p : D → Bool} {m : M} : ∀ {xs acc : List D}, (∀ x ∈ xs, step x m = .ok (if p x then some x else none) m) → lcGo step xs acc m = .ok (acc ++ xs.filter p) m
  | [], acc, _ => by simp [lcGo]
  | x :: xs, acc, h => by
    have h1 := h x List.mem_cons_self
    simp only [lcGo]
    rw [h1]
    cases hp : p x with
    | true =>
      simp only [if_true]
      rw [lc_filter fun y hy => h y (List.mem_cons_of_mem _ hy)]
      simp [hp]
    | false =>
      simp only [Bool.false_eq_true, if_false]
      rw [lc_filter fun y hy => h y (List.mem_cons_of_mem _ hy)]
      simp [hp]
/-- a comprehension whose store goes on -/
theorem lc_inv {step : D → M → R (Option D)} (P : Nat → M → Prop) (Q : D → Prop) : ∀ {xs acc : List D} {m : M} {n : Nat}, P n m → (∀ x ∈ xs, ∀ k m, k < n + xs.length → P k m → ∃ y m2, step x m = .ok (some y) m2 ∧ P (k + 1) m2 ∧ Q y) → ∃ ys m2, lcGo step xs acc m = .ok (acc ++ ys) m2 ∧ P (n + xs.length) m2 ∧ ys.length = xs.length ∧ ∀ y ∈ ys, Q y
  | [], acc, m, n, h, _ => ⟨[], m, by simp [lcGo], h, rfl, by simp⟩
  | x :: xs, acc, m, n, h, hs => by
    obtain ⟨y, m2, e1, p1, q1⟩ := hs x List.mem_cons_self n m (by simp) h
    obtain ⟨ys, m3, e2, p2, l2, q2⟩ := lc_inv P Q (xs := xs) (acc := acc ++ [y]) p1 fun z hz k mk hk => hs z (List.mem_cons_of_mem _ hz) k mk (by rw [List.length_cons]; omega)
    refine ⟨y :: ys, m3, by simp only [lcGo, e1, e2]; simp, ?_, by simp [l2], ?_⟩
    · rw [List.length_cons, ← Nat.add_assoc, Nat.add_right_comm]; exact p2
    · intro z hz
      rcases List.mem_cons.mp hz with rfl | hz
      · exact q1
      · exact q2 z hz
def frStep (fs : List Sem) (g : G) (b : S) (x : D) (env : Env) (m : M) : RS := match asgG g x env with
  | some env2 => evS fs b env2 m
  | none => .no
theorem st_fr {fs : List Sem} {env env2 : Env} {m m1 m2 : M} {g : G} {it : T} {b r : S} {d : D} {xs : List D} (hi : evE fs it env m = .ok d m1) (hv : viewI d m1 = some xs) (h : forGo (frStep fs g b) xs env m1 = .nx env2 m2) : evS fs (.cons (.fr g it b) r) env m = evS fs r env2 m2 := by
  have e1 : (fun x env m => match asgG g x env with
        | some env2 => evS fs b env2 m
        | none => .no) = frStep fs g b := by
    funext x env m
    unfold frStep
    cases asgG g x env <;> rfl
  rw [evS, evS, hi, R.st_ok, hv]
  have e2 : ∀ q, q = forGo (frStep fs g b) xs env m1 → (match q with
    | .nx e m => evS fs r e m
    | x => x) = evS fs r env2 m2 := by
    intro q hq
    rw [hq, h]
  exact e2 _ (congrArg (fun f => forGo f xs env m1) e1)
/-- a loop with an invariant, through which nothing leaves -/
theorem for_inv {step : D → Env → M → RS} (P : Nat → Env → M → Prop) : ∀ {xs : List D} {env : Env} {m : M} {n : Nat}, P n env m → (∀ x ∈ xs, ∀ k env m, k < n + xs.length → P k env m → ∃ e2 m2, step x env m = .nx e2 m2 ∧ P (k + 1) e2 m2) → ∃ e2 m2, forGo step xs env m = .nx e2 m2 ∧ P (n + xs.length) e2 m2
  | [], env, m, n, h, _ => ⟨env, m, rfl, h⟩
  | x :: xs, env, m, n, h, hs => by
    obtain ⟨e1, m1, q1, p1⟩ := hs x List.mem_cons_self n env m (by simp) h
    obtain ⟨e2, m2, q2, p2⟩ := for_inv P p1 fun z hz k ek mk hk => hs z (List.mem_cons_of_mem _ hz) k ek mk (by rw [List.length_cons]; omega)
    refine ⟨e2, m2, by simp only [forGo, q1, q2], ?_⟩
    rw [List.length_cons, ← Nat.add_assoc, Nat.add_right_comm]; exact p2
/-! ### calls -/
theorem refsOf_no : ∀ {ds : List D}, norefL ds = true → refsOf ds = [] ∧ seen 0 ds = ds ∧ ∀ k, seen k ds = ds
  | [], _ => ⟨rfl, rfl, fun _ => rfl⟩
  | d :: ds, h => by
    simp only [norefL, Bool.and_eq_true] at h
    obtain ⟨a, b, c⟩ := refsOf_no h.2
    cases d <;> first | (simp [noref] at h; done) | (exact ⟨by simpa [refsOf] using a, by simp [seen, c], fun k => by simp [seen, c]⟩)
theorem all_no {ds : List D} (h : norefL ds = true) : ds.all (fun d => isRef d || noref d) = true := by
  induction ds with
  | nil => rfl
  | cons d ds ih =>
    simp only [norefL, Bool.and_eq_true] at h
    simp [h.1, ih h.2]
/-- a call that is handed nothing of ours -/
theorem call_pure {sem : Sem} {ds : List D} {m m2 : M} {d : D} (h : norefL ds = true) (hs : sem ds [] = .ok d m2) (hd : noref d = true) : callD sem ds m = .ok d m := by
  obtain ⟨a, b, _⟩ := refsOf_no h
  unfold callD
  rw [all_no h, a]
  simp only [nodupB, Bool.and_self, if_true, hand, b, hs, back]
  cases d <;> first | (simp [hd]; done) | (simp [noref] at hd)
theorem call_pure_ex {sem : Sem} {ds : List D} {m m2 : M} {c : Exc} (h : norefL ds = true) (hs : sem ds [] = .ex c m2) (hd : norefF c.fs = true) : callD sem ds m = .ex c m := by
  obtain ⟨a, b, _⟩ := refsOf_no h
  unfold callD
  rw [all_no h, a]
  simp only [nodupB, Bool.and_self, if_true, hand, b, hs, back]
  simp [hd]
/-- a call that makes an object -/
theorem call_new {sem : Sem} {ds : List D} {m : M} {o : MO} (h : norefL ds = true) (hs : sem ds [] = .ok (.ref 0) [o]) (ho : norefM o = true) : callD sem ds m = .ok (.ref m.length) (m ++ [o]) := by
  obtain ⟨a, b, _⟩ := refsOf_no h
  unfold callD
  rw [all_no h, a]
  simp only [nodupB, Bool.and_self, if_true, hand, b, hs, back]
  simp [ho]
theorem has_self {env : Env} {i : Nat} {d : D} (h : i < env.length) : (env.set i (some d))[i]? = some (some d) := List.getElem?_set_self h
theorem has_ne {env : Env} {i j : Nat} {d : D} {x : Option D} (h : env[i]? = some (some d)) (n : j ≠ i) : (env.set j x)[i]? = some (some d) := by rw [List.getElem?_set_ne n]; exact h
theorem last_get {m : M} {o : MO} : (m ++ [o])[m.length]? = some o := by simp
theorem last_set {m : M} {o o2 : MO} : (m ++ [o]).set m.length o2 = m ++ [o2] := by simp
/-- a call that is handed one object of ours, first -/
theorem call_one {sem : Sem} {ds : List D} {j : Nat} {o o2 : MO} {m : M} {d : D} (h : norefL ds = true) (hj : m[j]? = some o) (ho : norefM o = true) (hs : sem (.ref 0 :: ds) [o] = .ok d [o2]) (hd : noref d = true) (h2 : norefM o2 = true) :
    callD sem (.ref j :: ds) m = .ok d (m.set j o2) := by
  obtain ⟨a, b, c⟩ := refsOf_no h
  unfold callD
  have e1 : (D.ref j :: ds).all (fun d => isRef d || noref d) = true := by rw [List.all_cons, all_no h]; rfl
  rw [e1]
  simp only [refsOf, a, nodupB, seen, c, hand, hj, ho, if_true, hs, back, h2, Option.map_some]
  cases d <;> first | (simp [hd]; done) | (simp [noref] at hd)
end HB
namespace HB
open PySem L2
section
variable {fs : List Sem} {env : Env} {m m1 m2 : M}
theorem ev_mth0 {p : Mr} {a : T} {d : D} {r : R D} (ha : evE fs a env m = .ok d m1) (hg : mrG p d m1 = true) (h : mrD fs p d [] m1 = r) : evE fs (.mth p a .nil) env m = r := by
  simp only [evE, evA, ha, R.bind_ok, hg, if_true, h]
theorem ev_mth {p : Mr} {a es : T} {d : D} {ds : List D} {r : R D} (ha : evE fs a env m = .ok d m1) (hg : mrG p d m1 = true) (he : evA fs es env m1 = .ok ds m2) (h : mrD fs p d ds m2 = r) : evE fs (.mth p a es) env m = r := by
  simp only [evE, ha, R.bind_ok, hg, if_true, he, h]
theorem ev_prm {p : Pr} {es : T} {ds : List D} {r : R D} (he : evA fs es env m = .ok ds m1) (h : prD fs p ds m1 = r) : evE fs (.prm p es) env m = r := by
  simp only [evE, he, R.bind_ok, h]
theorem st_app {o e : T} {r : S} {j : Nat} {v : D} {m3 : M} (ho : evE fs o env m = .ok (.ref j) m1) (hl : isLst j m1 = true) (he : evE fs e env m1 = .ok v m2) (h : appD j v m2 = some m3) : evS fs (.cons (.app o e) r) env m = evS fs r env m3 := by
  simp only [evS, ho, R.st_ok, hl, if_true, he, h]
theorem st_frz {i : Nat} {r : S} {env2 : Env} (h : frzD i env m = some (env2, m2)) : evS fs (.cons (.frz i) r) env m = evS fs r env2 m2 := by
  simp only [evS, h]
theorem st_tryM {b r : S} {hs : List (Str × List (Str × Bool) × D)} {c : Exc} {env2 : Env} {d : D} {m3 : M} (hb : evS fs b env m = .ex c env2 m2) (h : hsGo c env2 m2 hs = .rt d m3) : evS fs (.cons (.tryM b hs) r) env m = .rt d m3 := by
  simp only [evS, hb, h]
end
end HB
namespace HB
open PySem L2
/-! ### the pot that all laws draw from -/
def b_pot : S := (.cons (.asg (.name 2) (.ite (.cmp .lt (.var 1) (.blt .len (.cons (.var 0) .nil))) (.ix (.var 0) (.var 1)) (.bin .add (.bin .mul (.int 97) (.var 1)) (.int 59))))
    (.cons (.asg (.name 3) (.bin .mod (.blt .int (.cons (.blt .abs (.cons (.var 2) .nil)) .nil)) (.bin .pow (.bin .pow (.int 10) (.int 59)) (.int 9))))
    (.cons (.asg (.name 4) (.bin .add (.bin .add (.bin .add (.bin .mul (.bin .mod (.blt .int (.cons (.var 3) .nil)) (.int 2305843009213693921)) (.int 1000187)) (.bin .mul (.int 7013) (.var 1))) (.bin .mul (.int 29) (.blt .int (.cons (.cmp .lt (.var 2) (.int 0)) .nil)))) (.int 17)))
    (.cons (.ret (.lstM (.cons (.blt .max (.cons (.int 0) (.cons (.bin .sub (.var 3) (.bin .pow (.int 10) (.int 18))) .nil))) (.cons (.bin .mod (.blt .int (.cons (.var 4) .nil)) (.int 2305843009213693951)) (.cons (.int 0) .nil)))))
    .nil))))
def F_pot : Sem := runB [] 5 b_pot
def b_stir : S := (.cons (.ife (.cmp .gt (.ix (.var 0) (.int 0)) (.int 0)) (.cons (.asg (.name 4) (.bin .mod (.blt .int (.cons (.ix (.var 0) (.int 0)) .nil)) (.var 1)))
    (.cons (.setix (.var 0) (.int 0) (.bin .fdiv (.ix (.var 0) (.int 0)) (.var 1)))
    (.cons (.ret (.var 4))
    .nil))) .nil)
    (.cons (.setix (.var 0) (.int 2) (.bin .add (.ix (.var 0) (.int 2)) (.int 1)))
    (.cons (.asg (.name 2) (.bin .mod (.blt .int (.cons (.bin .add (.ix (.var 0) (.int 1)) (.bin .mul (.int 1048583) (.ix (.var 0) (.int 2)))) .nil)) (.int 2305843009213693951)))
    (.cons (.asg (.name 3) (.bin .add (.bin .mul (.bin .mod (.blt .int (.cons (.bin .mul (.var 2) (.var 2)) .nil)) (.int 2305843009213693907)) (.var 2)) (.bin .mul (.int 8101) (.ix (.var 0) (.int 2)))))
    (.cons (.ret (.bin .mod (.blt .int (.cons (.bin .fdiv (.bin .mod (.blt .int (.cons (.var 3) .nil)) (.int 2305843009213693921)) (.int 16384)) .nil)) (.var 1)))
    .nil)))))
def F_stir : Sem := runB [] 5 b_stir
def b_one_of : S := (.cons (.ret (.ix (.var 1) (.call 0 (.cons (.var 0) (.cons (.blt .len (.cons (.var 1) .nil)) .nil)))))
    .nil)
def F_one_of : Sem := runB [F_stir] 2 b_one_of
def b_shuffled : S := (.cons (.asg (.name 2) (.blt .listM (.cons (.var 1) .nil)))
    (.cons (.ret (.lc [("_law_turn", 3)] (.name 3) (.rng1 (.blt .len (.cons (.var 1) .nil))) .noP (.popAt (.var 2) (.call 0 (.cons (.var 0) (.cons (.blt .len (.cons (.var 2) .nil)) .nil))))))
    .nil))
def F_shuffled : Sem := runB [F_stir] 4 b_shuffled
def Pot (n : Nat) (o : MO) : Prop := ∃ a b c : Int, o = .lst [.int a, .int b, .int c] ∧ 0 ≤ c ∧ c ≤ n
theorem Pot.noref {n : Nat} {o : MO} (h : Pot n o) : norefM o = true := by
  obtain ⟨a, b, c, rfl, _⟩ := h
  rfl
theorem Pot.mono {n k : Nat} {o : MO} (h : Pot n o) (hk : n ≤ k) : Pot k o := by
  obtain ⟨a, b, c, rfl, h1, h2⟩ := h
  exact ⟨a, b, c, rfl, h1, by omega⟩
theorem fmod_bd (i p : Int) (hp : 0 < p) : 0 ≤ i.fmod p ∧ i.fmod p < p := ⟨Int.fmod_nonneg_of_pos i hp, Int.fmod_lt_of_pos i hp⟩
theorem log_lt {i : Int} {k : Nat} (h : i.natAbs < 2 ^ k) (hk : 0 < k) : i.natAbs.log2 < k := by
  by_cases h0 : i.natAbs = 0
  · rw [h0]; simpa using hk
  · exact (Nat.log2_lt h0).mpr h
theorem log_big {i : Int} (h : i.natAbs < 10 ^ 62) : i.natAbs.log2 < 300 := log_lt (Nat.lt_trans h (by decide +kernel)) (by decide)
/-- a call that is handed one object of ours, first; it may leave others behind -/
theorem call_oneR {sem : Sem} {ds : List D} {j : Nat} {o o2 : MO} {m mr : M} {d : D} (h : norefL ds = true) (hj : m[j]? = some o) (ho : norefM o = true) (hs : sem (.ref 0 :: ds) [o] = .ok d (o2 :: mr)) (hd : noref d = true) (h2 : norefM o2 = true) :
    callD sem (.ref j :: ds) m = .ok d (m.set j o2) := by
  obtain ⟨a, b, c⟩ := refsOf_no h
  unfold callD
  have e1 : (D.ref j :: ds).all (fun d => isRef d || HB.noref d) = true := by rw [List.all_cons, all_no h]; rfl
  rw [e1]
  simp only [refsOf, a, nodupB, seen, c, hand, hj, ho, if_true, hs, back, h2, Option.map_some]
  cases d <;> first | (simp [hd]; done) | (simp [HB.noref] at hd)
/-- a def that stirs: what it comes to; k: how often it may -/
def PotFn (sem : Sem) (args : List D) (k : Nat) (Q : D → Prop) : Prop := ∀ n o, Pot n o → n + k ≤ 100000 → ∃ d o2 mr, sem (.ref 0 :: args) [o] = .ok d (o2 :: mr) ∧ Pot (n + k) o2 ∧ Q d ∧ noref d = true
theorem PotFn.call {sem : Sem} {args : List D} {k : Nat} {Q : D → Prop} (h : PotFn sem args k Q) (ha : norefL args = true) {m : M} {j n : Nat} {o : MO} (hj : m[j]? = some o) (hp : Pot n o) (hn : n + k ≤ 100000) : ∃ d o2, callD sem (.ref j :: args) m = .ok d (m.set j o2) ∧ Pot (n + k) o2 ∧ Q d ∧ HB.noref d = true := by
  obtain ⟨d, o2, mr, e, p, q, nr⟩ := h n o hp hn
  exact ⟨d, o2, call_oneR ha hj hp.noref e nr p.noref, p, q, nr⟩
theorem PotFn.imp {sem : Sem} {args : List D} {k : Nat} {Q Q' : D → Prop} (h : PotFn sem args k Q) (f : ∀ d, Q d → Q' d) : PotFn sem args k Q' := fun n o hp hn =>
  let ⟨d, o2, mr, e, p, q, nr⟩ := h n o hp hn
  ⟨d, o2, mr, e, p, f d q, nr⟩
theorem PotFn.up {sem : Sem} {args : List D} {k l : Nat} {Q : D → Prop} (h : PotFn sem args k Q) (hl : k ≤ l) : PotFn sem args l Q := fun n o hp hn =>
  let ⟨d, o2, mr, e, p, q, nr⟩ := h n o hp (by omega)
  ⟨d, o2, mr, e, p.mono (by omega), q, nr⟩
theorem r_stir {t : Int} (ht : 0 < t) (hl : t.natAbs.log2 < 9000) : PotFn F_stir [.int t] 1 (fun d => ∃ v : Int, d = .int v ∧ 0 ≤ v ∧ v < t) := by
  rintro n o ⟨a, b, c, rfl, c0, c1⟩ hn
  have t0 : t ≠ 0 := by omega
  unfold F_stir runB b_stir
  simp only [List.map_cons, List.map_nil, List.length_cons, List.length_nil, Nat.reduceAdd, Nat.reduceSub, List.replicate, List.cons_append, List.nil_append]
  have q1 : ∀ env : Env, env[0]? = some (some (.ref 0)) → evE [] (.ix (.var 0) (.int 0)) env [.lst [.int a, .int b, .int c]] = .ok (.int a) [.lst [.int a, .int b, .int c]] := fun env h0 => ev_ix (ev_var h0) ev_int rfl
  have q2 := ev_cmp (o := .gt) (q1 [some (.ref 0), some (.int t), none, none, none] rfl) ev_int (op_gtI (j := 0))
  by_cases hp : 0 < a
  · have s1 := st_asg1 (i := 4) (e := .bin .mod (.blt .int (.cons (.ix (.var 0) (.int 0)) .nil)) (.var 1)) (r := .cons (.setix (.var 0) (.int 0) (.bin .fdiv (.ix (.var 0) (.int 0)) (.var 1))) (.cons (.ret (.var 4)) .nil)) (ev_bin (fs := []) (env := [some (.ref 0), some (.int t), none, none, none]) (ev_blt (b := .int) (ev_cons (q1 _ rfl) ev_nil) rfl) (ev_var rfl) (op_md t0))
    have s2 := st_setix (fs := []) (env := [some (.ref 0), some (.int t), none, none, some (.int (a.fmod t))]) (o := .var 0) (i := .int 0) (e := .bin .fdiv (.ix (.var 0) (.int 0)) (.var 1)) (r := .cons (.ret (.var 4)) .nil) (ev_bin (q1 _ rfl) (ev_var rfl) (op_fd t0 hl)) (ev_var rfl) ev_int (show setixD (.ref 0) (.int 0) (.int (a.fdiv t)) [.lst [.int a, .int b, .int c]] = some [.lst [.int (a.fdiv t), .int b, .int c]] from rfl)
    simp only [List.set_cons_zero, List.set_cons_succ] at s1
    have s3 := st_ret (fs := []) (r := .nil) (m := [.lst [.int (a.fdiv t), .int b, .int c]]) (ev_var (fs := []) (env := [some (.ref 0), some (.int t), none, none, some (.int (a.fmod t))]) (i := 4) rfl)
    rw [st_ifT q2 (by simp [hp]) (s1.trans (s2.trans s3))]
    exact ⟨_, _, _, rfl, ⟨_, _, _, rfl, c0, by omega⟩, ⟨_, rfl, fmod_bd a t ht⟩, rfl⟩
  · rw [st_ifF q2 (by simp [hp])]
    have hc : (c + 1).natAbs.log2 < 900000 := log_lt (Nat.lt_of_le_of_lt (by omega : (c + 1).natAbs ≤ 100001) (Nat.lt_of_lt_of_le (by decide : 100001 < 2 ^ 20) (Nat.pow_le_pow_right (by decide) (by decide)))) (by decide)
    rw [st_setix (m4 := [.lst [.int a, .int b, .int (c + 1)]]) (ev_bin (ev_ix (ev_var rfl) ev_int rfl) ev_int op_ad) (ev_var rfl) ev_int rfl]
    have bd : ∀ (i : Int), (i.fmod 2305843009213693951).natAbs.log2 < 62 := fun i => log_lt (by have := fmod_bd i 2305843009213693951 (by decide); omega) (by decide)
    have bd2 : ∀ (i : Int), (i.fmod 2305843009213693907).natAbs.log2 < 62 := fun i => log_lt (by have := fmod_bd i 2305843009213693907 (by decide); omega) (by decide)
    rw [st_asg1 (ev_bin (ev_blt (b := .int) (ev_cons (ev_bin (ev_ix (ev_var rfl) ev_int rfl) (ev_bin ev_int (ev_ix (ev_var rfl) ev_int rfl) (op_ml (by
      have : (1048583 : Int).natAbs.log2 = 20 := by decide
      omega))) op_ad) ev_nil) rfl) ev_int (op_md (by decide)))]
    simp only [List.set_cons_zero, List.set_cons_succ]
    rw [st_asg1 (ev_bin (ev_bin (ev_bin (ev_blt (b := .int) (ev_cons (ev_bin (ev_var rfl) (ev_var rfl) (op_ml (by have := bd (b + 1048583 * (c + 1)); omega))) ev_nil) rfl) ev_int (op_md (by decide))) (ev_var rfl) (op_ml (by
      have := bd (b + 1048583 * (c + 1))
      have := bd2 ((b + 1048583 * (c + 1)).fmod 2305843009213693951 * (b + 1048583 * (c + 1)).fmod 2305843009213693951)
      omega))) (ev_bin ev_int (ev_ix (ev_var rfl) ev_int rfl) (op_ml (by
      have : (8101 : Int).natAbs.log2 = 12 := by decide
      omega))) op_ad)]
    simp only [List.set_cons_zero, List.set_cons_succ]
    rw [st_ret (ev_bin (ev_blt (b := .int) (ev_cons (ev_bin (ev_bin (ev_blt (b := .int) (ev_cons (ev_var rfl) ev_nil) rfl) ev_int (op_md (by decide))) ev_int (op_fd (by decide) (by decide))) ev_nil) rfl) (ev_var rfl) (op_md t0))]
    exact ⟨_, _, _, rfl, ⟨_, _, _, rfl, by omega, by omega⟩, ⟨_, rfl, fmod_bd _ t ht⟩, rfl⟩
/-! ### one of some -/
theorem ixN_lt {n : Nat} {v : Int} (h0 : 0 ≤ v) (h1 : v < n) : ixN n v = some v.toNat := by unfold ixN; rw [if_pos h0, if_pos h1]
theorem atI_lt {α : Type} {xs : List α} {v : Int} (h0 : 0 ≤ v) (h1 : v < xs.length) : ∃ x, atI xs v = some x ∧ x ∈ xs := by
  have hl : v.toNat < xs.length := by omega
  refine ⟨xs[v.toNat], ?_, List.getElem_mem hl⟩
  unfold atI
  rw [ixN_lt h0 h1]
  simp [hl]
theorem len_log {n : Nat} (h : n ≤ 1000) : ((n : Int)).natAbs.log2 < 9000 := log_lt (Nat.lt_of_le_of_lt (by omega : ((n : Int)).natAbs ≤ 1000) (Nat.lt_of_lt_of_le (by decide : 1000 < 2 ^ 10) (Nat.pow_le_pow_right (by decide) (by decide)))) (by decide)
theorem ix_lst {ds : List D} {v : Int} {x : D} {m : M} (h : atI ds v = some x) : ixD (.lst ds) (.int v) m = .ok x m := by simp only [ixD, viewD, viewQ, viewS, viewL, h]
theorem ix_str {y : Str} {v : Int} {c : Nat} {m : M} (h : atI y.cps.toList v = some c) (hs : y.length ≤ 1000) : ixD (.str y) (.int v) m = .ok (.str ⟨#[c]⟩) m := by
  have : y.length ≤ sizeLine := by rw [sizeLine_eq]; omega
  simp only [ixD, viewD, h, this, if_true]
theorem r_one_of_lst {ds : List D} (h0 : ds ≠ []) (hl : ds.length ≤ 1000) (hn : norefL ds = true) (hm : ∀ d ∈ ds, noref d = true) : PotFn F_one_of [.lst ds] 1 (fun d => d ∈ ds) := by
  intro n o hp hn2
  have hpos : 0 < ds.length := List.length_pos_iff.mpr h0
  obtain ⟨d, o2, e, p, ⟨v, rfl, v0, v1⟩, nr⟩ := (r_stir (t := ds.length) (by omega) (len_log hl)).call rfl (m := [o]) (j := 0) rfl hp hn2
  obtain ⟨x, hx, hxm⟩ := atI_lt (xs := ds) v0 v1
  unfold F_one_of runB b_one_of
  simp only [List.map_cons, List.map_nil, List.length_cons, List.length_nil, Nat.reduceAdd, Nat.reduceSub, List.replicate, List.cons_append, List.nil_append]
  rw [st_ret (ev_ix (ev_var rfl) (ev_call (ev_cons (ev_var rfl) (ev_cons (ev_blt (ev_cons (ev_var rfl) ev_nil) (show bfD .len [.lst ds] [o] = .ok (.int ds.length) [o] from rfl)) ev_nil)) rfl e) (ix_lst hx))]
  exact ⟨_, _, _, rfl, p, hxm, hm x hxm⟩
theorem r_one_of_str {x : Str} (h0 : 0 < x.length) (hl : x.length ≤ 1000) : PotFn F_one_of [.str x] 1 (fun d => ∃ c ∈ x.cps.toList, d = .str ⟨#[c]⟩) := by
  intro n o hp hn2
  obtain ⟨d, o2, e, p, ⟨v, rfl, v0, v1⟩, nr⟩ := (r_stir (t := x.length) (by omega) (len_log hl)).call rfl (m := [o]) (j := 0) rfl hp hn2
  have hs : x.length ≤ sizeLine := by rw [sizeLine_eq]; omega
  obtain ⟨c, hc, hcm⟩ := atI_lt (xs := x.cps.toList) v0 (by rw [Array.length_toList]; exact v1)
  unfold F_one_of runB b_one_of
  simp only [List.map_cons, List.map_nil, List.length_cons, List.length_nil, Nat.reduceAdd, Nat.reduceSub, List.replicate, List.cons_append, List.nil_append]
  rw [st_ret (ev_ix (ev_var rfl) (ev_call (ev_cons (ev_var rfl) (ev_cons (ev_blt (ev_cons (ev_var rfl) ev_nil) (show bfD .len [.str x] [o] = .ok (.int x.length) [o] by simp [bfD, lenD, hs])) ev_nil)) rfl e) (ix_str hc hl))]
  exact ⟨_, _, _, rfl, p, ⟨c, hcm, rfl⟩, rfl⟩
theorem pow59 (m : M) : bopD .pow (.int 10) (.int 59) m = .ok (.int (10 ^ 59)) m := by
  simp only [bopD, powD]
  rw [if_pos (by decide +kernel)]
  rfl
theorem ev_lstM0 {fs : List Sem} {env : Env} {m : M} {es : T} {ds : List D} (he : evA fs es env m = .ok ds []) (h : Nat.ble ds.length 1000 = true) : evE fs (.lstM es) env m = .ok (.ref 0) [.lst ds] := ev_lstM he (Nat.le_of_ble_eq_true h)
/-! ### the pot made -/
theorem pow_big (m : M) : bopD .pow (.int (10 ^ 59)) (.int 9) m = .ok (.int ((10 ^ 59) ^ 9)) m := by
  simp only [bopD, powD]
  rw [if_pos (by decide +kernel)]
  rfl
theorem pow18 (m : M) : bopD .pow (.int 10) (.int 18) m = .ok (.int (10 ^ 18)) m := by
  simp only [bopD, powD]
  rw [if_pos (by decide +kernel)]
  rfl
theorem r_pot {ns : List Int} {i : Int} (h0 : 0 ≤ i) (h1 : i ≤ 1000) : ∃ o, F_pot [.scr ns, .int i] [] = .ok (.ref 0) [o] ∧ Pot 0 o := by
  have sm : ∀ {i : Int}, 0 ≤ i → i ≤ 1000 → i.natAbs.log2 < 1920 := fun {i} h0 h1 => Nat.lt_trans (log_big (Nat.lt_of_lt_of_le (by omega : i.natAbs < 1001) (by decide))) (by decide)
  have hl := sm h0 h1
  have cell : ∃ z : Int, evE [] (.ite (.cmp .lt (.var 1) (.blt .len (.cons (.var 0) .nil))) (.ix (.var 0) (.var 1)) (.bin .add (.bin .mul (.int 97) (.var 1)) (.int 59))) [some (.scr ns), some (.int i), none, none, none] [] = .ok (.int z) [] := by
    have q1 : evE [] (.cmp .lt (.var 1) (.blt .len (.cons (.var 0) .nil))) [some (.scr ns), some (.int i), none, none, none] [] = .ok (.bl (decide (i < ((ns.map D.int).length : Int)))) [] := ev_cmp (ev_var rfl) (ev_blt (ev_cons (ev_var rfl) ev_nil) rfl) op_ltI
    by_cases c : i < ((ns.map D.int).length : Int)
    · obtain ⟨x, hx, hm⟩ := atI_lt (xs := ns.map D.int) h0 c
      obtain ⟨z, _, rfl⟩ := List.mem_map.mp hm
      refine ⟨z, ev_ite q1 (fun _ => ev_ix (ev_var rfl) (ev_var rfl) ?_) (fun z => by simp [c] at z; exact absurd z (by simpa using c))⟩
      simp only [ixD, viewD, viewQ, viewS, hx]
    · refine ⟨_, ev_ite q1 (fun z => absurd (of_decide_eq_true z) c) (fun _ => ev_bin (ev_bin ev_int (ev_var rfl) (op_ml ?_)) ev_int op_ad)⟩
      have : (97 : Int).natAbs.log2 = 6 := by decide
      omega
  obtain ⟨z, ez⟩ := cell
  have p1 : (2305843009213693921 : Int) ≠ 0 := by decide
  have p2 : (2305843009213693951 : Int) ≠ 0 := by decide
  have p0 : ((10 : Int) ^ 59) ^ 9 ≠ 0 := by decide +kernel
  have key : ∃ a b : Int, evS [] b_pot [some (.scr ns), some (.int i), none, none, none] [] = .rt (.ref 0) [.lst [.int a, .int b, .int 0]] := by
    unfold b_pot
    refine ⟨_, _, (st_asg1 ez).trans ((st_asg1 (ev_bin (ev_blt (b := .int) (ev_cons (ev_blt (b := .abs) (ev_cons (ev_var rfl) ev_nil) rfl) ev_nil) rfl) (ev_bin (ev_bin ev_int ev_int (pow59 _)) ev_int (pow_big _)) (op_md p0))).trans
      ((st_asg1 (ev_bin (ev_bin (ev_bin (ev_bin (ev_bin (ev_blt (b := .int) (ev_cons (ev_var rfl) ev_nil) rfl) ev_int (op_md p1)) ev_int (op_ml ?_)) (ev_bin ev_int (ev_var rfl) (op_ml ?_)) op_ad) (ev_bin ev_int (ev_blt (b := .int) (ev_cons (ev_cmp (ev_var rfl) ev_int op_ltI) ev_nil) rfl) (op_ml ?_)) op_ad) ev_int op_ad)).trans
      (st_ret (ev_lstM0 (ev_cons (ev_blt (b := .max) (ev_cons ev_int (ev_cons (ev_bin (ev_var rfl) (ev_bin ev_int ev_int (pow18 _)) op_sb) ev_nil)) rfl) (ev_cons (ev_bin (ev_blt (b := .int) (ev_cons (ev_var rfl) ev_nil) rfl) ev_int (op_md p2)) (ev_cons ev_int ev_nil))) rfl))))⟩
    · have bd : ∀ (i : Int), (i.fmod 2305843009213693921).natAbs.log2 < 62 := fun i => log_lt (by have := fmod_bd i 2305843009213693921 (by decide); omega) (by decide)
      have h2 : (1000187 : Int).natAbs.log2 = 19 := by decide
      have := bd ((if z < 0 then -z else z).fmod ((10 ^ 59) ^ 9))
      omega
    · have h2 : (7013 : Int).natAbs.log2 = 12 := by decide
      omega
    · have h2 : (29 : Int).natAbs.log2 = 4 := by decide
      have h3 : (if decide (z < 0) = true then (1 : Int) else 0).natAbs.log2 < 1920 := sm (by split <;> decide) (by split <;> decide)
      omega
  obtain ⟨a, b, e⟩ := key
  unfold F_pot runB
  simp only [List.map_cons, List.map_nil, List.length_cons, List.length_nil, Nat.reduceAdd, Nat.reduceSub, List.replicate, List.cons_append, List.nil_append]
  rw [e]
  exact ⟨_, rfl, a, b, 0, rfl, by decide, by decide⟩
/-! ### shuffled -/
theorem mem_noref : ∀ {ds : List D}, norefL ds = true → ∀ d ∈ ds, noref d = true
  | [], _, d, h => by cases h
  | a :: r, h, d, hd => by
    simp only [norefL, Bool.and_eq_true] at h
    rcases List.mem_cons.mp hd with rfl | z
    · exact h.1
    · exact mem_noref h.2 d z
theorem noref_mem : ∀ {ds : List D}, (∀ d ∈ ds, noref d = true) → norefL ds = true
  | [], _ => rfl
  | a :: r, h => by simp only [norefL, h a List.mem_cons_self, noref_mem fun d hd => h d (List.mem_cons_of_mem _ hd), Bool.and_self]
theorem noref_erase {ds : List D} (h : norefL ds = true) (j : Nat) : norefL (ds.eraseIdx j) = true := noref_mem fun d hd => mem_noref h d (List.mem_of_mem_eraseIdx hd)
theorem erase_perm {α : Type} : ∀ {l : List α} {j : Nat} (h : j < l.length), (l[j]'h :: l.eraseIdx j).Perm l
  | a :: l, 0, _ => .refl _
  | a :: l, j + 1, h => by
    have ih := erase_perm (l := l) (j := j) (by simpa using h)
    simp only [List.getElem_cons_succ, List.eraseIdx_cons_succ]
    exact (List.Perm.swap a _ _).trans (List.Perm.cons a ih)
theorem sh_step {ev1 : Option D} {rest : List D} {n : Nat} {o : MO} {x : D} (h0 : rest ≠ []) (hl : rest.length ≤ 1000) (hp : Pot n o) (hn : n + 1 ≤ 100000) :
    ∃ (j : Nat) (y : D) (o2 : MO), rest[j]? = some y ∧ Pot (n + 1) o2 ∧
      lcSt [F_stir] [("_law_turn", 3)] (.name 3) .noP (.popAt (.var 2) (.call 0 (.cons (.var 0) (.cons (.blt .len (.cons (.var 2) .nil)) .nil)))) [some (.ref 0), ev1, some (.ref 1), none] x [o, .lst rest] = .ok (some y) [o2, .lst (rest.eraseIdx j)] := by
  have hpos : 0 < rest.length := List.length_pos_iff.mpr h0
  obtain ⟨d, o2, e, p, ⟨v, rfl, v0, v1⟩, nr⟩ := (r_stir (t := rest.length) (by omega) (len_log hl)).call rfl (m := [o, .lst rest]) (j := 0) rfl hp hn
  have hj : v.toNat < rest.length := by omega
  refine ⟨v.toNat, rest[v.toNat], o2, by simp [hj], p, ?_⟩
  have hs : seqIndex? v rest.length = some v.toNat := by
    unfold seqIndex?
    first
      | (rw [if_pos (by omega)]; simp; omega)
      | (simp; omega)
      | (split <;> simp <;> omega)
  have ea : evA [F_stir] (.cons (.var 0) (.cons (.blt .len (.cons (.var 2) .nil)) .nil)) [some (.ref 0), ev1, some (.ref 1), some x] [o, .lst rest] = .ok [.ref 0, .int rest.length] [o, .lst rest] :=
    ev_cons (ev_var rfl) (ev_cons (ev_blt (b := .len) (ev_cons (ev_var rfl) ev_nil) rfl) ev_nil)
  have ec : evE [F_stir] (.call 0 (.cons (.var 0) (.cons (.blt .len (.cons (.var 2) .nil)) .nil))) [some (.ref 0), ev1, some (.ref 1), some x] [o, .lst rest] = .ok (.int v) [o2, .lst rest] := ev_call ea rfl e
  have ep : evE [F_stir] (.popAt (.var 2) (.call 0 (.cons (.var 0) (.cons (.blt .len (.cons (.var 2) .nil)) .nil)))) [some (.ref 0), ev1, some (.ref 1), some x] [o, .lst rest] = .ok rest[v.toNat] [o2, .lst (rest.eraseIdx v.toNat)] := by
    rw [evE, ev_var (fs := [F_stir]) (i := 2) (d := .ref 1) rfl]
    simp only [R.bind, List.getElem?_cons_succ, List.getElem?_cons_zero, ec, popAtD]
    rw [if_pos ⟨by omega, by omega⟩, hs]
    simp [hj]
  unfold lcSt
  simp only [asgG, List.map_cons, List.map_nil, wipeD, List.set_cons_succ, List.set_cons_zero]
  have np : isNoP .noP = true := rfl
  simp only [np, if_true, R.bind, ep]
theorem sh_loop {ev1 : Option D} : ∀ (xs : List D) {rest acc : List D} {n : Nat} {o : MO}, rest.length = xs.length → rest.length ≤ 1000 → Pot n o → n + xs.length ≤ 100000 → ∃ ys o2, ys.Perm rest ∧ Pot (n + xs.length) o2 ∧
      lcGo (lcSt [F_stir] [("_law_turn", 3)] (.name 3) .noP (.popAt (.var 2) (.call 0 (.cons (.var 0) (.cons (.blt .len (.cons (.var 2) .nil)) .nil)))) [some (.ref 0), ev1, some (.ref 1), none]) xs acc [o, .lst rest] = .ok (acc ++ ys) [o2, .lst []]
  | [], rest, acc, n, o, h, hl, hp, hn => by
    have : rest = [] := List.length_eq_zero_iff.mp (by simpa using h)
    subst this
    exact ⟨[], o, .refl _, hp, by simp [lcGo]⟩
  | x :: xs, rest, acc, n, o, h, hl, hp, hn => by
    simp only [List.length_cons] at h hn
    obtain ⟨j, y, o2, hj, p2, e2⟩ := sh_step (ev1 := ev1) (x := x) (rest := rest) (by intro z; rw [z] at h; simp at h) hl hp (by omega)
    have hjl : j < rest.length := (List.getElem?_eq_some_iff.mp hj).1
    have hy : rest[j] = y := (List.getElem?_eq_some_iff.mp hj).2
    have el : (rest.eraseIdx j).length = xs.length := by rw [List.length_eraseIdx_of_lt hjl]; omega
    obtain ⟨ys, o3, h1, h2, h3⟩ := sh_loop (ev1 := ev1) xs (rest := rest.eraseIdx j) (acc := acc ++ [y]) el (by omega) p2 (by omega)
    refine ⟨y :: ys, o3, ?_, ?_, ?_⟩
    · have pe : (y :: rest.eraseIdx j).Perm rest := by
        rw [← hy]
        exact erase_perm hjl
      exact (List.Perm.cons y h1).trans pe
    · rw [List.length_cons]
      have : n + 1 + xs.length = n + (xs.length + 1) := by omega
      rw [← this]; exact h2
    · simp only [lcGo, e2, h3]
      simp
theorem r_shuffled {d : D} {ds : List D} (hv : d = .lst ds ∨ d = .tup ds) (hl : ds.length ≤ 1000) (hn : norefL ds = true) : PotFn F_shuffled [d] ds.length (fun e => ∃ ys, e = .lst ys ∧ ys.Perm ds) := by
  intro n o hp hn2
  have vq : ∀ m, viewQ d m = some ds := fun m => by rcases hv with rfl | rfl <;> rfl
  have ln : ∀ m, lenD [d] m = .ok (.int ds.length) m := fun m => by rcases hv with rfl | rfl <;> rfl
  unfold F_shuffled runB b_shuffled
  simp only [List.map_cons, List.map_nil, List.length_cons, List.length_nil, Nat.reduceAdd, Nat.reduceSub, List.replicate, List.cons_append, List.nil_append]
  rw [st_asg1 (m1 := [o, .lst ds]) (d := .ref 1) (ev_blt (b := .listM) (ev_cons (ev_var rfl) ev_nil) (by simp only [bfD, listMD, vq]; rfl))]
  simp only [List.set_cons_zero, List.set_cons_succ]
  obtain ⟨ys, o2, p1, p2, p3⟩ := sh_loop (ev1 := some d) ((List.range ((ds.length : Int)).toNat).map fun (i : Nat) => D.int (i : Int)) (rest := ds) (acc := []) (by simp) hl hp (by simpa using hn2)
  rw [st_ret (ev_lc (ev_rng1 (ev_blt (b := .len) (ev_cons (ev_var rfl) ev_nil) (ln _)) (by omega) (by omega)) rfl (by simp; omega) p3)]
  refine ⟨_, o2, _, rfl, by simpa using p2, ⟨ys, by simp, p1⟩, ?_⟩
  simp only [List.nil_append, noref]
  exact noref_mem fun z hz => mem_noref hn z (p1.mem_iff.mp hz)
end HB
namespace HB
open PySem L2
/-! ### dicts from texts, by a list of keys and what each has -/
def eD (S : List Str) (P : Str → D) : List (Key × D) := S.map fun s => (.inr s, P s)
def dD (S : List Str) (P : Str → D) : D := .dct (S.map fun s => (.str s, P s))
section
variable {S T : List Str} {P Q : Str → D} {m : M} {s : Str}
theorem keys_dD : ∀ S : List Str, keysOf (S.map fun s => (D.str s, P s)) = some (eD S P)
  | [] => rfl
  | s :: S => by simp only [List.map_cons, keysOf, keyOf, keys_dD S]; rfl
theorem view_dD : viewD (dD S P) m = some (eD S P) := keys_dD S
theorem dctOf_eD : dctOf (eD S P) = dD S P := by simp [dctOf, eD, dD, keyD, Function.comp_def]
theorem find_eD : ∀ {S : List Str}, s ∈ S → findK (eD S P) (.inr s) = some (P s)
  | a :: S, h => by
    unfold findK eD
    simp only [List.map_cons, List.find?_cons]
    by_cases e : a = s
    · subst e; simp
    · have h2 : s ∈ S := by
        rcases List.mem_cons.mp h with z | z
        · exact absurd z.symm e
        · exact z
      have := find_eD h2
      unfold findK eD at this
      simp only [Sum.inr.injEq, e, decide_false]
      exact this
theorem find_no : ∀ {S : List Str}, s ∉ S → findK (eD S P) (.inr s) = none
  | [], _ => rfl
  | a :: S, h => by
    have h1 : a ≠ s := fun z => h (by rw [z]; exact List.mem_cons_self)
    have h2 : s ∉ S := fun z => h (List.mem_cons_of_mem _ z)
    have := find_no h2
    unfold findK eD at this ⊢
    simp only [List.map_cons, List.find?_cons, Sum.inr.injEq, h1, decide_false]
    exact this
theorem ix_dD (h : s ∈ S) : ixD (dD S P) (.str s) m = .ok (P s) m := by
  unfold ixD
  rw [view_dD]
  simp only [keyOf, find_eD h]
theorem in_dD : inD (.str s) (dD S P) m = .ok (.bl (decide (s ∈ S))) m := by
  unfold inD inB
  rw [view_dD]
  by_cases h : s ∈ S
  · simp only [keyOf, find_eD h, blR]; simp [h]
  · simp only [keyOf, find_no h, blR]; simp [h]
theorem len_eD : (eD S P).length = S.length := by simp [eD]
theorem len_dD : lenD [dD S P] m = .ok (.int S.length) m := by
  have : lenD [dD S P] m = match viewD (dD S P) m with
    | some es => .ok (.int es.length) m
    | none => .no := rfl
  rw [this, view_dD]
  simp only [len_eD]
theorem list_dD : listD [dD S P] m = .ok (.lst (S.map .str)) m := by
  have : listD [dD S P] m = match viewD (dD S P) m with
    | some es => .ok (.lst (keysL es)) m
    | none => .no := rfl
  rw [this, view_dD]
  simp [keysL, eD, keyD, Function.comp_def]
theorem strKeys_eD : ∀ S : List Str, strKeys (eD S P) = some S
  | [] => rfl
  | s :: S => by
    have := strKeys_eD S
    unfold eD at this ⊢
    simp only [List.map_cons, strKeys, this, Option.map_some]
theorem sorted_dD (h : S.length < 64) : sortedD [dD S P] m = .ok (.lst ((sortS S).map .str)) m := by
  have : sortedD [dD S P] m = match (viewD (dD S P) m).bind strKeys with
      | some xs => if xs.length < 64 then .ok (.lst ((sortS xs).map D.str)) m else .no
      | none => .no := rfl
  rw [this, view_dD]
  simp only [Option.bind_some, strKeys_eD, if_pos h]
theorem sorted_lst (h : S.length < 64) : sortedD [.lst (S.map .str)] m = .ok (.lst ((sortS S).map .str)) m := by
  have : sortedD [.lst (S.map D.str)] m = match asStrs (S.map D.str) with
    | some xs => if xs.length < 64 then .ok (.lst ((sortS xs).map D.str)) m else .no
    | none => match (viewD (.lst (S.map D.str)) m).bind strKeys with
      | some xs => if xs.length < 64 then .ok (.lst ((sortS xs).map D.str)) m else .no
      | none => .no := rfl
  rw [this, asStrs_map]
  simp only [if_pos h]
theorem prs_eD : ∀ S : List Str, prsD (S.map fun s => .tup [.str s, P s]) = some (eD S P)
  | [] => rfl
  | s :: S => by
    have := prs_eD S
    simp only [List.map_cons, prsD, keyOf, this]
    rfl
theorem put_new {es : List (Key × D)} {k : Key} {v : D} (h : ∀ p ∈ es, p.1 ≠ k) : putD es k v = es ++ [(k, v)] := by
  unfold putD
  rw [if_neg]
  simp only [List.any_eq_true, not_exists, not_and, decide_eq_true_eq]
  exact fun p hp => h p hp
theorem mrg_go : ∀ {T S : List Str}, (S ++ T).Nodup → (eD T P).foldl (fun acc kv => putD acc kv.1 kv.2) (eD S P) = eD (S ++ T) P
  | [], S, _ => by simp [eD]
  | t :: T, S, h => by
    have e : putD (eD S P) (.inr t) (P t) = eD (S ++ [t]) P := by
      rw [put_new]
      · simp [eD]
      · intro p hp z
        simp only [eD, List.mem_map] at hp
        obtain ⟨s, hs, rfl⟩ := hp
        simp only [Sum.inr.injEq] at z
        subst z
        have := (List.nodup_append.mp h).2.2 s hs s List.mem_cons_self
        exact this rfl
    have ih := mrg_go (T := T) (S := S ++ [t]) (by simpa using h)
    rw [show eD (t :: T) P = (.inr t, P t) :: eD T P from rfl, List.foldl_cons, e, ih]
    simp
theorem mrg_eD (h : S.Nodup) : mrgD (eD S P) = eD S P := by
  have := mrg_go (P := P) (T := S) (S := []) (by simpa using h)
  exact this
theorem dict_lst (h : S.Nodup) : dictD [.lst (S.map fun s => .tup [.str s, P s])] m = .ok (dD S P) m := by
  have : dictD [.lst (S.map fun s => D.tup [.str s, P s])] m = match (match prsD (S.map fun s => D.tup [.str s, P s]) with
    | some es => some (mrgD es)
    | none => none) with
    | some es => .ok (dctOf es) m
    | none => .no := rfl
  rw [this, prs_eD]
  simp only [mrg_eD h, dctOf_eD]
theorem dict_dD : dictD [dD S P] m = .ok (dD S P) m := by
  have : dictD [dD S P] m = match (match viewD (dD S P) m with
    | some es => some es
    | none => match (viewL (dD S P) m).bind prsD with
      | some es => some (mrgD es)
      | none => none) with
    | some es => .ok (dctOf es) m
    | none => .no := rfl
  rw [this, view_dD]
  simp only [dctOf_eD]
theorem dictM_lst (h : S.Nodup) : dictMD [.lst (S.map fun s => .tup [.str s, P s])] m = .ok (.ref m.length) (m ++ [.dct (S.map fun s => (.str s, P s))]) := by
  have : dictMD [.lst (S.map fun s => D.tup [.str s, P s])] m = match (match prsD (S.map fun s => D.tup [.str s, P s]) with
    | some es => some (mrgD es)
    | none => none) with
    | some es => .ok (.ref m.length) (m ++ [.dct (es.map fun kv => (keyD kv.1, kv.2))])
    | none => .no := rfl
  rw [this, prs_eD]
  dsimp only
  rw [mrg_eD h]
  simp [eD, keyD, Function.comp_def]
theorem items_eD : (eD S P).map (fun p => D.tup [keyD p.1, p.2]) = S.map fun s => .tup [.str s, P s] := by simp [eD, keyD, Function.comp_def]
theorem vals_eD : (eD S P).map (·.2) = S.map P := by simp [eD, Function.comp_def]
/-- whole numbers as what is had -/
abbrev dI (S : List Str) (f : Str → Int) : D := dD S fun s => .int (f s)
theorem norefK_dD (h : ∀ s, noref (P s) = true) : ∀ S : List Str, norefK (S.map fun s => (D.str s, P s)) = true
  | [] => rfl
  | s :: S => by simp only [List.map_cons, norefK, noref, h s, norefK_dD h S, Bool.and_self]
theorem noref_dI {f : Str → Int} : noref (dI S f) = true := by
  unfold dI dD
  simp only [noref]
  exact norefK_dD (fun s => rfl) S
theorem hits_eD {f g : Str → Int} : ∀ S : List Str, (∀ s ∈ S, s ∈ T) → hitsB (eD T fun s => .int (g s)) (eD S fun s => .int (f s)) = S.all fun s => decide (f s = g s)
  | [], _ => rfl
  | s :: S, h => by
    have ih := hits_eD (f := f) (g := g) S fun x hx => h x (List.mem_cons_of_mem _ hx)
    unfold eD at ih ⊢
    have fd := find_eD (P := fun s => .int (g s)) (h s List.mem_cons_self)
    unfold eD at fd
    simp only [List.map_cons, hitsB, fd, List.all_cons, ih]
    congr 1
theorem eq_dI {f g : Str → Int} : eqD (dI S f) (dI S g) m = .ok (.bl (S.all fun s => decide (f s = g s))) m := by
  have sh : ∀ (h : Str → Int), (eD S fun s => .int (h s)).all (fun p => shp p.2) = true := fun h => by
    rw [List.all_eq_true]
    intro p hp
    simp only [eD, List.mem_map] at hp
    obtain ⟨s, _, rfl⟩ := hp
    rfl
  unfold eqD eqB
  rw [view_dD, view_dD]
  simp only [sh f, sh g, and_self, if_true, blR]
  unfold eqK
  rw [hits_eD S fun _ h => h]
  simp [len_eD]
theorem eq_dI_len {f g : Str → Int} (h : S.length ≠ T.length) : eqD (dI S f) (dI T g) m = .ok (.bl false) m := by
  have sh : ∀ (S : List Str) (h : Str → Int), (eD S fun s => .int (h s)).all (fun p => shp p.2) = true := fun S h => by
    rw [List.all_eq_true]
    intro p hp
    simp only [eD, List.mem_map] at hp
    obtain ⟨s, _, rfl⟩ := hp
    rfl
  unfold eqD eqB
  rw [view_dD, view_dD]
  simp only [sh S f, sh T g, and_self, if_true, blR]
  unfold eqK
  simp [len_eD, h]
end
/-! ### comprehensions -/
section
variable {fs : List Sem} {env : Env} {m : M} {i : Nat} {x : Str}
theorem lcN {it e : T} {d : D} {xs : List D} {P : D → D} (hi : evE fs it env m = .ok d m) (hv : viewI d m = some xs) (hl : xs.length ≤ 1000) (h : ∀ d ∈ xs, evE fs e (env.set i (some d)) m = .ok (P d) m) :
    evE fs (.lc [(x, i)] (.name i) it .noP e) env m = .ok (.lst (xs.map P)) m := by
  refine ev_lc hi hv (by omega) ?_
  rw [lc_map (f := P)]
  · simp
  · intro d hd
    have np : isNoP .noP = true := rfl
    simp only [lcSt, asgG, List.map_cons, List.map_nil, wipeD, List.set_set, np, if_true, R.bind_ok, h d hd]
theorem lcS {it e : T} {d : D} {S : List Str} {P : Str → D} (hi : evE fs it env m = .ok d m) (hv : viewI d m = some (S.map .str)) (hl : S.length ≤ 1000) (h : ∀ s ∈ S, evE fs e (env.set i (some (.str s))) m = .ok (P s) m) :
    evE fs (.lc [(x, i)] (.name i) it .noP e) env m = .ok (.lst (S.map P)) m := by
  have := lcN (fs := fs) (env := env) (m := m) (i := i) (x := x) (e := e) (P := fun d => match d with
    | .str s => P s
    | d => d) hi hv (by simpa using hl) (fun d hd => by
      obtain ⟨s, hs, rfl⟩ := List.mem_map.mp hd
      exact h s hs)
  rw [this]
  simp [Function.comp_def]
theorem lcF {it c e : T} {d : D} {xs : List D} {p : D → Bool} (hc : isNoP c = false) (hi : evE fs it env m = .ok d m) (hv : viewI d m = some xs) (hl : xs.length ≤ 1000) (h : ∀ d ∈ xs, evE fs c (env.set i (some d)) m = .ok (.bl (p d)) m) (he : ∀ d ∈ xs, evE fs e (env.set i (some d)) m = .ok d m) :
    evE fs (.lc [(x, i)] (.name i) it c e) env m = .ok (.lst (xs.filter p)) m := by
  refine ev_lc hi hv (by omega) ?_
  rw [lc_filter (p := p)]
  · simp
  · intro d hd
    simp only [lcSt, asgG, List.map_cons, List.map_nil, wipeD, List.set_set, hc, Bool.false_eq_true, if_false, R.bind_ok, h d hd, truth_bl]
    cases p d <;> simp [he d hd, R.bind_ok]
/-- .. none stays -/
theorem lcE0 {it c e : T} {d : D} {xs : List D} (hc : isNoP c = false) (hi : evE fs it env m = .ok d m) (hv : viewI d m = some xs) (hl : xs.length ≤ 1000) (h : ∀ d ∈ xs, evE fs c (env.set i (some d)) m = .ok (.bl false) m) :
    evE fs (.lc [(x, i)] (.name i) it c e) env m = .ok (.lst []) m := by
  refine ev_lc hi hv (by omega) ?_
  have : ∀ (xs acc : List D), (∀ d ∈ xs, evE fs c (env.set i (some d)) m = .ok (.bl false) m) → lcGo (lcSt fs [(x, i)] (.name i) c e env) xs acc m = .ok acc m := by
    intro xs
    induction xs with
    | nil => intro acc _; rfl
    | cons d xs ih =>
      intro acc h
      have e1 : lcSt fs [(x, i)] (.name i) c e env d m = .ok none m := by
        simp only [lcSt, asgG, List.map_cons, List.map_nil, wipeD, List.set_set, hc, Bool.false_eq_true, if_false, R.bind_ok, h d List.mem_cons_self, truth_bl]
      simp only [lcGo, e1]
      exact ih acc fun d hd => h d (List.mem_cons_of_mem _ hd)
  exact this xs [] h
theorem dc_go {step : D → M → R (Key × D)} {P : Str → D} : ∀ {T S : List Str}, (S ++ T).Nodup → (∀ t ∈ T, step (.str t) m = .ok (.inr t, P t) m) → dcGo step (T.map .str) (eD S P) m = .ok (eD (S ++ T) P) m
  | [], S, _, _ => by simp [dcGo]
  | t :: T, S, h, hs => by
    have e : putD (eD S P) (.inr t) (P t) = eD (S ++ [t]) P := by
      rw [put_new]
      · simp [eD]
      · intro p hp z
        simp only [eD, List.mem_map] at hp
        obtain ⟨s, hs', rfl⟩ := hp
        simp only [Sum.inr.injEq] at z
        subst z
        exact (List.nodup_append.mp h).2.2 s hs' s List.mem_cons_self rfl
    simp only [List.map_cons, dcGo, hs t List.mem_cons_self, e]
    rw [dc_go (T := T) (S := S ++ [t]) (by simpa using h) fun z hz => hs z (List.mem_cons_of_mem _ hz)]
    simp
theorem dcN {it v : T} {d : D} {S : List Str} {P : Str → D} (hi : evE fs it env m = .ok d m) (hv : viewI d m = some (S.map .str)) (hl : S.length ≤ 1000) (nd : S.Nodup) (hE : i < env.length) (h : ∀ s ∈ S, evE fs v (env.set i (some (.str s))) m = .ok (P s) m) :
    evE fs (.dc [(x, i)] (.name i) it (.var i) v) env m = .ok (dD S P) m := by
  rw [dc_eq]
  unfold dcE
  rw [hi, R.bind_ok, hv]
  dsimp only
  rw [if_pos (by rw [sizeLine_eq, List.length_map]; omega)]
  rw [show ([] : List (Key × D)) = eD [] P from rfl, dc_go (P := P) (S := []) (by simpa using nd)]
  · simp only [R.bind_ok, List.nil_append, dctOf_eD]
  · intro s hs
    have e1 : evE fs (.var i) (env.set i (some (.str s))) m = .ok (.str s) m := ev_var (has_self hE)
    simp only [dcStep, asgG, List.map_cons, List.map_nil, wipeD, List.set_set, keyR, e1, R.bind_ok, keyOf, h s hs]
end
end HB
namespace HB
open PySem L2
/-! ### fractions -/
theorem gcd_step (a b : Int) (hb : b ≠ 0) : (a.fmod b).natAbs < b.natAbs ∧ Int.gcd b (a.fmod b) = Int.gcd a b := by
  constructor
  · have h1 := Int.emod_nonneg a hb
    have h2 := Int.emod_lt a hb
    rw [Int.fmod_eq_emod]
    split
    · omega
    · rename_i h
      have h3 : ¬ (b ∣ a) := fun z => h (.inr z)
      have h4 : a % b ≠ 0 := fun z => h3 (Int.dvd_of_emod_eq_zero z)
      omega
  · have e : a.fmod b = a - b * a.fdiv b := Int.fmod_def a b
    rw [e, Int.gcd_sub_mul_left_right, Int.gcd_comm]
theorem gcd_abs (a b : Int) : Int.gcd (if a < 0 then -a else a) (if b < 0 then -b else b) = Int.gcd a b := by
  split <;> split <;> simp [Int.gcd]
theorem gcd_pos {a b : Int} (h : b ≠ 0) : 0 < Int.gcd a b := Int.gcd_pos_of_ne_zero_right a h
theorem gcd_le {a b : Int} (h : b ≠ 0) : Int.gcd a b ≤ b.natAbs := Nat.le_of_dvd (by omega) (Int.gcd_dvd_natAbs_right a b)
/-- the fraction of two numbers, the second one above 0 -/
def lowT (a b : Int) : D := .tup [.int (a.fdiv (Int.gcd a b : Nat)), .int (b.fdiv (Int.gcd a b : Nat))]
theorem fdiv_of {a c g : Int} (hg : g ≠ 0) (h : a = g * c) : a.fdiv g = c := by rw [h]; exact Int.mul_fdiv_cancel_left _ hg
theorem low_mul {c : Nat} {a b : Int} (hc : 0 < c) (hb : b ≠ 0) : lowT ((c : Int) * a) ((c : Int) * b) = lowT a b := by
  have hg := gcd_pos (a := a) hb
  obtain ⟨x, hx⟩ := Int.gcd_dvd_left a b
  obtain ⟨y, hy⟩ := Int.gcd_dvd_right a b
  have e : Int.gcd ((c : Int) * a) ((c : Int) * b) = c * Int.gcd a b := by rw [Int.gcd_mul_left, Int.natAbs_natCast]
  have n1 : ((c * Int.gcd a b : Nat) : Int) ≠ 0 := by
    have := Nat.mul_pos hc hg
    omega
  have n2 : ((Int.gcd a b : Nat) : Int) ≠ 0 := by omega
  unfold lowT
  rw [e, fdiv_of n1 (c := x) (by rw [Int.natCast_mul, Int.mul_assoc, ← hx]), fdiv_of n1 (c := y) (by rw [Int.natCast_mul, Int.mul_assoc, ← hy]), fdiv_of n2 hx, fdiv_of n2 hy]
theorem log60 {i : Int} (h : i.natAbs < 10 ^ 60) : i.natAbs.log2 < 200 := log_lt (Nat.lt_of_lt_of_le h (by decide +kernel)) (by decide)
/-! ### the greatest divisor of a unit and all that is paid -/
def gS (S : List Str) (f : Str → Int) (u : Nat) : Nat := S.foldl (fun g s => Int.gcd (g : Int) (f s)) u
theorem gS_cons {s : Str} {S : List Str} {f : Str → Int} {u : Nat} : gS (s :: S) f u = gS S f (Int.gcd (u : Int) (f s)) := rfl
theorem gS_dvd {f : Str → Int} {d : Nat} : ∀ {S : List Str} {u : Nat}, d ∣ gS S f u ↔ d ∣ u ∧ ∀ s ∈ S, (d : Int) ∣ f s
  | [], u => by simp [gS]
  | s :: S, u => by
    rw [gS_cons, gS_dvd, Int.dvd_gcd_iff]
    simp only [List.mem_cons, forall_eq_or_imp, and_assoc]
    constructor
    · rintro ⟨a, b, c⟩
      exact ⟨Int.natCast_dvd_natCast.mp a, b, c⟩
    · rintro ⟨a, b, c⟩
      exact ⟨Int.natCast_dvd_natCast.mpr a, b, c⟩
where
  Int.dvd_gcd_iff {d : Nat} {a b : Int} : d ∣ Int.gcd a b ↔ (d : Int) ∣ a ∧ (d : Int) ∣ b := by
    constructor
    · intro h
      have h2 : (d : Int) ∣ (Int.gcd a b : Int) := Int.natCast_dvd_natCast.mpr h
      exact ⟨Int.dvd_trans h2 (Int.gcd_dvd_left a b), Int.dvd_trans h2 (Int.gcd_dvd_right a b)⟩
    · rintro ⟨h1, h2⟩
      exact Nat.dvd_gcd (by have := Int.natAbs_dvd_natAbs.mpr h1; simpa using this) (by have := Int.natAbs_dvd_natAbs.mpr h2; simpa using this)
theorem gS_pos {f : Str → Int} {S : List Str} {u : Nat} (h : 0 < u) : 0 < gS S f u := by
  have := (gS_dvd (f := f) (d := gS S f u) (S := S) (u := u)).mp (Nat.dvd_refl _)
  exact Nat.pos_of_dvd_of_pos this.1 h
theorem gS_perm {f : Str → Int} {S T : List Str} {u : Nat} (h : S.Perm T) : gS S f u = gS T f u := by
  apply Nat.dvd_antisymm
  · rw [gS_dvd]
    have := (gS_dvd (f := f) (d := gS S f u) (S := S) (u := u)).mp (Nat.dvd_refl _)
    exact ⟨this.1, fun s hs => this.2 s (h.mem_iff.mpr hs)⟩
  · rw [gS_dvd]
    have := (gS_dvd (f := f) (d := gS T f u) (S := T) (u := u)).mp (Nat.dvd_refl _)
    exact ⟨this.1, fun s hs => this.2 s (h.mem_iff.mp hs)⟩
theorem gS_congr {f g : Str → Int} : ∀ {S : List Str} {u : Nat}, (∀ s ∈ S, f s = g s) → gS S f u = gS S g u
  | [], _, _ => rfl
  | s :: S, u, h => by rw [gS_cons, gS_cons, h s List.mem_cons_self, gS_congr fun x hx => h x (List.mem_cons_of_mem _ hx)]
theorem gS_mul {f : Str → Int} {c : Nat} : ∀ {S : List Str} {u : Nat}, gS S (fun s => (c : Int) * f s) (c * u) = c * gS S f u
  | [], u => rfl
  | s :: S, u => by
    rw [gS_cons, gS_cons, ← gS_mul]
    congr 1
    rw [Int.natCast_mul, Int.gcd_mul_left, Int.natAbs_natCast]
/-- in lowest terms -/
theorem gS_low {f : Str → Int} {S : List Str} {u : Nat} (h : 0 < u) : ∃ (q : Str → Int) (v : Nat), (∀ s ∈ S, f s = (gS S f u : Int) * q s) ∧ u = gS S f u * v ∧ 0 < v ∧ gS S q v = 1 := by
  have hg := gS_pos (f := f) (S := S) h
  obtain ⟨d1, d2⟩ := (gS_dvd (f := f) (d := gS S f u) (S := S) (u := u)).mp (Nat.dvd_refl _)
  obtain ⟨v, hv⟩ := d1
  have hq : ∀ s ∈ S, f s = (gS S f u : Int) * (f s / (gS S f u : Int)) := fun s hs => (Int.mul_ediv_cancel' (d2 s hs)).symm
  have hv0 : 0 < v := by
    rcases Nat.eq_zero_or_pos v with z | z
    · rw [z] at hv; omega
    · exact z
  refine ⟨fun s => f s / (gS S f u : Int), v, hq, hv, hv0, ?_⟩
  have e : gS S f u = gS S f u * gS S (fun s => f s / (gS S f u : Int)) v := by
    have e1 := gS_congr (S := S) (u := u) hq
    have e2 : gS S (fun s => (gS S f u : Int) * (f s / (gS S f u : Int))) u = gS S (fun s => (gS S f u : Int) * (f s / (gS S f u : Int))) (gS S f u * v) := congrArg _ hv
    exact e1.trans (e2.trans gS_mul)
  have := Nat.eq_of_mul_eq_mul_left hg (by rw [Nat.mul_one]; exact e.symm : gS S f u * gS S (fun s => f s / (gS S f u : Int)) v = gS S f u * 1)
  exact this
/-! ### the least multiple of the bottoms -/
theorem lcm_step {u a d : Nat} (hu : 0 < u) (ha : a ∣ u) (hd : d ∣ u) : (u / a) * ((u / d) / Nat.gcd (u / a) (u / d)) = u / Nat.gcd a d := by
  obtain ⟨x, hx⟩ := ha
  obtain ⟨y, hy⟩ := hd
  have a0 : 0 < a := Nat.pos_of_ne_zero fun z => by subst z; simp at hx; omega
  have d0 : 0 < d := Nat.pos_of_ne_zero fun z => by subst z; simp at hy; omega
  have x0 : 0 < x := Nat.pos_of_ne_zero fun z => by subst z; simp at hx; omega
  have y0 : 0 < y := Nat.pos_of_ne_zero fun z => by subst z; simp at hy; omega
  have e1 : u / a = x := by rw [hx, Nat.mul_div_cancel_left _ a0]
  have e2 : u / d = y := by rw [hy, Nat.mul_div_cancel_left _ d0]
  rw [e1, e2]
  have h0 : 0 < Nat.gcd x y := Nat.gcd_pos_of_pos_left _ x0
  have g0 : 0 < Nat.gcd a d := Nat.gcd_pos_of_pos_left _ a0
  obtain ⟨z, hz⟩ := Nat.gcd_dvd_right x y
  have e3 : y / Nat.gcd x y = z := Nat.div_eq_of_eq_mul_right h0 hz
  have key : Nat.gcd a d * y = a * Nat.gcd x y := by
    have k1 : Nat.gcd (a * y) (d * y) = Nat.gcd a d * y := Nat.gcd_mul_right a y d
    have k2 : Nat.gcd (a * y) (d * y) = a * Nat.gcd y x := by rw [← hy, hx]; exact Nat.gcd_mul_left a y x
    rw [← k1, k2, Nat.gcd_comm]
  have k3 : Nat.gcd a d * (Nat.gcd x y * z) = a * Nat.gcd x y := by rw [← hz]; exact key
  have k4 : Nat.gcd a d * z = a := by
    have : Nat.gcd x y * (Nat.gcd a d * z) = Nat.gcd x y * a := by
      rw [← Nat.mul_assoc, Nat.mul_comm (Nat.gcd x y), Nat.mul_assoc, k3, Nat.mul_comm]
    exact Nat.eq_of_mul_eq_mul_left h0 this
  rw [e3]
  symm
  apply Nat.div_eq_of_eq_mul_left g0
  rw [hx]
  conv => lhs; rw [← k4]
  rw [Nat.mul_comm (Nat.gcd a d) z, Nat.mul_assoc, Nat.mul_comm (Nat.gcd a d) x, ← Nat.mul_assoc, Nat.mul_comm z x]
theorem gcd_sub {a u : Nat} {p : Int} (ha : a ∣ u) : Nat.gcd a (Int.gcd p (u : Int)) = Int.gcd (a : Int) p := by
  apply Nat.dvd_antisymm
  · have h1 := Nat.gcd_dvd_left a (Int.gcd p (u : Int))
    have h2 := Nat.dvd_trans (Nat.gcd_dvd_right a (Int.gcd p (u : Int))) (Int.gcd_dvd_natAbs_left p (u : Int))
    exact Nat.dvd_gcd (by simpa using h1) h2
  · have h1 : Int.gcd (a : Int) p ∣ a := by simpa using Int.gcd_dvd_natAbs_left (a : Int) p
    have h2 : Int.gcd (a : Int) p ∣ p.natAbs := Int.gcd_dvd_natAbs_right (a : Int) p
    exact Nat.dvd_gcd h1 (Nat.dvd_gcd h2 (by simpa using Nat.dvd_trans h1 ha))
end HB
namespace K09
open PySem PySem.Spec PyProof.Rows L2 HB
def top (i : Nat) : Stmt := PySem.Challenge.pw_huebill_k09_whole_sums_and_shares_of_cha.main.body.getD i (.Pass ⟨0, 0, 0, 0⟩)
abbrev st_law_stir : Stmt := top 33
def b_law_stir : S := (.cons (.ife (.cmp .gt (.ix (.var 0) (.int 0)) (.int 0)) (.cons (.asg (.name 4) (.bin .mod (.blt .int (.cons (.ix (.var 0) (.int 0)) .nil)) (.var 1)))
    (.cons (.setix (.var 0) (.int 0) (.bin .fdiv (.ix (.var 0) (.int 0)) (.var 1)))
    (.cons (.ret (.var 4))
    .nil))) .nil)
    (.cons (.setix (.var 0) (.int 2) (.bin .add (.ix (.var 0) (.int 2)) (.int 1)))
    (.cons (.asg (.name 2) (.bin .mod (.blt .int (.cons (.bin .add (.ix (.var 0) (.int 1)) (.bin .mul (.int 1048583) (.ix (.var 0) (.int 2)))) .nil)) (.int 2305843009213693951)))
    (.cons (.asg (.name 3) (.bin .add (.bin .mul (.bin .mod (.blt .int (.cons (.bin .mul (.var 2) (.var 2)) .nil)) (.int 2305843009213693907)) (.var 2)) (.bin .mul (.int 8101) (.ix (.var 0) (.int 2)))))
    (.cons (.ret (.bin .mod (.blt .int (.cons (.bin .fdiv (.bin .mod (.blt .int (.cons (.var 3) .nil)) (.int 2305843009213693921)) (.int 16384)) .nil)) (.var 1)))
    .nil)))))
def F_law_stir : Sem := runB [] 5 b_law_stir
abbrev st_law_shuffled : Stmt := top 35
def b_law_shuffled : S := (.cons (.asg (.name 2) (.blt .listM (.cons (.var 1) .nil)))
    (.cons (.ret (.lc [("_law_turn", 3)] (.name 3) (.rng1 (.blt .len (.cons (.var 1) .nil))) .noP (.popAt (.var 2) (.call 0 (.cons (.var 0) (.cons (.blt .len (.cons (.var 2) .nil)) .nil))))))
    .nil))
def F_law_shuffled : Sem := runB [F_law_stir] 4 b_law_shuffled
abbrev st_law_words : Stmt := top 37
def b_law_words : S := (.cons (.asg (.name 2) (.lst (.cons (.str "a") (.cons (.str "b") (.cons (.str "c") (.cons (.str "d") (.cons (.str "e") (.cons (.str "f") (.cons (.str "g") (.cons (.str "h") (.cons (.str "ab") (.cons (.str "zz") (.cons (.str "hue") (.cons (.str "thing") (.cons (.str "zzzzzzzz") .nil)))))))))))))))
    (.cons (.ret (.blt .tuple (.cons (.blt .sorted (.cons (.sl (.call 0 (.cons (.var 0) (.cons (.var 2) .nil))) .noP (.var 1)) .nil)) .nil)))
    .nil))
def F_law_words : Sem := runB [F_law_shuffled] 3 b_law_words
abbrev st_law_one_of : Stmt := top 34
def b_law_one_of : S := (.cons (.ret (.ix (.var 1) (.call 0 (.cons (.var 0) (.cons (.blt .len (.cons (.var 1) .nil)) .nil)))))
    .nil)
def F_law_one_of : Sem := runB [F_law_stir] 2 b_law_one_of
abbrev st_law_number : Stmt := top 38
def b_law_number : S := (.cons (.asg (.name 1) (.call 0 (.cons (.var 0) (.cons (.int 6) .nil))))
    (.cons (.ife (.cmp .lt (.var 1) (.int 4)) (.cons (.ret (.bin .sub (.call 0 (.cons (.var 0) (.cons (.int 9) .nil))) (.int 3)))
    .nil) .nil)
    (.cons (.asg (.name 2) (.bin .add (.bin .mul (.call 0 (.cons (.var 0) (.cons (.bin .pow (.int 10) (.int 15)) .nil))) (.bin .pow (.int 10) (.int 15))) (.call 0 (.cons (.var 0) (.cons (.bin .pow (.int 10) (.int 15)) .nil)))))
    (.cons (.ret (.ite (.cmp .eq (.var 1) (.int 4)) (.var 2) (.bin .sub (.int 0) (.var 2))))
    .nil))))
def F_law_number : Sem := runB [F_law_stir] 3 b_law_number
abbrev st_law_sums : Stmt := top 39
def b_law_sums : S := (.cons (.asg (.name 2) (.call 0 (.cons (.var 0) (.cons (.int 4) .nil))))
    (.cons (.ife (.cmp .eq (.var 2) (.int 0)) (.cons (.ret (.tup (.cons (.blt .dict (.cons (.lc [("_law_one", 3)] (.name 3) (.var 1) .noP (.tup (.cons (.var 3) (.cons (.call 0 (.cons (.var 0) (.cons (.int 2) .nil))) .nil)))) .nil)) (.cons (.int 1) .nil))))
    .nil) .nil)
    (.cons (.ife (.cmp .eq (.var 2) (.int 1)) (.cons (.ret (.tup (.cons (.blt .dict (.cons (.lc [("_law_one", 3)] (.name 3) (.var 1) .noP (.tup (.cons (.var 3) (.cons (.call 0 (.cons (.var 0) (.cons (.int 5) .nil))) .nil)))) .nil)) (.cons (.bin .add (.int 1) (.call 0 (.cons (.var 0) (.cons (.int 4) .nil)))) .nil))))
    .nil) .nil)
    (.cons (.ret (.tup (.cons (.blt .dict (.cons (.lc [("_law_one", 3)] (.name 3) (.var 1) .noP (.tup (.cons (.var 3) (.cons (.call 2 (.cons (.var 0) .nil)) .nil)))) .nil)) (.cons (.bin .add (.int 1) (.call 0 (.cons (.var 0) (.cons (.call 1 (.cons (.var 0) (.cons (.lst (.cons (.int 6) (.cons (.int 12) (.cons (.bin .pow (.int 10) (.int 9)) .nil)))) .nil))) .nil)))) .nil))))
    .nil))))
def F_law_sums : Sem := runB [F_law_stir, F_law_one_of, F_law_number] 4 b_law_sums
abbrev st_is_name : Stmt := top 13
def b_is_name : S := (.cons (.ret (.and (.isi (.var 0) "str") (.and (.chain .le .le (.int 1) (.blt .len (.cons (.var 0) .nil)) (.gint "MAX_NAME" 8)) (.blt .all (.cons (.lc [("sign", 1)] (.name 1) (.var 0) .noP (.chain .le .le (.str "a") (.var 1) (.str "z"))) .nil)))))
    .nil)
def F_is_name : Sem := runB [] 2 b_is_name
abbrev st_is_integer : Stmt := top 12
def b_is_integer : S := (.cons (.ret (.and (.isi (.var 0) "int") (.and (.not (.isi (.var 0) "bool")) (.chain .le .le (.neg (.gint "GREATEST" 999999999999999999999999999999999999999999999999999999999999)) (.var 0) (.gint "GREATEST" 999999999999999999999999999999999999999999999999999999999999)))))
    .nil)
def F_is_integer : Sem := runB [] 1 b_is_integer
abbrev st_are_pays : Stmt := top 18
def b_are_pays : S := (.cons (.ife (.or (.not (.isi (.var 0) "dict")) (.not (.chain .le .le (.int 1) (.blt .len (.cons (.var 0) .nil)) (.gint "MAX_THINGS" 8)))) (.cons (.ret (.bl false))
    .nil) .nil)
    (.cons (.ret (.blt .all (.cons (.lc [("thing", 1)] (.name 1) (.var 0) .noP (.and (.call 0 (.cons (.var 1) .nil)) (.call 1 (.cons (.ix (.var 0) (.var 1)) .nil)))) .nil)))
    .nil))
def F_are_pays : Sem := runB [F_is_name, F_is_integer] 2 b_are_pays
abbrev st_greatest_common : Stmt := top 19
def b_greatest_common : S := (.cons (.wh (10 ^ 200 + 1) (.cmp .ne (.var 1) (.int 0)) (.cons (.par 0 1 (.var 1) (.bin .mod (.var 0) (.var 1)))
    .nil))
    (.cons (.ret (.blt .abs (.cons (.var 0) .nil)))
    .nil))
def F_greatest_common : Sem := runB [] 2 b_greatest_common
abbrev st_Pays___init : Stmt := (clsBody (top 20)).getD 0 (.Pass ⟨0, 0, 0, 0⟩)
def b_Pays___init : S := (.cons (.asg (.name 3) (.var 2))
    (.cons (.fr (.name 4) (.iter .vals (.cons (.var 1) .nil)) (.cons (.asg (.name 3) (.call 0 (.cons (.var 3) (.cons (.var 4) .nil))))
    .nil))
    (.cons (.setf (.var 0) "own_pays" ["Pays"] (.dc [("thing", 5)] (.name 5) (.blt .sorted (.cons (.blt .list (.cons (.var 1) .nil)) .nil)) (.var 5) (.bin .fdiv (.ix (.var 1) (.var 5)) (.var 3))))
    (.cons (.setf (.var 0) "own_unit" ["Pays"] (.bin .fdiv (.var 2) (.var 3)))
    .nil))))
def F_Pays___init : Sem := runB [F_greatest_common] 6 b_Pays___init
abbrev st_checked_pays : Stmt := top 21
def b_checked_pays : S := (.cons (.ife (.not (.call 0 (.cons (.var 0) .nil))) (.cons (.rai0 "InvalidCharge")
    .nil) .nil)
    (.cons (.ife (.or (.not (.call 1 (.cons (.var 1) .nil))) (.cmp .lt (.var 1) (.int 1))) (.cons (.rai "InvalidNumber" "value" false (.var 1))
    .nil) .nil)
    (.cons (.ret (.prm (.onew "Pays" 2) (.cons (.var 0) (.cons (.var 1) .nil))))
    .nil)))
def F_checked_pays : Sem := runB [F_are_pays, F_is_integer, F_Pays___init] 2 b_checked_pays
abbrev st_Charge___init : Stmt := (clsBody (top 22)).getD 0 (.Pass ⟨0, 0, 0, 0⟩)
def b_Charge___init : S := (.cons (.asg (.name 3) (.ite (.mth (.isO "Pays" ["Pays", "Charge"]) (.var 1) .nil) (.var 1) (.call 0 (.cons (.var 1) (.cons (.var 2) .nil)))))
    (.cons (.setf (.var 0) "own_pays" ["Charge"] (.mth (.ofld "own_pays" ["Pays", "Charge"]) (.var 3) .nil))
    (.cons (.setf (.var 0) "own_unit" ["Charge"] (.mth (.ofld "own_unit" ["Pays", "Charge"]) (.var 3) .nil))
    (.cons (.setf (.var 0) "own_things" ["Charge"] (.blt .tuple (.cons (.blt .list (.cons (.mth (.ofld "own_pays" ["Pays", "Charge"]) (.var 3) .nil) .nil)) .nil)))
    .nil))))
def F_Charge___init : Sem := runB [F_checked_pays] 4 b_Charge___init
abbrev st_law_made_charge : Stmt := top 40
def b_law_made_charge : S := (.cons (.ret (.onewK "Charge" 0 (.cons (.blt .dict (.cons (.mth .litems (.ix (.var 0) (.int 0)) .nil) .nil)) .nil) (.ix (.var 0) (.int 1))))
    .nil)
def F_law_made_charge : Sem := runB [F_Charge___init] 1 b_law_made_charge
abbrev st_Charge___iter : Stmt := (clsBody (top 22)).getD 16 (.Pass ⟨0, 0, 0, 0⟩)
def b_Charge___iter : S := (.cons (.ret (.blt .iterM (.cons (.mth (.ofld "own_things" ["Charge"]) (.var 0) .nil) .nil)))
    .nil)
def F_Charge___iter : Sem := runB [] 1 b_Charge___iter
abbrev st_Charge___len : Stmt := (clsBody (top 22)).getD 15 (.Pass ⟨0, 0, 0, 0⟩)
def b_Charge___len : S := (.cons (.ret (.blt .len (.cons (.mth (.ofld "own_things" ["Charge"]) (.var 0) .nil) .nil)))
    .nil)
def F_Charge___len : Sem := runB [] 1 b_Charge___len
abbrev st_divisor_of : Stmt := top 14
def b_divisor_of : S := (.cons (.wh (10 ^ 200 + 1) (.cmp .ne (.var 1) (.int 0)) (.cons (.par 0 1 (.var 1) (.bin .mod (.var 0) (.var 1)))
    .nil))
    (.cons (.ret (.blt .abs (.cons (.var 0) .nil)))
    .nil))
def F_divisor_of : Sem := runB [] 2 b_divisor_of
abbrev st_lowest_of : Stmt := top 15
def b_lowest_of : S := (.cons (.asg (.name 2) (.call 0 (.cons (.var 0) (.cons (.var 1) .nil))))
    (.cons (.ife (.cmp .lt (.var 1) (.int 0)) (.cons (.asg (.name 2) (.neg (.var 2)))
    .nil) .nil)
    (.cons (.ret (.tup (.cons (.bin .fdiv (.var 0) (.var 2)) (.cons (.bin .fdiv (.var 1) (.var 2)) .nil))))
    .nil)))
def F_lowest_of : Sem := runB [F_divisor_of] 3 b_lowest_of
abbrev st_Charge___contains : Stmt := (clsBody (top 22)).getD 14 (.Pass ⟨0, 0, 0, 0⟩)
def b_Charge___contains : S := (.cons (.ret (.and (.call 0 (.cons (.var 1) .nil)) (.cmp .inn (.var 1) (.mth (.ofld "own_pays" ["Pays", "Charge"]) (.var 0) .nil))))
    .nil)
def F_Charge___contains : Sem := runB [F_is_name] 2 b_Charge___contains
abbrev st_Charge___getitem : Stmt := (clsBody (top 22)).getD 11 (.Pass ⟨0, 0, 0, 0⟩)
def b_Charge___getitem : S := (.cons (.ife (.obin .notInO [("Charge", 1)] (.var 1) (.var 0)) (.cons (.rai "UnknownName" "name" false (.var 1))
    .nil) .nil)
    (.cons (.ret (.call 0 (.cons (.ix (.mth (.ofld "own_pays" ["Pays", "Charge"]) (.var 0) .nil) (.var 1)) (.cons (.mth (.ofld "own_unit" ["Pays", "Charge"]) (.var 0) .nil) .nil))))
    .nil))
def F_Charge___getitem : Sem := runB [F_lowest_of, F_Charge___contains] 2 b_Charge___getitem
abbrev st_law_pays : Stmt := top 42
def b_law_pays : S := (.cons (.ife (.or (.not (.mth (.isO "Charge" ["Pays", "Charge"]) (.var 0) .nil)) (.cmp .ne (.prm (.lstO [("Charge", 0)] [("Charge", 1)]) (.cons (.var 0) .nil)) (.blt .sorted (.cons (.var 1) .nil)))) (.cons (.ret (.bl false))
    .nil) .nil)
    (.cons (.ret (.cmp .eq (.lc [("_law_one", 2)] (.name 2) (.var 1) (.cmp .ne (.obin .ixO [("Charge", 2)] (.var 0) (.var 2)) (.ix (.var 1) (.var 2))) (.var 2)) (.lst .nil)))
    .nil))
def F_law_pays : Sem := runB [F_Charge___iter, F_Charge___len, F_Charge___getitem] 3 b_law_pays
abbrev st_law_low : Stmt := top 41
def b_law_low : S := (.cons (.par 3 4 (.blt .abs (.cons (.var 0) .nil)) (.blt .abs (.cons (.var 1) .nil)))
    (.cons (.wh (10 ^ 200 + 1) (.cmp .gt (.var 4) (.int 0)) (.cons (.par 3 4 (.var 4) (.bin .mod (.blt .int (.cons (.var 3) .nil)) (.var 4)))
    .nil))
    (.cons (.asg (.name 2) (.ite (.cmp .gt (.var 1) (.int 0)) (.int 1) (.neg (.int 1))))
    (.cons (.ret (.tup (.cons (.bin .mul (.blt .int (.cons (.bin .fdiv (.var 0) (.var 3)) .nil)) (.var 2)) (.cons (.bin .mul (.blt .int (.cons (.bin .fdiv (.var 1) (.var 3)) .nil)) (.var 2)) .nil))))
    .nil))))
def F_law_low : Sem := runB [] 5 b_law_low
abbrev st_law_joint : Stmt := top 43
def b_law_joint : S := (.cons (.asg (.name 4) (.lstM .nil))
    (.cons (.fr (.name 5) (.blt .sorted (.cons (.ix (.var 0) (.int 0)) .nil)) (.cons (.par 6 7 (.bin .mul (.ix (.ix (.var 0) (.int 0)) (.var 5)) (.ix (.var 2) (.int 0))) (.bin .mul (.ix (.ix (.var 1) (.int 0)) (.var 5)) (.ix (.var 3) (.int 0))))
    (.cons (.par 8 9 (.bin .mul (.ix (.var 0) (.int 1)) (.ix (.var 2) (.int 1))) (.bin .mul (.ix (.var 1) (.int 1)) (.ix (.var 3) (.int 1))))
    (.cons (.app (.var 4) (.tup (.cons (.var 5) (.cons (.call 0 (.cons (.bin .add (.bin .mul (.var 6) (.var 9)) (.bin .mul (.var 7) (.var 8))) (.cons (.bin .mul (.var 8) (.var 9)) .nil))) .nil))))
    .nil))))
    (.cons (.ret (.blt .dict (.cons (.var 4) .nil)))
    .nil)))
def F_law_joint : Sem := runB [F_law_low] 10 b_law_joint
abbrev st_require_like : Stmt := top 29
def b_require_like : S := (.cons (.ife (.or (.not (.mth (.isO "Charge" ["Pays", "Charge"]) (.var 1) .nil)) (.cmp .ne (.mth (.ofld "own_things" ["Charge"]) (.var 1) .nil) (.mth (.ofld "own_things" ["Charge"]) (.var 0) .nil))) (.cons (.rai0 "InvalidOperation")
    .nil) .nil)
    .nil)
def F_require_like : Sem := runB [] 2 b_require_like
abbrev st_charge_with : Stmt := top 23
def b_charge_with : S := (.cons (.ret (.prm (.onewD "Charge" 0 1) (.cons (.prm (.onew "Pays" 1) (.cons (.var 0) (.cons (.var 1) .nil))) .nil)))
    .nil)
def F_charge_with : Sem := runB [F_Charge___init, F_Pays___init] 2 b_charge_with
abbrev st_joint_charge : Stmt := top 24
def b_joint_charge : S := (.cons (.asg (.tup (.cons (.name 5) (.cons (.name 6) .nil))) (.tup (.cons (.bin .mul (.var 2) (.mth (.ofld "own_unit" ["Pays", "Charge"]) (.var 1) .nil)) (.cons (.bin .mul (.var 3) (.mth (.ofld "own_unit" ["Pays", "Charge"]) (.var 0) .nil)) .nil))))
    (.cons (.asg (.name 4) (.dc [("thing", 7)] (.name 7) (.mth (.ofld "own_things" ["Charge"]) (.var 0) .nil) (.var 7) (.bin .add (.bin .mul (.ix (.mth (.ofld "own_pays" ["Pays", "Charge"]) (.var 0) .nil) (.var 7)) (.var 5)) (.bin .mul (.ix (.mth (.ofld "own_pays" ["Pays", "Charge"]) (.var 1) .nil) (.var 7)) (.var 6)))))
    (.cons (.ret (.call 0 (.cons (.var 4) (.cons (.bin .mul (.mth (.ofld "own_unit" ["Pays", "Charge"]) (.var 0) .nil) (.mth (.ofld "own_unit" ["Pays", "Charge"]) (.var 1) .nil)) .nil))))
    .nil)))
def F_joint_charge : Sem := runB [F_charge_with] 8 b_joint_charge
abbrev st_Charge___add : Stmt := (clsBody (top 22)).getD 12 (.Pass ⟨0, 0, 0, 0⟩)
def b_Charge___add : S := (.cons (.exp (.call 0 (.cons (.var 0) (.cons (.var 1) .nil))))
    (.cons (.ret (.call 1 (.cons (.var 0) (.cons (.var 1) (.cons (.int 1) (.cons (.int 1) .nil))))))
    .nil))
def F_Charge___add : Sem := runB [F_require_like, F_joint_charge] 2 b_Charge___add
abbrev st_Charge___sub : Stmt := (clsBody (top 22)).getD 13 (.Pass ⟨0, 0, 0, 0⟩)
def b_Charge___sub : S := (.cons (.exp (.call 0 (.cons (.var 0) (.cons (.var 1) .nil))))
    (.cons (.ret (.call 1 (.cons (.var 0) (.cons (.var 1) (.cons (.int 1) (.cons (.neg (.int 1)) .nil))))))
    .nil))
def F_Charge___sub : Sem := runB [F_require_like, F_joint_charge] 2 b_Charge___sub
abbrev st_Charge___eq : Stmt := (clsBody (top 22)).getD 17 (.Pass ⟨0, 0, 0, 0⟩)
def b_Charge___eq : S := (.cons (.ret (.and (.mth (.isO "Charge" ["Pays", "Charge"]) (.var 1) .nil) (.and (.cmp .eq (.mth (.ofld "own_unit" ["Pays", "Charge"]) (.var 0) .nil) (.mth (.ofld "own_unit" ["Pays", "Charge"]) (.var 1) .nil)) (.cmp .eq (.mth (.ofld "own_pays" ["Pays", "Charge"]) (.var 0) .nil) (.mth (.ofld "own_pays" ["Pays", "Charge"]) (.var 1) .nil)))))
    .nil)
def F_Charge___eq : Sem := runB [] 2 b_Charge___eq
abbrev st_require_share : Stmt := top 28
def b_require_share : S := (.cons (.ife (.not (.call 0 (.cons (.var 0) .nil))) (.cons (.rai "InvalidNumber" "value" false (.var 0))
    .nil) .nil)
    (.cons (.ife (.or (.not (.call 0 (.cons (.var 1) .nil))) (.cmp .lt (.var 1) (.int 1))) (.cons (.rai "InvalidNumber" "value" false (.var 1))
    .nil) .nil)
    .nil))
def F_require_share : Sem := runB [F_is_integer] 2 b_require_share
abbrev st_Charge_times : Stmt := (clsBody (top 22)).getD 8 (.Pass ⟨0, 0, 0, 0⟩)
def b_Charge_times : S := (.cons (.exp (.call 0 (.cons (.var 1) (.cons (.var 2) .nil))))
    (.cons (.asg (.name 3) (.dc [("thing", 4)] (.name 4) (.mth (.ofld "own_pays" ["Pays", "Charge"]) (.var 0) .nil) (.var 4) (.bin .mul (.ix (.mth (.ofld "own_pays" ["Pays", "Charge"]) (.var 0) .nil) (.var 4)) (.var 1))))
    (.cons (.ret (.call 1 (.cons (.var 3) (.cons (.bin .mul (.mth (.ofld "own_unit" ["Pays", "Charge"]) (.var 0) .nil) (.var 2)) .nil))))
    .nil)))
def F_Charge_times : Sem := runB [F_require_share, F_charge_with] 5 b_Charge_times
def F_Charge_timesD : Sem := fun ds m => F_Charge_times (ds ++ [.int 1]) m
abbrev st_Charge_total : Stmt := (clsBody (top 22)).getD 4 (.Pass ⟨0, 0, 0, 0⟩)
def b_Charge_total : S := (.cons (.ret (.call 0 (.cons (.blt .sum (.cons (.mth .lvals (.mth (.ofld "own_pays" ["Pays", "Charge"]) (.var 0) .nil) .nil) .nil)) (.cons (.mth (.ofld "own_unit" ["Pays", "Charge"]) (.var 0) .nil) .nil))))
    .nil)
def F_Charge_total : Sem := runB [F_lowest_of] 1 b_Charge_total
abbrev st_law_sums_right : Stmt := top 45
def b_law_sums_right : S := (.cons (.ife (.not (.call 0 (.cons (.obin .addO [("Charge", 3)] (.var 2) (.var 3)) (.cons (.call 1 (.cons (.var 0) (.cons (.var 1) (.cons (.tup (.cons (.int 1) (.cons (.int 1) .nil))) (.cons (.tup (.cons (.int 1) (.cons (.int 1) .nil))) .nil))))) .nil)))) (.cons (.ret (.bl false))
    .nil) .nil)
    (.cons (.ife (.not (.call 0 (.cons (.obin .subO [("Charge", 4)] (.var 2) (.var 3)) (.cons (.call 1 (.cons (.var 0) (.cons (.var 1) (.cons (.tup (.cons (.int 1) (.cons (.int 1) .nil))) (.cons (.tup (.cons (.neg (.int 1)) (.cons (.int 1) .nil))) .nil))))) .nil)))) (.cons (.ret (.bl false))
    .nil) .nil)
    (.cons (.ife (.or (.obin .neO [("Charge", 5)] (.obin .subO [("Charge", 4)] (.obin .addO [("Charge", 3)] (.var 2) (.var 3)) (.var 3)) (.var 2)) (.or (.obin .neO [("Charge", 5)] (.obin .subO [("Charge", 4)] (.var 2) (.var 2)) (.mth (.ometh "times" [("Charge", 6)]) (.var 3) (.cons (.int 0) .nil))) (.obin .neO [("Charge", 5)] (.obin .addO [("Charge", 3)] (.var 2) (.var 3)) (.obin .addO [("Charge", 3)] (.var 3) (.var 2))))) (.cons (.ret (.bl false))
    .nil) .nil)
    (.cons (.asg (.name 4) (.lc [("_law_some", 6)] (.name 6) (.tup (.cons (.var 0) (.cons (.var 1) .nil))) .noP (.call 2 (.cons (.blt .sum (.cons (.mth .lvals (.ix (.var 6) (.int 0)) .nil) .nil)) (.cons (.ix (.var 6) (.int 1)) .nil)))))
    (.cons (.asg (.name 5) (.call 2 (.cons (.bin .add (.bin .mul (.ix (.ix (.var 4) (.int 0)) (.int 0)) (.ix (.ix (.var 4) (.int 1)) (.int 1))) (.bin .mul (.ix (.ix (.var 4) (.int 1)) (.int 0)) (.ix (.ix (.var 4) (.int 0)) (.int 1)))) (.cons (.bin .mul (.ix (.ix (.var 4) (.int 0)) (.int 1)) (.ix (.ix (.var 4) (.int 1)) (.int 1))) .nil))))
    (.cons (.ret (.cmp .eq (.mth (.oprop "total" [("Charge", 7)]) (.obin .addO [("Charge", 3)] (.var 2) (.var 3)) .nil) (.var 5)))
    .nil))))))
def F_law_sums_right : Sem := runB [F_law_pays, F_law_joint, F_law_low, F_Charge___add, F_Charge___sub, F_Charge___eq, F_Charge_timesD, F_Charge_total] 7 b_law_sums_right
abbrev st_Charge_mixed : Stmt := (clsBody (top 22)).getD 9 (.Pass ⟨0, 0, 0, 0⟩)
def b_Charge_mixed : S := (.cons (.ife (.or (.not (.mth (.isO "Charge" ["Pays", "Charge"]) (.var 1) .nil)) (.cmp .ne (.mth (.ofld "own_things" ["Charge"]) (.var 1) .nil) (.mth (.ofld "own_things" ["Charge"]) (.var 0) .nil))) (.cons (.rai0 "InvalidCharge")
    .nil) .nil)
    (.cons (.exp (.call 0 (.cons (.var 2) (.cons (.var 3) .nil))))
    (.cons (.ife (.not (.chain .le .le (.int 0) (.var 2) (.var 3))) (.cons (.rai "InvalidNumber" "value" false (.var 2))
    .nil) .nil)
    (.cons (.asg (.name 4) (.call 1 (.cons (.mth (.ofld "own_pays" ["Pays", "Charge"]) (.var 0) .nil) (.cons (.bin .mul (.mth (.ofld "own_unit" ["Pays", "Charge"]) (.var 0) .nil) (.var 3)) .nil))))
    (.cons (.asg (.name 5) (.call 1 (.cons (.mth (.ofld "own_pays" ["Pays", "Charge"]) (.var 1) .nil) (.cons (.bin .mul (.mth (.ofld "own_unit" ["Pays", "Charge"]) (.var 1) .nil) (.var 3)) .nil))))
    (.cons (.ret (.call 2 (.cons (.var 4) (.cons (.var 5) (.cons (.var 2) (.cons (.bin .sub (.var 3) (.var 2)) .nil))))))
    .nil))))))
def F_Charge_mixed : Sem := runB [F_require_share, F_charge_with, F_joint_charge] 6 b_Charge_mixed
abbrev st_law_multiples_right : Stmt := top 46
def b_law_multiples_right : S := (.cons (.par 7 8 (.call 0 (.cons (.var 0) .nil)) (.bin .add (.int 1) (.call 1 (.cons (.var 0) (.cons (.int 9) .nil)))))
    (.cons (.ife (.not (.call 2 (.cons (.mth (.ometh "times" [("Charge", 4)]) (.var 3) (.cons (.var 7) (.cons (.var 8) .nil))) (.cons (.call 3 (.cons (.var 1) (.cons (.var 2) (.cons (.tup (.cons (.var 7) (.cons (.var 8) .nil))) (.cons (.tup (.cons (.int 0) (.cons (.int 1) .nil))) .nil))))) .nil)))) (.cons (.ret (.bl false))
    .nil) .nil)
    (.cons (.ife (.or (.obin .neO [("Charge", 5)] (.mth (.ometh "times" [("Charge", 6)]) (.var 3) (.cons (.var 7) .nil)) (.mth (.ometh "times" [("Charge", 4)]) (.var 3) (.cons (.bin .mul (.var 7) (.var 8)) (.cons (.var 8) .nil)))) (.obin .neO [("Charge", 5)] (.mth (.ometh "times" [("Charge", 6)]) (.var 3) (.cons (.int 1) .nil)) (.var 3))) (.cons (.ret (.bl false))
    .nil) .nil)
    (.cons (.asg (.name 5) (.call 1 (.cons (.var 0) (.cons (.bin .add (.var 8) (.int 1)) .nil))))
    (.cons (.asg (.name 6) (.mth (.ometh "mixed" [("Charge", 7)]) (.var 3) (.cons (.var 4) (.cons (.var 5) (.cons (.var 8) .nil)))))
    (.cons (.ife (.not (.call 2 (.cons (.var 6) (.cons (.call 3 (.cons (.var 1) (.cons (.var 2) (.cons (.tup (.cons (.var 5) (.cons (.var 8) .nil))) (.cons (.tup (.cons (.bin .sub (.var 8) (.var 5)) (.cons (.var 8) .nil))) .nil))))) .nil)))) (.cons (.ret (.bl false))
    .nil) .nil)
    (.cons (.ife (.obin .neO [("Charge", 5)] (.var 6) (.obin .addO [("Charge", 8)] (.mth (.ometh "times" [("Charge", 4)]) (.var 3) (.cons (.var 5) (.cons (.var 8) .nil))) (.mth (.ometh "times" [("Charge", 4)]) (.var 4) (.cons (.bin .sub (.var 8) (.var 5)) (.cons (.var 8) .nil))))) (.cons (.ret (.bl false))
    .nil) .nil)
    (.cons (.ret (.and (.obin .eqO [("Charge", 5)] (.mth (.ometh "mixed" [("Charge", 7)]) (.var 3) (.cons (.var 4) (.cons (.int 0) (.cons (.var 8) .nil)))) (.var 4)) (.obin .eqO [("Charge", 5)] (.mth (.ometh "mixed" [("Charge", 7)]) (.var 3) (.cons (.var 4) (.cons (.var 8) (.cons (.var 8) .nil)))) (.var 3))))
    .nil))))))))
def F_law_multiples_right : Sem := runB [F_law_number, F_law_stir, F_law_pays, F_law_joint, F_Charge_times, F_Charge___eq, F_Charge_timesD, F_Charge_mixed, F_Charge___add] 9 b_law_multiples_right
abbrev st_law_some_of : Stmt := top 36
def b_law_some_of : S := (.cons (.ret (.blt .tuple (.cons (.lc [("_law_one", 2)] (.name 2) (.var 1) (.cmp .eq (.call 0 (.cons (.var 0) (.cons (.int 2) .nil))) (.int 0)) (.var 2)) .nil)))
    .nil)
def F_law_some_of : Sem := runB [F_law_stir] 3 b_law_some_of
abbrev st_law_alone : Stmt := top 44
def b_law_alone : S := (.cons (.ret (.blt .dict (.cons (.lc [("_law_thing", 1)] (.name 1) (.blt .sorted (.cons (.ix (.var 0) (.int 0)) .nil)) .noP (.tup (.cons (.var 1) (.cons (.call 0 (.cons (.ix (.ix (.var 0) (.int 0)) (.var 1)) (.cons (.ix (.var 0) (.int 1)) .nil))) .nil)))) .nil)))
    .nil)
def F_law_alone : Sem := runB [F_law_low] 2 b_law_alone
abbrev st_require_charge : Stmt := top 30
def b_require_charge : S := (.cons (.ife (.not (.mth (.isO "Charge" ["Pays", "Charge"]) (.var 0) .nil)) (.cons (.rai0 "InvalidCharge")
    .nil) .nil)
    .nil)
def F_require_charge : Sem := runB [] 1 b_require_charge
abbrev st_side_by_side : Stmt := top 25
def b_side_by_side : S := (.cons (.asg (.name 2) (.dc [("thing", 4)] (.name 4) (.mth (.ofld "own_things" ["Charge"]) (.var 0) .nil) (.var 4) (.bin .mul (.ix (.mth (.ofld "own_pays" ["Pays", "Charge"]) (.var 0) .nil) (.var 4)) (.mth (.ofld "own_unit" ["Pays", "Charge"]) (.var 1) .nil))))
    (.cons (.asg (.name 3) (.dc [("thing", 4)] (.name 4) (.mth (.ofld "own_things" ["Charge"]) (.var 1) .nil) (.var 4) (.bin .mul (.ix (.mth (.ofld "own_pays" ["Pays", "Charge"]) (.var 1) .nil) (.var 4)) (.mth (.ofld "own_unit" ["Pays", "Charge"]) (.var 0) .nil))))
    (.cons (.ret (.call 0 (.cons (.dmrg (.var 2) (.var 3)) (.cons (.bin .mul (.mth (.ofld "own_unit" ["Pays", "Charge"]) (.var 0) .nil) (.mth (.ofld "own_unit" ["Pays", "Charge"]) (.var 1) .nil)) .nil))))
    .nil)))
def F_side_by_side : Sem := runB [F_charge_with] 5 b_side_by_side
abbrev st_Charge_put_beside : Stmt := (clsBody (top 22)).getD 10 (.Pass ⟨0, 0, 0, 0⟩)
def b_Charge_put_beside : S := (.cons (.exp (.call 0 (.cons (.var 1) .nil)))
    (.cons (.ife (.blt .any (.cons (.lc [("thing", 2)] (.name 2) (.mth (.ofld "own_things" ["Charge"]) (.var 1) .nil) .noP (.obin .inO [("Charge", 2)] (.var 2) (.var 0))) .nil)) (.cons (.rai0 "InvalidOperation")
    .nil) .nil)
    (.cons (.ife (.cmp .gt (.bin .add (.blt .len (.cons (.mth (.ofld "own_things" ["Charge"]) (.var 0) .nil) .nil)) (.blt .len (.cons (.mth (.ofld "own_things" ["Charge"]) (.var 1) .nil) .nil))) (.gint "MAX_THINGS" 8)) (.cons (.rai "TooMany" "limit" true (.gint "MAX_THINGS" 8))
    .nil) .nil)
    (.cons (.ret (.call 1 (.cons (.var 0) (.cons (.var 1) .nil))))
    .nil))))
def F_Charge_put_beside : Sem := runB [F_require_charge, F_side_by_side, F_Charge___contains] 3 b_Charge_put_beside
abbrev st_cut_to : Stmt := top 26
def b_cut_to : S := (.cons (.ret (.call 0 (.cons (.dc [("thing", 2)] (.name 2) (.var 1) (.var 2) (.ix (.mth (.ofld "own_pays" ["Pays", "Charge"]) (.var 0) .nil) (.var 2))) (.cons (.mth (.ofld "own_unit" ["Pays", "Charge"]) (.var 0) .nil) .nil))))
    .nil)
def F_cut_to : Sem := runB [F_charge_with] 3 b_cut_to
abbrev st_Charge_require_own : Stmt := (clsBody (top 22)).getD 7 (.Pass ⟨0, 0, 0, 0⟩)
def b_Charge_require_own : S := (.cons (.ife (.or (.not (.isi (.var 1) "tuple")) (.not (.blt .all (.cons (.lc [("thing", 2)] (.name 2) (.var 1) .noP (.obin .inO [("Charge", 0)] (.var 2) (.var 0))) .nil)))) (.cons (.rai0 "InvalidGroup")
    .nil) .nil)
    (.cons (.ife (.not (.blt .all (.cons (.lc [("one", 3), ("other", 4)] (.tup (.cons (.name 3) (.cons (.name 4) .nil))) (.iter .zip (.cons (.var 1) (.cons (.sl (.var 1) (.int 1) .noP) .nil))) .noP (.cmp .lt (.var 3) (.var 4))) .nil))) (.cons (.rai0 "InvalidGroup")
    .nil) .nil)
    .nil))
def F_Charge_require_own : Sem := runB [F_Charge___contains] 5 b_Charge_require_own
abbrev st_Charge_cut : Stmt := (clsBody (top 22)).getD 6 (.Pass ⟨0, 0, 0, 0⟩)
def b_Charge_cut : S := (.cons (.exp (.mth (.ometh "require_own" [("Charge", 1)]) (.var 0) (.cons (.var 1) .nil)))
    (.cons (.ife (.cmp .eq (.var 1) (.tup .nil)) (.cons (.rai0 "InvalidOperation")
    .nil) .nil)
    (.cons (.ret (.call 0 (.cons (.var 0) (.cons (.var 1) .nil))))
    .nil)))
def F_Charge_cut : Sem := runB [F_cut_to, F_Charge_require_own] 2 b_Charge_cut
abbrev st_Charge_things : Stmt := (clsBody (top 22)).getD 1 (.Pass ⟨0, 0, 0, 0⟩)
def b_Charge_things : S := (.cons (.ret (.mth (.ofld "own_things" ["Charge"]) (.var 0) .nil))
    .nil)
def F_Charge_things : Sem := runB [] 1 b_Charge_things
abbrev st_law_beside_right : Stmt := top 47
def b_law_beside_right : S := (.cons (.asg (.name 4) (.call 0 (.cons (.var 0) (.cons (.blt .tuple (.cons (.sl (.lc [("_law_thing", 7)] (.name 7) (.var 3) .noP (.bin .add (.str "q") (.sl (.var 7) .noP (.int 7)))) .noP (.bin .sub (.int 8) (.blt .len (.cons (.var 3) .nil)))) .nil)) .nil))))
    (.cons (.asg (.name 5) (.call 1 (.cons (.var 4) .nil)))
    (.cons (.asg (.name 6) (.mth (.ometh "put_beside" [("Charge", 4)]) (.var 2) (.cons (.var 5) .nil)))
    (.cons (.ife (.not (.call 2 (.cons (.var 6) (.cons (.blt .dict (.cons (.bin .add (.mth .litems (.call 3 (.cons (.var 1) .nil)) .nil) (.mth .litems (.call 3 (.cons (.var 4) .nil)) .nil)) .nil)) .nil)))) (.cons (.ret (.bl false))
    .nil) .nil)
    (.cons (.ife (.or (.obin .neO [("Charge", 5)] (.var 6) (.mth (.ometh "put_beside" [("Charge", 4)]) (.var 5) (.cons (.var 2) .nil))) (.cmp .ne (.prm (.lenO [("Charge", 6)]) (.cons (.var 6) .nil)) (.bin .add (.prm (.lenO [("Charge", 6)]) (.cons (.var 2) .nil)) (.prm (.lenO [("Charge", 6)]) (.cons (.var 5) .nil))))) (.cons (.ret (.bl false))
    .nil) .nil)
    (.cons (.ret (.and (.obin .eqO [("Charge", 5)] (.mth (.ometh "cut" [("Charge", 7)]) (.var 6) (.cons (.mth (.oprop "things" [("Charge", 8)]) (.var 2) .nil) .nil)) (.var 2)) (.obin .eqO [("Charge", 5)] (.mth (.ometh "cut" [("Charge", 7)]) (.var 6) (.cons (.mth (.oprop "things" [("Charge", 8)]) (.var 5) .nil) .nil)) (.var 5))))
    .nil))))))
def F_law_beside_right : Sem := runB [F_law_sums, F_law_made_charge, F_law_pays, F_law_alone, F_Charge_put_beside, F_Charge___eq, F_Charge___len, F_Charge_cut, F_Charge_things] 8 b_law_beside_right
abbrev st_law_right : Stmt := top 48
def b_law_right : S := (.cons (.asg (.name 1) (.call 0 (.cons (.var 0) (.cons (.bin .add (.int 1) (.call 1 (.cons (.var 0) (.cons (.int 7) .nil)))) .nil))))
    (.cons (.par 3 4 (.call 2 (.cons (.var 0) (.cons (.var 1) .nil))) (.call 2 (.cons (.var 0) (.cons (.var 1) .nil))))
    (.cons (.par 5 6 (.call 3 (.cons (.var 3) .nil)) (.call 3 (.cons (.var 4) .nil)))
    (.cons (.ife (.or (.not (.call 4 (.cons (.var 3) (.cons (.var 4) (.cons (.var 5) (.cons (.var 6) .nil)))))) (.not (.call 5 (.cons (.var 0) (.cons (.var 3) (.cons (.var 4) (.cons (.var 5) (.cons (.var 6) .nil)))))))) (.cons (.ret (.bl false))
    .nil) .nil)
    (.cons (.asg (.name 2) (.call 6 (.cons (.var 0) (.cons (.var 1) .nil))))
    (.cons (.ife (.and (.cmp .ne (.var 2) (.tup .nil)) (.obin .neO [("Charge", 10)] (.mth (.ometh "cut" [("Charge", 11)]) (.obin .addO [("Charge", 12)] (.var 5) (.var 6)) (.cons (.var 2) .nil)) (.obin .addO [("Charge", 12)] (.mth (.ometh "cut" [("Charge", 11)]) (.var 5) (.cons (.var 2) .nil)) (.mth (.ometh "cut" [("Charge", 11)]) (.var 6) (.cons (.var 2) .nil))))) (.cons (.ret (.bl false))
    .nil) .nil)
    (.cons (.ife (.not (.call 7 (.cons (.var 0) (.cons (.var 3) (.cons (.var 5) (.cons (.var 1) .nil)))))) (.cons (.ret (.bl false))
    .nil) .nil)
    (.cons (.ret (.and (.call 8 (.cons (.var 5) (.cons (.call 9 (.cons (.var 3) .nil)) .nil))) (.call 8 (.cons (.var 6) (.cons (.call 9 (.cons (.var 4) .nil)) .nil)))))
    .nil))))))))
def F_law_right : Sem := runB [F_law_words, F_law_stir, F_law_sums, F_law_made_charge, F_law_sums_right, F_law_multiples_right, F_law_some_of, F_law_beside_right, F_law_pays, F_law_alone, F_Charge___eq, F_Charge_cut, F_Charge___add] 7 b_law_right
abbrev st_law_pot : Stmt := top 32
def b_law_pot : S := (.cons (.asg (.name 2) (.ite (.cmp .lt (.var 1) (.blt .len (.cons (.var 0) .nil))) (.ix (.var 0) (.var 1)) (.bin .add (.bin .mul (.int 97) (.var 1)) (.int 59))))
    (.cons (.asg (.name 3) (.bin .mod (.blt .int (.cons (.blt .abs (.cons (.var 2) .nil)) .nil)) (.bin .pow (.bin .pow (.int 10) (.int 59)) (.int 9))))
    (.cons (.asg (.name 4) (.bin .add (.bin .add (.bin .add (.bin .mul (.bin .mod (.blt .int (.cons (.var 3) .nil)) (.int 2305843009213693921)) (.int 1000187)) (.bin .mul (.int 7013) (.var 1))) (.bin .mul (.int 29) (.blt .int (.cons (.cmp .lt (.var 2) (.int 0)) .nil)))) (.int 17)))
    (.cons (.ret (.lstM (.cons (.blt .max (.cons (.int 0) (.cons (.bin .sub (.var 3) (.bin .pow (.int 10) (.int 18))) .nil))) (.cons (.bin .mod (.blt .int (.cons (.var 4) .nil)) (.int 2305843009213693951)) (.cons (.int 0) .nil)))))
    .nil))))
def F_law_pot : Sem := runB [] 5 b_law_pot
abbrev st_text_of : Stmt := top 16
def b_text_of : S := (.cons (.asg (.tup (.cons (.name 1) (.cons (.name 2) .nil))) (.var 0))
    (.cons (.ret (.ite (.cmp .eq (.var 2) (.int 1)) (.blt .str (.cons (.var 1) .nil)) (.fstr (.cons (.fmt (.var 1)) (.cons (.str "/") (.cons (.fmt (.var 2)) .nil))))))
    .nil))
def F_text_of : Sem := runB [] 3 b_text_of
abbrev st_Charge___str : Stmt := (clsBody (top 22)).getD 18 (.Pass ⟨0, 0, 0, 0⟩)
def b_Charge___str : S := (.cons (.ret (.join (.str ", ") (.lc [("one", 1)] (.name 1) (.mth (.ofld "own_things" ["Charge"]) (.var 0) .nil) .noP (.fstr (.cons (.fmt (.var 1)) (.cons (.str " ") (.cons (.fmt (.call 0 (.cons (.obin .ixO [("Charge", 1)] (.var 0) (.var 1)) .nil))) .nil)))))))
    .nil)
def F_Charge___str : Sem := runB [F_text_of, F_Charge___getitem] 2 b_Charge___str
abbrev st_law : Stmt := top 49
def b_law : S := (.cons (.fr (.name 1) (.rng1 (.blt .max (.cons (.int 1) (.cons (.blt .min (.cons (.int 10) (.cons (.blt .len (.cons (.var 0) .nil)) .nil))) .nil)))) (.cons (.ife (.not (.call 0 (.cons (.call 1 (.cons (.var 0) (.cons (.var 1) .nil))) .nil))) (.cons (.ret (.bl false))
    .nil) .nil)
    .nil))
    (.cons (.par 4 5 (.onewK "Charge" 8 (.cons (.dcte (.cons (.str "a") (.cons (.int 1) (.cons (.str "b") (.cons (.int 2) .nil))))) .nil) (.int 3)) (.onewK "Charge" 8 (.cons (.dcte (.cons (.str "a") (.cons (.int 1) (.cons (.str "b") (.cons (.neg (.int 1)) .nil))))) .nil) (.int 2)))
    (.cons (.asg (.name 2) (.lst (.cons (.prm (.strx [("Charge", 2)]) (.cons (.obin .addO [("Charge", 6)] (.var 4) (.var 5)) .nil)) (.cons (.prm (.strx [("Charge", 2)]) (.cons (.obin .subO [("Charge", 3)] (.var 4) (.var 5)) .nil)) (.cons (.prm (.strx [("Charge", 2)]) (.cons (.mth (.ometh "times" [("Charge", 5)]) (.var 4) (.cons (.neg (.int 3)) (.cons (.int 2) .nil))) .nil)) (.cons (.prm (.strx [("Charge", 2)]) (.cons (.mth (.ometh "mixed" [("Charge", 4)]) (.var 4) (.cons (.var 5) (.cons (.int 1) (.cons (.int 4) .nil)))) .nil)) (.cons (.prm (.strx [("Charge", 2)]) (.cons (.obin .subO [("Charge", 3)] (.var 4) (.var 4)) .nil)) .nil)))))))
    (.cons (.asg (.name 3) (.lst (.cons (.str "a 5/6, b 1/6") (.cons (.str "a -1/6, b 7/6") (.cons (.str "a -1/2, b -1") (.cons (.str "a 11/24, b -5/24") (.cons (.str "a 0, b 0") .nil)))))))
    (.cons (.ret (.and (.cmp .eq (.var 2) (.var 3)) (.cmp .eq (.prm (.strx [("Charge", 2)]) (.cons (.mth (.ometh "put_beside" [("Charge", 7)]) (.var 4) (.cons (.prm (.onewD "Charge" 8 1) (.cons (.dcte (.cons (.str "ab") (.cons (.int 5) .nil))) .nil)) .nil)) .nil)) (.str "a 1/3, ab 5, b 2/3"))))
    .nil)))))
def F_law : Sem := runB [F_law_right, F_law_pot, F_Charge___str, F_Charge___sub, F_Charge_mixed, F_Charge_times, F_Charge___add, F_Charge_put_beside, F_Charge___init] 6 b_law
def fn : List He.DefD := [dOf "_law_stir" st_law_stir, dOf "_law_shuffled" st_law_shuffled, dOf "_law_words" st_law_words, dOf "_law_one_of" st_law_one_of, dOf "_law_number" st_law_number, dOf "_law_sums" st_law_sums, dOf "is_name" st_is_name, dOf "is_integer" st_is_integer, dOf "are_pays" st_are_pays, dOf "greatest_common" st_greatest_common, mOf "Pays" "__init__" "Pays.__init__" st_Pays___init, dOf "checked_pays" st_checked_pays, kOf "Charge" "Charge.__init__" "unit" 1 st_Charge___init, dOf "_law_made_charge" st_law_made_charge, mOf "Charge" "__iter__" "Charge.__iter__" st_Charge___iter, mOf "Charge" "__len__" "Charge.__len__" st_Charge___len, dOf "divisor_of" st_divisor_of, dOf "lowest_of" st_lowest_of, mOf "Charge" "__contains__" "Charge.__contains__" st_Charge___contains, mOf "Charge" "__getitem__" "Charge.__getitem__" st_Charge___getitem, dOf "_law_pays" st_law_pays, dOf "_law_low" st_law_low, dOf "_law_joint" st_law_joint, dOf "require_like" st_require_like, dOf "charge_with" st_charge_with, dOf "joint_charge" st_joint_charge, mOf "Charge" "__add__" "Charge.__add__" st_Charge___add, mOf "Charge" "__sub__" "Charge.__sub__" st_Charge___sub, mOf "Charge" "__eq__" "Charge.__eq__" st_Charge___eq, dOf "require_share" st_require_share, mOfD "Charge" "times" "Charge.times" 1 st_Charge_times, dOf "_law_sums_right" st_law_sums_right, mOf "Charge" "mixed" "Charge.mixed" st_Charge_mixed, dOf "_law_multiples_right" st_law_multiples_right, dOf "_law_some_of" st_law_some_of, dOf "_law_alone" st_law_alone, dOf "require_charge" st_require_charge, dOf "side_by_side" st_side_by_side, mOf "Charge" "put_beside" "Charge.put_beside" st_Charge_put_beside, dOf "cut_to" st_cut_to, mOf "Charge" "require_own" "Charge.require_own" st_Charge_require_own, mOf "Charge" "cut" "Charge.cut" st_Charge_cut, dOf "_law_beside_right" st_law_beside_right, dOf "_law_right" st_law_right, dOf "_law_pot" st_law_pot, dOf "text_of" st_text_of, mOf "Charge" "__str__" "Charge.__str__" st_Charge___str, dOf "law" st_law]
def pf : List PfD := [pOf "Charge" "total" "Charge.total" st_Charge_total, pOf "Charge" "things" "Charge.things" st_Charge_things]
def ocl : List (Str × List Str) := [("Pays", ["own_pays", "own_unit"]), ("Charge", ["own_pays", "own_unit", "own_things"])]
def gl0 : List Str := ["_law_stir", "_law_shuffled", "_law_words", "_law_one_of", "_law_number", "_law_sums", "is_name", "is_integer", "are_pays", "greatest_common", "checked_pays", "_law_made_charge"]
def gl1 : List Str := ["divisor_of", "lowest_of", "_law_pays", "_law_low", "_law_joint", "require_like", "charge_with", "joint_charge", "require_share", "_law_sums_right", "_law_multiples_right", "_law_some_of"]
def gl2 : List Str := ["_law_alone", "require_charge", "side_by_side", "cut_to", "_law_beside_right", "_law_right", "_law_pot", "text_of", "law", "Charge", "InvalidCharge", "InvalidGroup"]
def gl3 : List Str := ["InvalidNumber", "InvalidOperation", "Pays", "TooMany", "UnknownName"]
def gl : List Str := gl0 ++ gl1 ++ gl2 ++ gl3
def fr : List Str := ["abs", "max", "min", "sum", "int", "str", "len", "all", "any", "tuple", "list", "repr", "isinstance", "bool", "dict", "range", "zip", "enumerate", "sorted", "set", "reversed", "iter", "next", "super"]
def gints : List (Str × Int) := [("MAX_NAME", 8), ("GREATEST", 999999999999999999999999999999999999999999999999999999999999), ("MAX_THINGS", 8)]
def xcs : List (Str × Str × Bool) := [("InvalidNumber", "value", false), ("UnknownName", "name", false), ("TooMany", "limit", true)]
def xsub : List (Str × Str × Bool) := []
def xis : List (Str × Str × Bool) := []
def tb : Tb := { gints := gints, xcs := xcs, xsub := xsub, xc0 := ["InvalidCharge", "InvalidGroup", "InvalidOperation"], xis := xis, ocl := ocl }
abbrev it_InvalidNumber : Stmt := (clsBody (top 5)).getD 0 (.Pass ⟨0, 0, 0, 0⟩)
def x_InvalidNumber : XD := ⟨"InvalidNumber", "value", "value", false, "InvalidNumber.__init__", defArgs it_InvalidNumber, defBody it_InvalidNumber, defScope it_InvalidNumber, "IndexError", "IndexError.__new__", "IndexError.__init__", [.type "IndexError", .type "LookupError", .type "Exception", .type "BaseException", .type "object"]⟩
theorem t_InvalidNumber (w : World) : x_InvalidNumber.Txt PySem.Challenge.pw_huebill_k09_whole_sums_and_shares_of_cha w where
  bs := xb_IndexError
  vn := by decide +kernel
  dbg := by decide +kernel
  top := by decide +kernel
  txt := ⟨fun i => ([⟨13, 8, 13, 13⟩, ⟨13, 8, 13, 15⟩, ⟨13, 8, 13, 24⟩, ⟨13, 8, 13, 57⟩, ⟨13, 8, 13, 57⟩, ⟨14, 8, 14, 12⟩, ⟨14, 8, 14, 18⟩, ⟨14, 21, 14, 26⟩, ⟨14, 8, 14, 26⟩] : List Pos).getD i ⟨0, 0, 0, 0⟩, ⟨12, 17, 12, 21⟩, ⟨12, 23, 12, 28⟩, .Constant (.str "the number is not as expected") 0 ⟨13, 25, 13, 56⟩, rfl, rfl, PySem.HBX.msgOk_str, rfl⟩
  nms := by decide +kernel
  knd := ⟨rfl, rfl, rfl⟩
  bnd := fun _ _ _ _ _ _ _ _ _ _ => .of_eq rfl
abbrev it_UnknownName : Stmt := (clsBody (top 6)).getD 0 (.Pass ⟨0, 0, 0, 0⟩)
def x_UnknownName : XD := ⟨"UnknownName", "name", "name", false, "UnknownName.__init__", defArgs it_UnknownName, defBody it_UnknownName, defScope it_UnknownName, "KeyError", "LookupError.__new__", "KeyError.__init__", [.type "KeyError", .type "LookupError", .type "Exception", .type "BaseException", .type "object"]⟩
theorem t_UnknownName (w : World) : x_UnknownName.Txt PySem.Challenge.pw_huebill_k09_whole_sums_and_shares_of_cha w where
  bs := xb_KeyError
  vn := by decide +kernel
  dbg := by decide +kernel
  top := by decide +kernel
  txt := ⟨fun i => ([⟨21, 8, 21, 13⟩, ⟨21, 8, 21, 15⟩, ⟨21, 8, 21, 24⟩, ⟨21, 8, 21, 48⟩, ⟨21, 8, 21, 48⟩, ⟨22, 8, 22, 12⟩, ⟨22, 8, 22, 17⟩, ⟨22, 20, 22, 24⟩, ⟨22, 8, 22, 24⟩] : List Pos).getD i ⟨0, 0, 0, 0⟩, ⟨20, 17, 20, 21⟩, ⟨20, 23, 20, 27⟩, .Constant (.str "nothing has the name") 0 ⟨21, 25, 21, 47⟩, rfl, rfl, PySem.HBX.msgOk_str, rfl⟩
  nms := by decide +kernel
  knd := ⟨rfl, rfl, rfl⟩
  bnd := fun _ _ _ _ _ _ _ _ _ _ => .of_eq rfl
abbrev it_TooMany : Stmt := (clsBody (top 7)).getD 0 (.Pass ⟨0, 0, 0, 0⟩)
def x_TooMany : XD := ⟨"TooMany", "limit", "limit", true, "TooMany.__init__", defArgs it_TooMany, defBody it_TooMany, defScope it_TooMany, "OverflowError", "OverflowError.__new__", "OverflowError.__init__", [.type "OverflowError", .type "ArithmeticError", .type "Exception", .type "BaseException", .type "object"]⟩
theorem t_TooMany (w : World) : x_TooMany.Txt PySem.Challenge.pw_huebill_k09_whole_sums_and_shares_of_cha w where
  bs := xb_OverflowError
  vn := by decide +kernel
  dbg := by decide +kernel
  top := by decide +kernel
  txt := ⟨fun i => ([⟨29, 8, 29, 13⟩, ⟨29, 8, 29, 15⟩, ⟨29, 8, 29, 24⟩, ⟨29, 8, 29, 52⟩, ⟨29, 8, 29, 52⟩, ⟨30, 8, 30, 12⟩, ⟨30, 8, 30, 18⟩, ⟨30, 21, 30, 26⟩, ⟨30, 8, 30, 26⟩] : List Pos).getD i ⟨0, 0, 0, 0⟩, ⟨28, 17, 28, 21⟩, ⟨28, 23, 28, 28⟩, msgOf (defBody it_TooMany), rfl, rfl, PySem.HBX.msgOk_f (by decide) (by decide), rfl⟩
  nms := by decide +kernel
  knd := ⟨rfl, rfl, rfl⟩
  bnd := fun _ _ _ _ _ _ _ _ _ _ => .of_eq rfl
def xs : List XD := [x_InvalidNumber, x_UnknownName, x_TooMany]
def names0 : List PySem.Str := ["BillError", "InvalidGroup", "InvalidCharge", "InvalidOperation", "InvalidNumber", "UnknownName", "TooMany", "MAX_NAME", "MAX_THINGS", "GREATEST", "is_integer", "is_name", "divisor_of", "lowest_of", "text_of", "are_pays", "greatest_common", "Pays", "checked_pays", "Charge", "charge_with", "joint_charge", "side_by_side", "cut_to", "sum_of", "require_share", "require_like", "require_charge", "_law_pot", "_law_stir"]
def names1 : List PySem.Str := ["_law_one_of", "_law_shuffled", "_law_some_of", "_law_words", "_law_number", "_law_sums", "_law_made_charge", "_law_low", "_law_pays", "_law_joint", "_law_alone", "_law_sums_right", "_law_multiples_right", "_law_beside_right", "_law_right"]
def names : List PySem.Str := names0 ++ names1
abbrev R : PySem.W.OpenRow := PySem.W.OpenLaw.row PySem.Challenge.rw_huebill_k09_whole_sums_and_shares_of_cha
def hd : Hd := { gl := gl, fr := fr, tb := tb, xk := [], ms := [("Charge", "__iter__"), ("Charge", "__len__"), ("Charge", "__contains__"), ("Charge", "__getitem__"), ("Charge", "__add__"), ("Charge", "__sub__"), ("Charge", "__eq__"), ("Charge", "times"), ("Charge", "mixed"), ("Charge", "put_beside"), ("Charge", "require_own"), ("Charge", "cut"), ("Charge", "__str__")], fn := fn, xs := xs, pf := pf, mks := ["Pays", "Charge"] }
abbrev hk : PySem.W.Hook := hookX PySem.Challenge.pw_huebill_k09_whole_sums_and_shares_of_cha.main.file 6 hd
def ob (s : PySem.W.SharedT) : AlX := obsXG PySem.Challenge.pw_huebill_k09_whole_sums_and_shares_of_cha.main.file 6 hd (HandSHeadRun.getT s)
theorem ob_eq (s : PySem.W.SharedT) : ob s = hk.obs s.abs := obsXG_eq (HandSHeadRun.getT_eq s)
theorem run (w : World) : HandSHeadRun.RunEq R (PySem.W.view R.prog [49]) hk ob 4000 names w := by
  intro os
  kernel_rfl
abbrev AlH (w : World) (K : PySem.W.Frag) (mg : Str → Option Value) (h base : Heap) : Prop := Al PySem.Challenge.pw_huebill_k09_whole_sums_and_shares_of_cha w hd K mg h base
theorem good : hd.good = true := by decide +kernel
section
variable {w : World} {K : PySem.W.Frag} {mg : Str → Option Value} {h base : Heap}
theorem sc_law_stir : FnScope ["_law_pot_here", "_law_total", "_law_one", "_law_two", "_law_found"] ["_law_pot_here", "_law_total"] (defScope st_law_stir) := ⟨rfl, rfl, rfl, by decide +kernel, rfl, by decide +kernel, by decide +kernel⟩
theorem k_law_stir : chkB ⟨["_law_pot_here", "_law_total", "_law_one", "_law_two", "_law_found"], defScope st_law_stir, none, [], [], [], [], tb⟩ b_law_stir (defBody st_law_stir) = true := by decide +kernel
theorem bd_law_stir : Bnd "_law_stir" "_law_stir" st_law_stir ["_law_pot_here", "_law_total"] := fun _ _ _ _ _ _ us hl => match us, hl with | [_, _], _ => rfl
theorem c_law_stir (A : AlH w K mg h base) : Callee PySem.Challenge.pw_huebill_k09_whole_sums_and_shares_of_cha w K mg base 1 "_law_stir" 2 F_law_stir := callee_D A 0 rfl (by decide +kernel) sc_law_stir bd_law_stir (show Cals PySem.Challenge.pw_huebill_k09_whole_sums_and_shares_of_cha w K mg base 0 [] [] [] [] _ from trivial) k_law_stir
theorem sc_law_shuffled : FnScope ["_law_pot_here", "_law_items", "_law_waits", "_law_turn"] ["_law_pot_here", "_law_items"] (defScope st_law_shuffled) := ⟨rfl, rfl, rfl, by decide +kernel, rfl, by decide +kernel, by decide +kernel⟩
theorem k_law_shuffled : chkB ⟨["_law_pot_here", "_law_items", "_law_waits", "_law_turn"], defScope st_law_shuffled, none, [("_law_stir", 2)], [], [], [], tb⟩ b_law_shuffled (defBody st_law_shuffled) = true := by decide +kernel
theorem bd_law_shuffled : Bnd "_law_shuffled" "_law_shuffled" st_law_shuffled ["_law_pot_here", "_law_items"] := fun _ _ _ _ _ _ us hl => match us, hl with | [_, _], _ => rfl
theorem c_law_shuffled (A : AlH w K mg h base) : Callee PySem.Challenge.pw_huebill_k09_whole_sums_and_shares_of_cha w K mg base 2 "_law_shuffled" 2 F_law_shuffled := callee_D A 1 rfl (by decide +kernel) sc_law_shuffled bd_law_shuffled (show Cals PySem.Challenge.pw_huebill_k09_whole_sums_and_shares_of_cha w K mg base 1 [("_law_stir", 2)] [] [] [] _ from ⟨⟨1, by decide, c_law_stir A⟩, trivial⟩) k_law_shuffled
theorem sc_law_words : FnScope ["_law_pot_here", "_law_size", "_law_some"] ["_law_pot_here", "_law_size"] (defScope st_law_words) := ⟨rfl, rfl, rfl, by decide +kernel, rfl, by decide +kernel, by decide +kernel⟩
theorem k_law_words : chkB ⟨["_law_pot_here", "_law_size", "_law_some"], defScope st_law_words, none, [("_law_shuffled", 2)], [], [], [], tb⟩ b_law_words (defBody st_law_words) = true := by decide +kernel
theorem bd_law_words : Bnd "_law_words" "_law_words" st_law_words ["_law_pot_here", "_law_size"] := fun _ _ _ _ _ _ us hl => match us, hl with | [_, _], _ => rfl
theorem c_law_words (A : AlH w K mg h base) : Callee PySem.Challenge.pw_huebill_k09_whole_sums_and_shares_of_cha w K mg base 3 "_law_words" 2 F_law_words := callee_D A 2 rfl (by decide +kernel) sc_law_words bd_law_words (show Cals PySem.Challenge.pw_huebill_k09_whole_sums_and_shares_of_cha w K mg base 2 [("_law_shuffled", 2)] [] [] [] _ from ⟨⟨2, by decide, c_law_shuffled A⟩, trivial⟩) k_law_words
theorem sc_law_one_of : FnScope ["_law_pot_here", "_law_items"] ["_law_pot_here", "_law_items"] (defScope st_law_one_of) := ⟨rfl, rfl, rfl, by decide +kernel, rfl, by decide +kernel, by decide +kernel⟩
theorem k_law_one_of : chkB ⟨["_law_pot_here", "_law_items"], defScope st_law_one_of, none, [("_law_stir", 2)], [], [], [], tb⟩ b_law_one_of (defBody st_law_one_of) = true := by decide +kernel
theorem bd_law_one_of : Bnd "_law_one_of" "_law_one_of" st_law_one_of ["_law_pot_here", "_law_items"] := fun _ _ _ _ _ _ us hl => match us, hl with | [_, _], _ => rfl
theorem c_law_one_of (A : AlH w K mg h base) : Callee PySem.Challenge.pw_huebill_k09_whole_sums_and_shares_of_cha w K mg base 2 "_law_one_of" 2 F_law_one_of := callee_D A 3 rfl (by decide +kernel) sc_law_one_of bd_law_one_of (show Cals PySem.Challenge.pw_huebill_k09_whole_sums_and_shares_of_cha w K mg base 1 [("_law_stir", 2)] [] [] [] _ from ⟨⟨1, by decide, c_law_stir A⟩, trivial⟩) k_law_one_of
theorem sc_law_number : FnScope ["_law_pot_here", "_law_way", "_law_great"] ["_law_pot_here"] (defScope st_law_number) := ⟨rfl, rfl, rfl, by decide +kernel, rfl, by decide +kernel, by decide +kernel⟩
theorem k_law_number : chkB ⟨["_law_pot_here", "_law_way", "_law_great"], defScope st_law_number, none, [("_law_stir", 2)], [], [], [], tb⟩ b_law_number (defBody st_law_number) = true := by decide +kernel
theorem bd_law_number : Bnd "_law_number" "_law_number" st_law_number ["_law_pot_here"] := fun _ _ _ _ _ _ us hl => match us, hl with | [_], _ => rfl
theorem c_law_number (A : AlH w K mg h base) : Callee PySem.Challenge.pw_huebill_k09_whole_sums_and_shares_of_cha w K mg base 2 "_law_number" 1 F_law_number := callee_D A 4 rfl (by decide +kernel) sc_law_number bd_law_number (show Cals PySem.Challenge.pw_huebill_k09_whole_sums_and_shares_of_cha w K mg base 1 [("_law_stir", 2)] [] [] [] _ from ⟨⟨1, by decide, c_law_stir A⟩, trivial⟩) k_law_number
theorem sc_law_sums : FnScope ["_law_pot_here", "_law_things", "_law_way", "_law_one"] ["_law_pot_here", "_law_things"] (defScope st_law_sums) := ⟨rfl, rfl, rfl, by decide +kernel, rfl, by decide +kernel, by decide +kernel⟩
theorem k_law_sums : chkB ⟨["_law_pot_here", "_law_things", "_law_way", "_law_one"], defScope st_law_sums, none, [("_law_stir", 2), ("_law_one_of", 2), ("_law_number", 1)], [], [], [], tb⟩ b_law_sums (defBody st_law_sums) = true := by decide +kernel
theorem bd_law_sums : Bnd "_law_sums" "_law_sums" st_law_sums ["_law_pot_here", "_law_things"] := fun _ _ _ _ _ _ us hl => match us, hl with | [_, _], _ => rfl
theorem c_law_sums (A : AlH w K mg h base) : Callee PySem.Challenge.pw_huebill_k09_whole_sums_and_shares_of_cha w K mg base 3 "_law_sums" 2 F_law_sums := callee_D A 5 rfl (by decide +kernel) sc_law_sums bd_law_sums (show Cals PySem.Challenge.pw_huebill_k09_whole_sums_and_shares_of_cha w K mg base 2 [("_law_stir", 2), ("_law_one_of", 2), ("_law_number", 1)] [] [] [] _ from ⟨⟨1, by decide, c_law_stir A⟩, ⟨⟨2, by decide, c_law_one_of A⟩, ⟨⟨2, by decide, c_law_number A⟩, trivial⟩⟩⟩) k_law_sums
theorem sc_is_name : FnScope ["value", "sign"] ["value"] (defScope st_is_name) := ⟨rfl, rfl, rfl, by decide +kernel, rfl, by decide +kernel, by decide +kernel⟩
theorem k_is_name : chkB ⟨["value", "sign"], defScope st_is_name, none, [], [], [], [], tb⟩ b_is_name (defBody st_is_name) = true := by decide +kernel
theorem bd_is_name : Bnd "is_name" "is_name" st_is_name ["value"] := fun _ _ _ _ _ _ us hl => match us, hl with | [_], _ => rfl
theorem c_is_name (A : AlH w K mg h base) : Callee PySem.Challenge.pw_huebill_k09_whole_sums_and_shares_of_cha w K mg base 1 "is_name" 1 F_is_name := callee_D A 6 rfl (by decide +kernel) sc_is_name bd_is_name (show Cals PySem.Challenge.pw_huebill_k09_whole_sums_and_shares_of_cha w K mg base 0 [] [] [] [] _ from trivial) k_is_name
theorem sc_is_integer : FnScope ["value"] ["value"] (defScope st_is_integer) := ⟨rfl, rfl, rfl, by decide +kernel, rfl, by decide +kernel, by decide +kernel⟩
theorem k_is_integer : chkB ⟨["value"], defScope st_is_integer, none, [], [], [], [], tb⟩ b_is_integer (defBody st_is_integer) = true := by decide +kernel
theorem bd_is_integer : Bnd "is_integer" "is_integer" st_is_integer ["value"] := fun _ _ _ _ _ _ us hl => match us, hl with | [_], _ => rfl
theorem c_is_integer (A : AlH w K mg h base) : Callee PySem.Challenge.pw_huebill_k09_whole_sums_and_shares_of_cha w K mg base 1 "is_integer" 1 F_is_integer := callee_D A 7 rfl (by decide +kernel) sc_is_integer bd_is_integer (show Cals PySem.Challenge.pw_huebill_k09_whole_sums_and_shares_of_cha w K mg base 0 [] [] [] [] _ from trivial) k_is_integer
theorem sc_are_pays : FnScope ["value", "thing"] ["value"] (defScope st_are_pays) := ⟨rfl, rfl, rfl, by decide +kernel, rfl, by decide +kernel, by decide +kernel⟩
theorem k_are_pays : chkB ⟨["value", "thing"], defScope st_are_pays, none, [("is_name", 1), ("is_integer", 1)], [], [], [], tb⟩ b_are_pays (defBody st_are_pays) = true := by decide +kernel
theorem bd_are_pays : Bnd "are_pays" "are_pays" st_are_pays ["value"] := fun _ _ _ _ _ _ us hl => match us, hl with | [_], _ => rfl
theorem c_are_pays (A : AlH w K mg h base) : Callee PySem.Challenge.pw_huebill_k09_whole_sums_and_shares_of_cha w K mg base 2 "are_pays" 1 F_are_pays := callee_D A 8 rfl (by decide +kernel) sc_are_pays bd_are_pays (show Cals PySem.Challenge.pw_huebill_k09_whole_sums_and_shares_of_cha w K mg base 1 [("is_name", 1), ("is_integer", 1)] [] [] [] _ from ⟨⟨1, by decide, c_is_name A⟩, ⟨⟨1, by decide, c_is_integer A⟩, trivial⟩⟩) k_are_pays
theorem sc_greatest_common : FnScope ["one", "other"] ["one", "other"] (defScope st_greatest_common) := ⟨rfl, rfl, rfl, by decide +kernel, rfl, by decide +kernel, by decide +kernel⟩
theorem k_greatest_common : chkB ⟨["one", "other"], defScope st_greatest_common, none, [], [], [], [], tb⟩ b_greatest_common (defBody st_greatest_common) = true := by decide +kernel
theorem bd_greatest_common : Bnd "greatest_common" "greatest_common" st_greatest_common ["one", "other"] := fun _ _ _ _ _ _ us hl => match us, hl with | [_, _], _ => rfl
theorem c_greatest_common (A : AlH w K mg h base) : Callee PySem.Challenge.pw_huebill_k09_whole_sums_and_shares_of_cha w K mg base 1 "greatest_common" 2 F_greatest_common := callee_D A 9 rfl (by decide +kernel) sc_greatest_common bd_greatest_common (show Cals PySem.Challenge.pw_huebill_k09_whole_sums_and_shares_of_cha w K mg base 0 [] [] [] [] _ from trivial) k_greatest_common
theorem sc_Pays___init : FnScope ["self", "pays", "unit", "common", "number", "thing"] ["self", "pays", "unit"] (defScope st_Pays___init) := ⟨rfl, rfl, rfl, by decide +kernel, rfl, by decide +kernel, by decide +kernel⟩
theorem k_Pays___init : chkB ⟨["self", "pays", "unit", "common", "number", "thing"], defScope st_Pays___init, none, [("greatest_common", 2)], [], [], [], tb⟩ b_Pays___init (defBody st_Pays___init) = true := by decide +kernel
theorem bd_Pays___init : Bnd "__init__" "Pays.__init__" st_Pays___init ["self", "pays", "unit"] := fun _ _ _ _ _ _ us hl => match us, hl with | [_, _, _], _ => rfl
theorem c_Pays___init (A : AlH w K mg h base) : Mkr PySem.Challenge.pw_huebill_k09_whole_sums_and_shares_of_cha w K mg base 4 "Pays" 2 none F_Pays___init := mkr_D A 10 rfl (by decide +kernel) sc_Pays___init bd_Pays___init rfl (show Cals PySem.Challenge.pw_huebill_k09_whole_sums_and_shares_of_cha w K mg base 1 [("greatest_common", 2)] [] [] [] _ from ⟨⟨1, by decide, c_greatest_common A⟩, trivial⟩) k_Pays___init
theorem sc_checked_pays : FnScope ["pays", "unit"] ["pays", "unit"] (defScope st_checked_pays) := ⟨rfl, rfl, rfl, by decide +kernel, rfl, by decide +kernel, by decide +kernel⟩
theorem k_checked_pays : chkB ⟨["pays", "unit"], defScope st_checked_pays, none, [("are_pays", 1), ("is_integer", 1)], [], [], [("Pays", 2, none)], tb⟩ b_checked_pays (defBody st_checked_pays) = true := by decide +kernel
theorem bd_checked_pays : Bnd "checked_pays" "checked_pays" st_checked_pays ["pays", "unit"] := fun _ _ _ _ _ _ us hl => match us, hl with | [_, _], _ => rfl
theorem c_checked_pays (A : AlH w K mg h base) : Callee PySem.Challenge.pw_huebill_k09_whole_sums_and_shares_of_cha w K mg base 5 "checked_pays" 2 F_checked_pays := callee_D A 11 rfl (by decide +kernel) sc_checked_pays bd_checked_pays (show Cals PySem.Challenge.pw_huebill_k09_whole_sums_and_shares_of_cha w K mg base 4 [("are_pays", 1), ("is_integer", 1)] [] [] [("Pays", 2, none)] _ from ⟨⟨2, by decide, c_are_pays A⟩, ⟨⟨1, by decide, c_is_integer A⟩, ⟨⟨4, by decide, c_Pays___init A⟩, trivial⟩⟩⟩) k_checked_pays
theorem sc_Charge___init : FnScope ["self", "pays", "unit", "told"] ["self", "pays", "unit"] (defScope st_Charge___init) := ⟨rfl, rfl, rfl, by decide +kernel, rfl, by decide +kernel, by decide +kernel⟩
theorem k_Charge___init : chkB ⟨["self", "pays", "unit", "told"], defScope st_Charge___init, none, [("checked_pays", 2)], [], [], [], tb⟩ b_Charge___init (defBody st_Charge___init) = true := by decide +kernel
theorem bk_Charge___init : BndK "Charge.__init__" st_Charge___init ["self", "pays", "unit"] "unit" 2 := fun _ _ _ _ _ _ us mv ws h1 h2 h3 => match us, mv, ws, h1, h2, h3 with | [_, _], [], [_], _, _, _ => rfl
theorem be_Charge___init : BndE "Charge.__init__" st_Charge___init ["self", "pays", "unit"] "unit" 2 := fun _ _ _ _ _ _ us mv ws h1 h2 h3 => match us, mv, ws, h1, h2, h3 with | [_, _], [_], [], _, _, _ => ⟨_, _, _, _, _, _, rfl, rfl, rfl⟩
theorem c_Charge___init (A : AlH w K mg h base) : Mkr PySem.Challenge.pw_huebill_k09_whole_sums_and_shares_of_cha w K mg base 8 "Charge" 1 (some ("unit", 1)) F_Charge___init := mkrK_D A 12 rfl (by decide +kernel) sc_Charge___init bk_Charge___init be_Charge___init rfl (show Cals PySem.Challenge.pw_huebill_k09_whole_sums_and_shares_of_cha w K mg base 5 [("checked_pays", 2)] [] [] [] _ from ⟨⟨5, by decide, c_checked_pays A⟩, trivial⟩) k_Charge___init
theorem sc_law_made_charge : FnScope ["_law_some"] ["_law_some"] (defScope st_law_made_charge) := ⟨rfl, rfl, rfl, by decide +kernel, rfl, by decide +kernel, by decide +kernel⟩
theorem k_law_made_charge : chkB ⟨["_law_some"], defScope st_law_made_charge, none, [], [], [], [("Charge", 1, some ("unit", 1))], tb⟩ b_law_made_charge (defBody st_law_made_charge) = true := by decide +kernel
theorem bd_law_made_charge : Bnd "_law_made_charge" "_law_made_charge" st_law_made_charge ["_law_some"] := fun _ _ _ _ _ _ us hl => match us, hl with | [_], _ => rfl
theorem c_law_made_charge (A : AlH w K mg h base) : Callee PySem.Challenge.pw_huebill_k09_whole_sums_and_shares_of_cha w K mg base 9 "_law_made_charge" 1 F_law_made_charge := callee_D A 13 rfl (by decide +kernel) sc_law_made_charge bd_law_made_charge (show Cals PySem.Challenge.pw_huebill_k09_whole_sums_and_shares_of_cha w K mg base 8 [] [] [] [("Charge", 1, some ("unit", 1))] _ from ⟨⟨8, by decide, c_Charge___init A⟩, trivial⟩) k_law_made_charge
theorem sc_Charge___iter : FnScope ["self"] ["self"] (defScope st_Charge___iter) := ⟨rfl, rfl, rfl, by decide +kernel, rfl, by decide +kernel, by decide +kernel⟩
theorem k_Charge___iter : chkB ⟨["self"], defScope st_Charge___iter, none, [], [], [], [], tb⟩ b_Charge___iter (defBody st_Charge___iter) = true := by decide +kernel
theorem bd_Charge___iter : Bnd "__iter__" "Charge.__iter__" st_Charge___iter ["self"] := fun _ _ _ _ _ _ us hl => match us, hl with | [_], _ => rfl
theorem c_Charge___iter (A : AlH w K mg h base) : Mth PySem.Challenge.pw_huebill_k09_whole_sums_and_shares_of_cha w K mg base 3 "Charge" "__iter__" 1 F_Charge___iter := mth_D A 14 rfl (by decide +kernel) sc_Charge___iter bd_Charge___iter (show Cals PySem.Challenge.pw_huebill_k09_whole_sums_and_shares_of_cha w K mg base 0 [] [] [] [] _ from trivial) k_Charge___iter
theorem sc_Charge___len : FnScope ["self"] ["self"] (defScope st_Charge___len) := ⟨rfl, rfl, rfl, by decide +kernel, rfl, by decide +kernel, by decide +kernel⟩
theorem k_Charge___len : chkB ⟨["self"], defScope st_Charge___len, none, [], [], [], [], tb⟩ b_Charge___len (defBody st_Charge___len) = true := by decide +kernel
theorem bd_Charge___len : Bnd "__len__" "Charge.__len__" st_Charge___len ["self"] := fun _ _ _ _ _ _ us hl => match us, hl with | [_], _ => rfl
theorem c_Charge___len (A : AlH w K mg h base) : Mth PySem.Challenge.pw_huebill_k09_whole_sums_and_shares_of_cha w K mg base 3 "Charge" "__len__" 1 F_Charge___len := mth_D A 15 rfl (by decide +kernel) sc_Charge___len bd_Charge___len (show Cals PySem.Challenge.pw_huebill_k09_whole_sums_and_shares_of_cha w K mg base 0 [] [] [] [] _ from trivial) k_Charge___len
theorem sc_divisor_of : FnScope ["one", "other"] ["one", "other"] (defScope st_divisor_of) := ⟨rfl, rfl, rfl, by decide +kernel, rfl, by decide +kernel, by decide +kernel⟩
theorem k_divisor_of : chkB ⟨["one", "other"], defScope st_divisor_of, none, [], [], [], [], tb⟩ b_divisor_of (defBody st_divisor_of) = true := by decide +kernel
theorem bd_divisor_of : Bnd "divisor_of" "divisor_of" st_divisor_of ["one", "other"] := fun _ _ _ _ _ _ us hl => match us, hl with | [_, _], _ => rfl
theorem c_divisor_of (A : AlH w K mg h base) : Callee PySem.Challenge.pw_huebill_k09_whole_sums_and_shares_of_cha w K mg base 1 "divisor_of" 2 F_divisor_of := callee_D A 16 rfl (by decide +kernel) sc_divisor_of bd_divisor_of (show Cals PySem.Challenge.pw_huebill_k09_whole_sums_and_shares_of_cha w K mg base 0 [] [] [] [] _ from trivial) k_divisor_of
theorem sc_lowest_of : FnScope ["top", "bottom", "shared"] ["top", "bottom"] (defScope st_lowest_of) := ⟨rfl, rfl, rfl, by decide +kernel, rfl, by decide +kernel, by decide +kernel⟩
theorem k_lowest_of : chkB ⟨["top", "bottom", "shared"], defScope st_lowest_of, none, [("divisor_of", 2)], [], [], [], tb⟩ b_lowest_of (defBody st_lowest_of) = true := by decide +kernel
theorem bd_lowest_of : Bnd "lowest_of" "lowest_of" st_lowest_of ["top", "bottom"] := fun _ _ _ _ _ _ us hl => match us, hl with | [_, _], _ => rfl
theorem c_lowest_of (A : AlH w K mg h base) : Callee PySem.Challenge.pw_huebill_k09_whole_sums_and_shares_of_cha w K mg base 2 "lowest_of" 2 F_lowest_of := callee_D A 17 rfl (by decide +kernel) sc_lowest_of bd_lowest_of (show Cals PySem.Challenge.pw_huebill_k09_whole_sums_and_shares_of_cha w K mg base 1 [("divisor_of", 2)] [] [] [] _ from ⟨⟨1, by decide, c_divisor_of A⟩, trivial⟩) k_lowest_of
theorem sc_Charge___contains : FnScope ["self", "value"] ["self", "value"] (defScope st_Charge___contains) := ⟨rfl, rfl, rfl, by decide +kernel, rfl, by decide +kernel, by decide +kernel⟩
theorem k_Charge___contains : chkB ⟨["self", "value"], defScope st_Charge___contains, none, [("is_name", 1)], [], [], [], tb⟩ b_Charge___contains (defBody st_Charge___contains) = true := by decide +kernel
theorem bd_Charge___contains : Bnd "__contains__" "Charge.__contains__" st_Charge___contains ["self", "value"] := fun _ _ _ _ _ _ us hl => match us, hl with | [_, _], _ => rfl
theorem c_Charge___contains (A : AlH w K mg h base) : Mth PySem.Challenge.pw_huebill_k09_whole_sums_and_shares_of_cha w K mg base 4 "Charge" "__contains__" 2 F_Charge___contains := mth_D A 18 rfl (by decide +kernel) sc_Charge___contains bd_Charge___contains (show Cals PySem.Challenge.pw_huebill_k09_whole_sums_and_shares_of_cha w K mg base 1 [("is_name", 1)] [] [] [] _ from ⟨⟨1, by decide, c_is_name A⟩, trivial⟩) k_Charge___contains
theorem sc_Charge___getitem : FnScope ["self", "thing"] ["self", "thing"] (defScope st_Charge___getitem) := ⟨rfl, rfl, rfl, by decide +kernel, rfl, by decide +kernel, by decide +kernel⟩
theorem k_Charge___getitem : chkB ⟨["self", "thing"], defScope st_Charge___getitem, none, [("lowest_of", 2)], [("Charge", "__contains__", 2)], [], [], tb⟩ b_Charge___getitem (defBody st_Charge___getitem) = true := by decide +kernel
theorem bd_Charge___getitem : Bnd "__getitem__" "Charge.__getitem__" st_Charge___getitem ["self", "thing"] := fun _ _ _ _ _ _ us hl => match us, hl with | [_, _], _ => rfl
theorem c_Charge___getitem (A : AlH w K mg h base) : Mth PySem.Challenge.pw_huebill_k09_whole_sums_and_shares_of_cha w K mg base 7 "Charge" "__getitem__" 2 F_Charge___getitem := mth_D A 19 rfl (by decide +kernel) sc_Charge___getitem bd_Charge___getitem (show Cals PySem.Challenge.pw_huebill_k09_whole_sums_and_shares_of_cha w K mg base 4 [("lowest_of", 2)] [("Charge", "__contains__", 2)] [] [] _ from ⟨⟨2, by decide, c_lowest_of A⟩, ⟨⟨4, by decide, c_Charge___contains A⟩, trivial⟩⟩) k_Charge___getitem
theorem sc_law_pays : FnScope ["_law_charge", "_law_parts_by", "_law_one"] ["_law_charge", "_law_parts_by"] (defScope st_law_pays) := ⟨rfl, rfl, rfl, by decide +kernel, rfl, by decide +kernel, by decide +kernel⟩
theorem k_law_pays : chkB ⟨["_law_charge", "_law_parts_by", "_law_one"], defScope st_law_pays, none, [], [("Charge", "__iter__", 1), ("Charge", "__len__", 1), ("Charge", "__getitem__", 2)], [], [], tb⟩ b_law_pays (defBody st_law_pays) = true := by decide +kernel
theorem bd_law_pays : Bnd "_law_pays" "_law_pays" st_law_pays ["_law_charge", "_law_parts_by"] := fun _ _ _ _ _ _ us hl => match us, hl with | [_, _], _ => rfl
theorem c_law_pays (A : AlH w K mg h base) : Callee PySem.Challenge.pw_huebill_k09_whole_sums_and_shares_of_cha w K mg base 8 "_law_pays" 2 F_law_pays := callee_D A 20 rfl (by decide +kernel) sc_law_pays bd_law_pays (show Cals PySem.Challenge.pw_huebill_k09_whole_sums_and_shares_of_cha w K mg base 7 [] [("Charge", "__iter__", 1), ("Charge", "__len__", 1), ("Charge", "__getitem__", 2)] [] [] _ from ⟨⟨3, by decide, c_Charge___iter A⟩, ⟨⟨3, by decide, c_Charge___len A⟩, ⟨⟨7, by decide, c_Charge___getitem A⟩, trivial⟩⟩⟩) k_law_pays
theorem sc_law_low : FnScope ["_law_top", "_law_bottom", "_law_sign", "_law_first", "_law_second"] ["_law_top", "_law_bottom"] (defScope st_law_low) := ⟨rfl, rfl, rfl, by decide +kernel, rfl, by decide +kernel, by decide +kernel⟩
theorem k_law_low : chkB ⟨["_law_top", "_law_bottom", "_law_sign", "_law_first", "_law_second"], defScope st_law_low, none, [], [], [], [], tb⟩ b_law_low (defBody st_law_low) = true := by decide +kernel
theorem bd_law_low : Bnd "_law_low" "_law_low" st_law_low ["_law_top", "_law_bottom"] := fun _ _ _ _ _ _ us hl => match us, hl with | [_, _], _ => rfl
theorem c_law_low (A : AlH w K mg h base) : Callee PySem.Challenge.pw_huebill_k09_whole_sums_and_shares_of_cha w K mg base 1 "_law_low" 2 F_law_low := callee_D A 21 rfl (by decide +kernel) sc_law_low bd_law_low (show Cals PySem.Challenge.pw_huebill_k09_whole_sums_and_shares_of_cha w K mg base 0 [] [] [] [] _ from trivial) k_law_low
theorem sc_law_joint : FnScope ["_law_one", "_law_other", "_law_first", "_law_second", "_law_found", "_law_thing", "_law_left", "_law_right_here", "_law_low_here", "_law_far"] ["_law_one", "_law_other", "_law_first", "_law_second"] (defScope st_law_joint) := ⟨rfl, rfl, rfl, by decide +kernel, rfl, by decide +kernel, by decide +kernel⟩
theorem k_law_joint : chkB ⟨["_law_one", "_law_other", "_law_first", "_law_second", "_law_found", "_law_thing", "_law_left", "_law_right_here", "_law_low_here", "_law_far"], defScope st_law_joint, none, [("_law_low", 2)], [], [], [], tb⟩ b_law_joint (defBody st_law_joint) = true := by decide +kernel
theorem bd_law_joint : Bnd "_law_joint" "_law_joint" st_law_joint ["_law_one", "_law_other", "_law_first", "_law_second"] := fun _ _ _ _ _ _ us hl => match us, hl with | [_, _, _, _], _ => rfl
theorem c_law_joint (A : AlH w K mg h base) : Callee PySem.Challenge.pw_huebill_k09_whole_sums_and_shares_of_cha w K mg base 2 "_law_joint" 4 F_law_joint := callee_D A 22 rfl (by decide +kernel) sc_law_joint bd_law_joint (show Cals PySem.Challenge.pw_huebill_k09_whole_sums_and_shares_of_cha w K mg base 1 [("_law_low", 2)] [] [] [] _ from ⟨⟨1, by decide, c_law_low A⟩, trivial⟩) k_law_joint
theorem sc_require_like : FnScope ["charge", "value"] ["charge", "value"] (defScope st_require_like) := ⟨rfl, rfl, rfl, by decide +kernel, rfl, by decide +kernel, by decide +kernel⟩
theorem k_require_like : chkB ⟨["charge", "value"], defScope st_require_like, none, [], [], [], [], tb⟩ b_require_like (defBody st_require_like) = true := by decide +kernel
theorem bd_require_like : Bnd "require_like" "require_like" st_require_like ["charge", "value"] := fun _ _ _ _ _ _ us hl => match us, hl with | [_, _], _ => rfl
theorem c_require_like (A : AlH w K mg h base) : Callee PySem.Challenge.pw_huebill_k09_whole_sums_and_shares_of_cha w K mg base 1 "require_like" 2 F_require_like := callee_D A 23 rfl (by decide +kernel) sc_require_like bd_require_like (show Cals PySem.Challenge.pw_huebill_k09_whole_sums_and_shares_of_cha w K mg base 0 [] [] [] [] _ from trivial) k_require_like
theorem sc_charge_with : FnScope ["pays", "unit"] ["pays", "unit"] (defScope st_charge_with) := ⟨rfl, rfl, rfl, by decide +kernel, rfl, by decide +kernel, by decide +kernel⟩
theorem k_charge_with : chkB ⟨["pays", "unit"], defScope st_charge_with, none, [], [], [], [("Charge", 1, some ("unit", 1)), ("Pays", 2, none)], tb⟩ b_charge_with (defBody st_charge_with) = true := by decide +kernel
theorem bd_charge_with : Bnd "charge_with" "charge_with" st_charge_with ["pays", "unit"] := fun _ _ _ _ _ _ us hl => match us, hl with | [_, _], _ => rfl
theorem c_charge_with (A : AlH w K mg h base) : Callee PySem.Challenge.pw_huebill_k09_whole_sums_and_shares_of_cha w K mg base 9 "charge_with" 2 F_charge_with := callee_D A 24 rfl (by decide +kernel) sc_charge_with bd_charge_with (show Cals PySem.Challenge.pw_huebill_k09_whole_sums_and_shares_of_cha w K mg base 8 [] [] [] [("Charge", 1, some ("unit", 1)), ("Pays", 2, none)] _ from ⟨⟨8, by decide, c_Charge___init A⟩, ⟨⟨4, by decide, c_Pays___init A⟩, trivial⟩⟩) k_charge_with
theorem sc_joint_charge : FnScope ["one", "other", "first", "second", "pays", "left", "right", "thing"] ["one", "other", "first", "second"] (defScope st_joint_charge) := ⟨rfl, rfl, rfl, by decide +kernel, rfl, by decide +kernel, by decide +kernel⟩
theorem k_joint_charge : chkB ⟨["one", "other", "first", "second", "pays", "left", "right", "thing"], defScope st_joint_charge, none, [("charge_with", 2)], [], [], [], tb⟩ b_joint_charge (defBody st_joint_charge) = true := by decide +kernel
theorem bd_joint_charge : Bnd "joint_charge" "joint_charge" st_joint_charge ["one", "other", "first", "second"] := fun _ _ _ _ _ _ us hl => match us, hl with | [_, _, _, _], _ => rfl
theorem c_joint_charge (A : AlH w K mg h base) : Callee PySem.Challenge.pw_huebill_k09_whole_sums_and_shares_of_cha w K mg base 10 "joint_charge" 4 F_joint_charge := callee_D A 25 rfl (by decide +kernel) sc_joint_charge bd_joint_charge (show Cals PySem.Challenge.pw_huebill_k09_whole_sums_and_shares_of_cha w K mg base 9 [("charge_with", 2)] [] [] [] _ from ⟨⟨9, by decide, c_charge_with A⟩, trivial⟩) k_joint_charge
theorem sc_Charge___add : FnScope ["self", "other"] ["self", "other"] (defScope st_Charge___add) := ⟨rfl, rfl, rfl, by decide +kernel, rfl, by decide +kernel, by decide +kernel⟩
theorem k_Charge___add : chkB ⟨["self", "other"], defScope st_Charge___add, none, [("require_like", 2), ("joint_charge", 4)], [], [], [], tb⟩ b_Charge___add (defBody st_Charge___add) = true := by decide +kernel
theorem bd_Charge___add : Bnd "__add__" "Charge.__add__" st_Charge___add ["self", "other"] := fun _ _ _ _ _ _ us hl => match us, hl with | [_, _], _ => rfl
theorem c_Charge___add (A : AlH w K mg h base) : Mth PySem.Challenge.pw_huebill_k09_whole_sums_and_shares_of_cha w K mg base 13 "Charge" "__add__" 2 F_Charge___add := mth_D A 26 rfl (by decide +kernel) sc_Charge___add bd_Charge___add (show Cals PySem.Challenge.pw_huebill_k09_whole_sums_and_shares_of_cha w K mg base 10 [("require_like", 2), ("joint_charge", 4)] [] [] [] _ from ⟨⟨1, by decide, c_require_like A⟩, ⟨⟨10, by decide, c_joint_charge A⟩, trivial⟩⟩) k_Charge___add
theorem sc_Charge___sub : FnScope ["self", "other"] ["self", "other"] (defScope st_Charge___sub) := ⟨rfl, rfl, rfl, by decide +kernel, rfl, by decide +kernel, by decide +kernel⟩
theorem k_Charge___sub : chkB ⟨["self", "other"], defScope st_Charge___sub, none, [("require_like", 2), ("joint_charge", 4)], [], [], [], tb⟩ b_Charge___sub (defBody st_Charge___sub) = true := by decide +kernel
theorem bd_Charge___sub : Bnd "__sub__" "Charge.__sub__" st_Charge___sub ["self", "other"] := fun _ _ _ _ _ _ us hl => match us, hl with | [_, _], _ => rfl
theorem c_Charge___sub (A : AlH w K mg h base) : Mth PySem.Challenge.pw_huebill_k09_whole_sums_and_shares_of_cha w K mg base 13 "Charge" "__sub__" 2 F_Charge___sub := mth_D A 27 rfl (by decide +kernel) sc_Charge___sub bd_Charge___sub (show Cals PySem.Challenge.pw_huebill_k09_whole_sums_and_shares_of_cha w K mg base 10 [("require_like", 2), ("joint_charge", 4)] [] [] [] _ from ⟨⟨1, by decide, c_require_like A⟩, ⟨⟨10, by decide, c_joint_charge A⟩, trivial⟩⟩) k_Charge___sub
theorem sc_Charge___eq : FnScope ["self", "other"] ["self", "other"] (defScope st_Charge___eq) := ⟨rfl, rfl, rfl, by decide +kernel, rfl, by decide +kernel, by decide +kernel⟩
theorem k_Charge___eq : chkB ⟨["self", "other"], defScope st_Charge___eq, none, [], [], [], [], tb⟩ b_Charge___eq (defBody st_Charge___eq) = true := by decide +kernel
theorem bd_Charge___eq : Bnd "__eq__" "Charge.__eq__" st_Charge___eq ["self", "other"] := fun _ _ _ _ _ _ us hl => match us, hl with | [_, _], _ => rfl
theorem c_Charge___eq (A : AlH w K mg h base) : Mth PySem.Challenge.pw_huebill_k09_whole_sums_and_shares_of_cha w K mg base 3 "Charge" "__eq__" 2 F_Charge___eq := mth_D A 28 rfl (by decide +kernel) sc_Charge___eq bd_Charge___eq (show Cals PySem.Challenge.pw_huebill_k09_whole_sums_and_shares_of_cha w K mg base 0 [] [] [] [] _ from trivial) k_Charge___eq
theorem sc_require_share : FnScope ["numerator", "denominator"] ["numerator", "denominator"] (defScope st_require_share) := ⟨rfl, rfl, rfl, by decide +kernel, rfl, by decide +kernel, by decide +kernel⟩
theorem k_require_share : chkB ⟨["numerator", "denominator"], defScope st_require_share, none, [("is_integer", 1)], [], [], [], tb⟩ b_require_share (defBody st_require_share) = true := by decide +kernel
theorem bd_require_share : Bnd "require_share" "require_share" st_require_share ["numerator", "denominator"] := fun _ _ _ _ _ _ us hl => match us, hl with | [_, _], _ => rfl
theorem c_require_share (A : AlH w K mg h base) : Callee PySem.Challenge.pw_huebill_k09_whole_sums_and_shares_of_cha w K mg base 2 "require_share" 2 F_require_share := callee_D A 29 rfl (by decide +kernel) sc_require_share bd_require_share (show Cals PySem.Challenge.pw_huebill_k09_whole_sums_and_shares_of_cha w K mg base 1 [("is_integer", 1)] [] [] [] _ from ⟨⟨1, by decide, c_is_integer A⟩, trivial⟩) k_require_share
theorem sc_Charge_times : FnScope ["self", "numerator", "denominator", "pays", "thing"] ["self", "numerator", "denominator"] (defScope st_Charge_times) := ⟨rfl, rfl, rfl, by decide +kernel, rfl, by decide +kernel, by decide +kernel⟩
theorem k_Charge_times : chkB ⟨["self", "numerator", "denominator", "pays", "thing"], defScope st_Charge_times, none, [("require_share", 2), ("charge_with", 2)], [], [], [], tb⟩ b_Charge_times (defBody st_Charge_times) = true := by decide +kernel
theorem bd_Charge_times : BndD "times" "Charge.times" st_Charge_times ["self", "numerator", "denominator"] 3 1 := fun _ _ _ _ _ _ _ us its h1 h2 => match us, its, h1, h2 with | [_, _, _], [_], _, _ => ⟨_, rfl, rfl⟩
theorem c_Charge_times (A : AlH w K mg h base) : Mth PySem.Challenge.pw_huebill_k09_whole_sums_and_shares_of_cha w K mg base 12 "Charge" "times" 3 F_Charge_times := mth_Dd A 30 rfl (by decide +kernel) sc_Charge_times bd_Charge_times (show Cals PySem.Challenge.pw_huebill_k09_whole_sums_and_shares_of_cha w K mg base 9 [("require_share", 2), ("charge_with", 2)] [] [] [] _ from ⟨⟨2, by decide, c_require_share A⟩, ⟨⟨9, by decide, c_charge_with A⟩, trivial⟩⟩) k_Charge_times
theorem be_Charge_times : BndD "times" "Charge.times" st_Charge_times ["self", "numerator", "denominator"] 2 0 := fun _ _ _ _ _ _ _ us its h1 h2 => match us, its, h1, h2 with | [_, _], [_], _, _ => ⟨_, rfl, rfl⟩
theorem c_Charge_timesD (A : AlH w K mg h base) : Mth PySem.Challenge.pw_huebill_k09_whole_sums_and_shares_of_cha w K mg base 12 "Charge" "times" 2 F_Charge_timesD := mth_De A 30 rfl (by decide +kernel) sc_Charge_times rfl be_Charge_times (show Cals PySem.Challenge.pw_huebill_k09_whole_sums_and_shares_of_cha w K mg base 9 [("require_share", 2), ("charge_with", 2)] [] [] [] _ from ⟨⟨2, by decide, c_require_share A⟩, ⟨⟨9, by decide, c_charge_with A⟩, trivial⟩⟩) k_Charge_times
theorem sc_Charge_total : FnScope ["self"] ["self"] (defScope st_Charge_total) := ⟨rfl, rfl, rfl, by decide +kernel, rfl, by decide +kernel, by decide +kernel⟩
theorem k_Charge_total : chkB ⟨["self"], defScope st_Charge_total, none, [("lowest_of", 2)], [], [], [], tb⟩ b_Charge_total (defBody st_Charge_total) = true := by decide +kernel
theorem bd_Charge_total : Bnd "total" "Charge.total" st_Charge_total ["self"] := fun _ _ _ _ _ _ us hl => match us, hl with | [_], _ => rfl
theorem c_Charge_total (A : AlH w K mg h base) : Prp PySem.Challenge.pw_huebill_k09_whole_sums_and_shares_of_cha w K mg base 5 "Charge" "total" F_Charge_total := prp_D A 0 rfl sc_Charge_total bd_Charge_total rfl (show Cals PySem.Challenge.pw_huebill_k09_whole_sums_and_shares_of_cha w K mg base 2 [("lowest_of", 2)] [] [] [] _ from ⟨⟨2, by decide, c_lowest_of A⟩, trivial⟩) k_Charge_total
theorem sc_law_sums_right : FnScope ["_law_one", "_law_other", "_law_first", "_law_second", "_law_tops", "_law_due", "_law_some"] ["_law_one", "_law_other", "_law_first", "_law_second"] (defScope st_law_sums_right) := ⟨rfl, rfl, rfl, by decide +kernel, rfl, by decide +kernel, by decide +kernel⟩
theorem k_law_sums_right : chkB ⟨["_law_one", "_law_other", "_law_first", "_law_second", "_law_tops", "_law_due", "_law_some"], defScope st_law_sums_right, none, [("_law_pays", 2), ("_law_joint", 4), ("_law_low", 2)], [("Charge", "__add__", 2), ("Charge", "__sub__", 2), ("Charge", "__eq__", 2), ("Charge", "times", 2)], [("Charge", "total")], [], tb⟩ b_law_sums_right (defBody st_law_sums_right) = true := by decide +kernel
theorem bd_law_sums_right : Bnd "_law_sums_right" "_law_sums_right" st_law_sums_right ["_law_one", "_law_other", "_law_first", "_law_second"] := fun _ _ _ _ _ _ us hl => match us, hl with | [_, _, _, _], _ => rfl
theorem c_law_sums_right (A : AlH w K mg h base) : Callee PySem.Challenge.pw_huebill_k09_whole_sums_and_shares_of_cha w K mg base 14 "_law_sums_right" 4 F_law_sums_right := callee_D A 31 rfl (by decide +kernel) sc_law_sums_right bd_law_sums_right (show Cals PySem.Challenge.pw_huebill_k09_whole_sums_and_shares_of_cha w K mg base 13 [("_law_pays", 2), ("_law_joint", 4), ("_law_low", 2)] [("Charge", "__add__", 2), ("Charge", "__sub__", 2), ("Charge", "__eq__", 2), ("Charge", "times", 2)] [("Charge", "total")] [] _ from ⟨⟨8, by decide, c_law_pays A⟩, ⟨⟨2, by decide, c_law_joint A⟩, ⟨⟨1, by decide, c_law_low A⟩, ⟨⟨13, by decide, c_Charge___add A⟩, ⟨⟨13, by decide, c_Charge___sub A⟩, ⟨⟨3, by decide, c_Charge___eq A⟩, ⟨⟨12, by decide, c_Charge_timesD A⟩, ⟨⟨5, by decide, c_Charge_total A⟩, trivial⟩⟩⟩⟩⟩⟩⟩⟩) k_law_sums_right
theorem sc_Charge_mixed : FnScope ["self", "other", "numerator", "denominator", "one", "rest"] ["self", "other", "numerator", "denominator"] (defScope st_Charge_mixed) := ⟨rfl, rfl, rfl, by decide +kernel, rfl, by decide +kernel, by decide +kernel⟩
theorem k_Charge_mixed : chkB ⟨["self", "other", "numerator", "denominator", "one", "rest"], defScope st_Charge_mixed, none, [("require_share", 2), ("charge_with", 2), ("joint_charge", 4)], [], [], [], tb⟩ b_Charge_mixed (defBody st_Charge_mixed) = true := by decide +kernel
theorem bd_Charge_mixed : Bnd "mixed" "Charge.mixed" st_Charge_mixed ["self", "other", "numerator", "denominator"] := fun _ _ _ _ _ _ us hl => match us, hl with | [_, _, _, _], _ => rfl
theorem c_Charge_mixed (A : AlH w K mg h base) : Mth PySem.Challenge.pw_huebill_k09_whole_sums_and_shares_of_cha w K mg base 13 "Charge" "mixed" 4 F_Charge_mixed := mth_D A 32 rfl (by decide +kernel) sc_Charge_mixed bd_Charge_mixed (show Cals PySem.Challenge.pw_huebill_k09_whole_sums_and_shares_of_cha w K mg base 10 [("require_share", 2), ("charge_with", 2), ("joint_charge", 4)] [] [] [] _ from ⟨⟨2, by decide, c_require_share A⟩, ⟨⟨9, by decide, c_charge_with A⟩, ⟨⟨10, by decide, c_joint_charge A⟩, trivial⟩⟩⟩) k_Charge_mixed
theorem sc_law_multiples_right : FnScope ["_law_pot_here", "_law_one", "_law_other", "_law_first", "_law_second", "_law_much", "_law_mixed", "_law_top", "_law_bottom"] ["_law_pot_here", "_law_one", "_law_other", "_law_first", "_law_second"] (defScope st_law_multiples_right) := ⟨rfl, rfl, rfl, by decide +kernel, rfl, by decide +kernel, by decide +kernel⟩
theorem k_law_multiples_right : chkB ⟨["_law_pot_here", "_law_one", "_law_other", "_law_first", "_law_second", "_law_much", "_law_mixed", "_law_top", "_law_bottom"], defScope st_law_multiples_right, none, [("_law_number", 1), ("_law_stir", 2), ("_law_pays", 2), ("_law_joint", 4)], [("Charge", "times", 3), ("Charge", "__eq__", 2), ("Charge", "times", 2), ("Charge", "mixed", 4), ("Charge", "__add__", 2)], [], [], tb⟩ b_law_multiples_right (defBody st_law_multiples_right) = true := by decide +kernel
theorem bd_law_multiples_right : Bnd "_law_multiples_right" "_law_multiples_right" st_law_multiples_right ["_law_pot_here", "_law_one", "_law_other", "_law_first", "_law_second"] := fun _ _ _ _ _ _ us hl => match us, hl with | [_, _, _, _, _], _ => rfl
theorem c_law_multiples_right (A : AlH w K mg h base) : Callee PySem.Challenge.pw_huebill_k09_whole_sums_and_shares_of_cha w K mg base 14 "_law_multiples_right" 5 F_law_multiples_right := callee_D A 33 rfl (by decide +kernel) sc_law_multiples_right bd_law_multiples_right (show Cals PySem.Challenge.pw_huebill_k09_whole_sums_and_shares_of_cha w K mg base 13 [("_law_number", 1), ("_law_stir", 2), ("_law_pays", 2), ("_law_joint", 4)] [("Charge", "times", 3), ("Charge", "__eq__", 2), ("Charge", "times", 2), ("Charge", "mixed", 4), ("Charge", "__add__", 2)] [] [] _ from ⟨⟨2, by decide, c_law_number A⟩, ⟨⟨1, by decide, c_law_stir A⟩, ⟨⟨8, by decide, c_law_pays A⟩, ⟨⟨2, by decide, c_law_joint A⟩, ⟨⟨12, by decide, c_Charge_times A⟩, ⟨⟨3, by decide, c_Charge___eq A⟩, ⟨⟨12, by decide, c_Charge_timesD A⟩, ⟨⟨13, by decide, c_Charge_mixed A⟩, ⟨⟨13, by decide, c_Charge___add A⟩, trivial⟩⟩⟩⟩⟩⟩⟩⟩⟩) k_law_multiples_right
theorem sc_law_some_of : FnScope ["_law_pot_here", "_law_items", "_law_one"] ["_law_pot_here", "_law_items"] (defScope st_law_some_of) := ⟨rfl, rfl, rfl, by decide +kernel, rfl, by decide +kernel, by decide +kernel⟩
theorem k_law_some_of : chkB ⟨["_law_pot_here", "_law_items", "_law_one"], defScope st_law_some_of, none, [("_law_stir", 2)], [], [], [], tb⟩ b_law_some_of (defBody st_law_some_of) = true := by decide +kernel
theorem bd_law_some_of : Bnd "_law_some_of" "_law_some_of" st_law_some_of ["_law_pot_here", "_law_items"] := fun _ _ _ _ _ _ us hl => match us, hl with | [_, _], _ => rfl
theorem c_law_some_of (A : AlH w K mg h base) : Callee PySem.Challenge.pw_huebill_k09_whole_sums_and_shares_of_cha w K mg base 2 "_law_some_of" 2 F_law_some_of := callee_D A 34 rfl (by decide +kernel) sc_law_some_of bd_law_some_of (show Cals PySem.Challenge.pw_huebill_k09_whole_sums_and_shares_of_cha w K mg base 1 [("_law_stir", 2)] [] [] [] _ from ⟨⟨1, by decide, c_law_stir A⟩, trivial⟩) k_law_some_of
theorem sc_law_alone : FnScope ["_law_some", "_law_thing"] ["_law_some"] (defScope st_law_alone) := ⟨rfl, rfl, rfl, by decide +kernel, rfl, by decide +kernel, by decide +kernel⟩
theorem k_law_alone : chkB ⟨["_law_some", "_law_thing"], defScope st_law_alone, none, [("_law_low", 2)], [], [], [], tb⟩ b_law_alone (defBody st_law_alone) = true := by decide +kernel
theorem bd_law_alone : Bnd "_law_alone" "_law_alone" st_law_alone ["_law_some"] := fun _ _ _ _ _ _ us hl => match us, hl with | [_], _ => rfl
theorem c_law_alone (A : AlH w K mg h base) : Callee PySem.Challenge.pw_huebill_k09_whole_sums_and_shares_of_cha w K mg base 2 "_law_alone" 1 F_law_alone := callee_D A 35 rfl (by decide +kernel) sc_law_alone bd_law_alone (show Cals PySem.Challenge.pw_huebill_k09_whole_sums_and_shares_of_cha w K mg base 1 [("_law_low", 2)] [] [] [] _ from ⟨⟨1, by decide, c_law_low A⟩, trivial⟩) k_law_alone
theorem sc_require_charge : FnScope ["value"] ["value"] (defScope st_require_charge) := ⟨rfl, rfl, rfl, by decide +kernel, rfl, by decide +kernel, by decide +kernel⟩
theorem k_require_charge : chkB ⟨["value"], defScope st_require_charge, none, [], [], [], [], tb⟩ b_require_charge (defBody st_require_charge) = true := by decide +kernel
theorem bd_require_charge : Bnd "require_charge" "require_charge" st_require_charge ["value"] := fun _ _ _ _ _ _ us hl => match us, hl with | [_], _ => rfl
theorem c_require_charge (A : AlH w K mg h base) : Callee PySem.Challenge.pw_huebill_k09_whole_sums_and_shares_of_cha w K mg base 1 "require_charge" 1 F_require_charge := callee_D A 36 rfl (by decide +kernel) sc_require_charge bd_require_charge (show Cals PySem.Challenge.pw_huebill_k09_whole_sums_and_shares_of_cha w K mg base 0 [] [] [] [] _ from trivial) k_require_charge
theorem sc_side_by_side : FnScope ["one", "other", "pays", "rest", "thing"] ["one", "other"] (defScope st_side_by_side) := ⟨rfl, rfl, rfl, by decide +kernel, rfl, by decide +kernel, by decide +kernel⟩
theorem k_side_by_side : chkB ⟨["one", "other", "pays", "rest", "thing"], defScope st_side_by_side, none, [("charge_with", 2)], [], [], [], tb⟩ b_side_by_side (defBody st_side_by_side) = true := by decide +kernel
theorem bd_side_by_side : Bnd "side_by_side" "side_by_side" st_side_by_side ["one", "other"] := fun _ _ _ _ _ _ us hl => match us, hl with | [_, _], _ => rfl
theorem c_side_by_side (A : AlH w K mg h base) : Callee PySem.Challenge.pw_huebill_k09_whole_sums_and_shares_of_cha w K mg base 10 "side_by_side" 2 F_side_by_side := callee_D A 37 rfl (by decide +kernel) sc_side_by_side bd_side_by_side (show Cals PySem.Challenge.pw_huebill_k09_whole_sums_and_shares_of_cha w K mg base 9 [("charge_with", 2)] [] [] [] _ from ⟨⟨9, by decide, c_charge_with A⟩, trivial⟩) k_side_by_side
theorem sc_Charge_put_beside : FnScope ["self", "other", "thing"] ["self", "other"] (defScope st_Charge_put_beside) := ⟨rfl, rfl, rfl, by decide +kernel, rfl, by decide +kernel, by decide +kernel⟩
theorem k_Charge_put_beside : chkB ⟨["self", "other", "thing"], defScope st_Charge_put_beside, none, [("require_charge", 1), ("side_by_side", 2)], [("Charge", "__contains__", 2)], [], [], tb⟩ b_Charge_put_beside (defBody st_Charge_put_beside) = true := by decide +kernel
theorem bd_Charge_put_beside : Bnd "put_beside" "Charge.put_beside" st_Charge_put_beside ["self", "other"] := fun _ _ _ _ _ _ us hl => match us, hl with | [_, _], _ => rfl
theorem c_Charge_put_beside (A : AlH w K mg h base) : Mth PySem.Challenge.pw_huebill_k09_whole_sums_and_shares_of_cha w K mg base 13 "Charge" "put_beside" 2 F_Charge_put_beside := mth_D A 38 rfl (by decide +kernel) sc_Charge_put_beside bd_Charge_put_beside (show Cals PySem.Challenge.pw_huebill_k09_whole_sums_and_shares_of_cha w K mg base 10 [("require_charge", 1), ("side_by_side", 2)] [("Charge", "__contains__", 2)] [] [] _ from ⟨⟨1, by decide, c_require_charge A⟩, ⟨⟨10, by decide, c_side_by_side A⟩, ⟨⟨4, by decide, c_Charge___contains A⟩, trivial⟩⟩⟩) k_Charge_put_beside
theorem sc_cut_to : FnScope ["charge", "group", "thing"] ["charge", "group"] (defScope st_cut_to) := ⟨rfl, rfl, rfl, by decide +kernel, rfl, by decide +kernel, by decide +kernel⟩
theorem k_cut_to : chkB ⟨["charge", "group", "thing"], defScope st_cut_to, none, [("charge_with", 2)], [], [], [], tb⟩ b_cut_to (defBody st_cut_to) = true := by decide +kernel
theorem bd_cut_to : Bnd "cut_to" "cut_to" st_cut_to ["charge", "group"] := fun _ _ _ _ _ _ us hl => match us, hl with | [_, _], _ => rfl
theorem c_cut_to (A : AlH w K mg h base) : Callee PySem.Challenge.pw_huebill_k09_whole_sums_and_shares_of_cha w K mg base 10 "cut_to" 2 F_cut_to := callee_D A 39 rfl (by decide +kernel) sc_cut_to bd_cut_to (show Cals PySem.Challenge.pw_huebill_k09_whole_sums_and_shares_of_cha w K mg base 9 [("charge_with", 2)] [] [] [] _ from ⟨⟨9, by decide, c_charge_with A⟩, trivial⟩) k_cut_to
theorem sc_Charge_require_own : FnScope ["self", "group", "thing", "one", "other"] ["self", "group"] (defScope st_Charge_require_own) := ⟨rfl, rfl, rfl, by decide +kernel, rfl, by decide +kernel, by decide +kernel⟩
theorem k_Charge_require_own : chkB ⟨["self", "group", "thing", "one", "other"], defScope st_Charge_require_own, none, [], [("Charge", "__contains__", 2)], [], [], tb⟩ b_Charge_require_own (defBody st_Charge_require_own) = true := by decide +kernel
theorem bd_Charge_require_own : Bnd "require_own" "Charge.require_own" st_Charge_require_own ["self", "group"] := fun _ _ _ _ _ _ us hl => match us, hl with | [_, _], _ => rfl
theorem c_Charge_require_own (A : AlH w K mg h base) : Mth PySem.Challenge.pw_huebill_k09_whole_sums_and_shares_of_cha w K mg base 7 "Charge" "require_own" 2 F_Charge_require_own := mth_D A 40 rfl (by decide +kernel) sc_Charge_require_own bd_Charge_require_own (show Cals PySem.Challenge.pw_huebill_k09_whole_sums_and_shares_of_cha w K mg base 4 [] [("Charge", "__contains__", 2)] [] [] _ from ⟨⟨4, by decide, c_Charge___contains A⟩, trivial⟩) k_Charge_require_own
theorem sc_Charge_cut : FnScope ["self", "group"] ["self", "group"] (defScope st_Charge_cut) := ⟨rfl, rfl, rfl, by decide +kernel, rfl, by decide +kernel, by decide +kernel⟩
theorem k_Charge_cut : chkB ⟨["self", "group"], defScope st_Charge_cut, none, [("cut_to", 2)], [("Charge", "require_own", 2)], [], [], tb⟩ b_Charge_cut (defBody st_Charge_cut) = true := by decide +kernel
theorem bd_Charge_cut : Bnd "cut" "Charge.cut" st_Charge_cut ["self", "group"] := fun _ _ _ _ _ _ us hl => match us, hl with | [_, _], _ => rfl
theorem c_Charge_cut (A : AlH w K mg h base) : Mth PySem.Challenge.pw_huebill_k09_whole_sums_and_shares_of_cha w K mg base 13 "Charge" "cut" 2 F_Charge_cut := mth_D A 41 rfl (by decide +kernel) sc_Charge_cut bd_Charge_cut (show Cals PySem.Challenge.pw_huebill_k09_whole_sums_and_shares_of_cha w K mg base 10 [("cut_to", 2)] [("Charge", "require_own", 2)] [] [] _ from ⟨⟨10, by decide, c_cut_to A⟩, ⟨⟨7, by decide, c_Charge_require_own A⟩, trivial⟩⟩) k_Charge_cut
theorem sc_Charge_things : FnScope ["self"] ["self"] (defScope st_Charge_things) := ⟨rfl, rfl, rfl, by decide +kernel, rfl, by decide +kernel, by decide +kernel⟩
theorem k_Charge_things : chkB ⟨["self"], defScope st_Charge_things, none, [], [], [], [], tb⟩ b_Charge_things (defBody st_Charge_things) = true := by decide +kernel
theorem bd_Charge_things : Bnd "things" "Charge.things" st_Charge_things ["self"] := fun _ _ _ _ _ _ us hl => match us, hl with | [_], _ => rfl
theorem c_Charge_things (A : AlH w K mg h base) : Prp PySem.Challenge.pw_huebill_k09_whole_sums_and_shares_of_cha w K mg base 3 "Charge" "things" F_Charge_things := prp_D A 1 rfl sc_Charge_things bd_Charge_things rfl (show Cals PySem.Challenge.pw_huebill_k09_whole_sums_and_shares_of_cha w K mg base 0 [] [] [] [] _ from trivial) k_Charge_things
theorem sc_law_beside_right : FnScope ["_law_pot_here", "_law_one", "_law_first", "_law_things", "_law_rest", "_law_third", "_law_joint_here", "_law_thing"] ["_law_pot_here", "_law_one", "_law_first", "_law_things"] (defScope st_law_beside_right) := ⟨rfl, rfl, rfl, by decide +kernel, rfl, by decide +kernel, by decide +kernel⟩
theorem k_law_beside_right : chkB ⟨["_law_pot_here", "_law_one", "_law_first", "_law_things", "_law_rest", "_law_third", "_law_joint_here", "_law_thing"], defScope st_law_beside_right, none, [("_law_sums", 2), ("_law_made_charge", 1), ("_law_pays", 2), ("_law_alone", 1)], [("Charge", "put_beside", 2), ("Charge", "__eq__", 2), ("Charge", "__len__", 1), ("Charge", "cut", 2)], [("Charge", "things")], [], tb⟩ b_law_beside_right (defBody st_law_beside_right) = true := by decide +kernel
theorem bd_law_beside_right : Bnd "_law_beside_right" "_law_beside_right" st_law_beside_right ["_law_pot_here", "_law_one", "_law_first", "_law_things"] := fun _ _ _ _ _ _ us hl => match us, hl with | [_, _, _, _], _ => rfl
theorem c_law_beside_right (A : AlH w K mg h base) : Callee PySem.Challenge.pw_huebill_k09_whole_sums_and_shares_of_cha w K mg base 14 "_law_beside_right" 4 F_law_beside_right := callee_D A 42 rfl (by decide +kernel) sc_law_beside_right bd_law_beside_right (show Cals PySem.Challenge.pw_huebill_k09_whole_sums_and_shares_of_cha w K mg base 13 [("_law_sums", 2), ("_law_made_charge", 1), ("_law_pays", 2), ("_law_alone", 1)] [("Charge", "put_beside", 2), ("Charge", "__eq__", 2), ("Charge", "__len__", 1), ("Charge", "cut", 2)] [("Charge", "things")] [] _ from ⟨⟨3, by decide, c_law_sums A⟩, ⟨⟨9, by decide, c_law_made_charge A⟩, ⟨⟨8, by decide, c_law_pays A⟩, ⟨⟨2, by decide, c_law_alone A⟩, ⟨⟨13, by decide, c_Charge_put_beside A⟩, ⟨⟨3, by decide, c_Charge___eq A⟩, ⟨⟨3, by decide, c_Charge___len A⟩, ⟨⟨13, by decide, c_Charge_cut A⟩, ⟨⟨3, by decide, c_Charge_things A⟩, trivial⟩⟩⟩⟩⟩⟩⟩⟩⟩) k_law_beside_right
theorem sc_law_right : FnScope ["_law_pot_here", "_law_things", "_law_crowd", "_law_one", "_law_other", "_law_first", "_law_second"] ["_law_pot_here"] (defScope st_law_right) := ⟨rfl, rfl, rfl, by decide +kernel, rfl, by decide +kernel, by decide +kernel⟩
theorem k_law_right : chkB ⟨["_law_pot_here", "_law_things", "_law_crowd", "_law_one", "_law_other", "_law_first", "_law_second"], defScope st_law_right, none, [("_law_words", 2), ("_law_stir", 2), ("_law_sums", 2), ("_law_made_charge", 1), ("_law_sums_right", 4), ("_law_multiples_right", 5), ("_law_some_of", 2), ("_law_beside_right", 4), ("_law_pays", 2), ("_law_alone", 1)], [("Charge", "__eq__", 2), ("Charge", "cut", 2), ("Charge", "__add__", 2)], [], [], tb⟩ b_law_right (defBody st_law_right) = true := by decide +kernel
theorem bd_law_right : Bnd "_law_right" "_law_right" st_law_right ["_law_pot_here"] := fun _ _ _ _ _ _ us hl => match us, hl with | [_], _ => rfl
theorem c_law_right (A : AlH w K mg h base) : Callee PySem.Challenge.pw_huebill_k09_whole_sums_and_shares_of_cha w K mg base 15 "_law_right" 1 F_law_right := callee_D A 43 rfl (by decide +kernel) sc_law_right bd_law_right (show Cals PySem.Challenge.pw_huebill_k09_whole_sums_and_shares_of_cha w K mg base 14 [("_law_words", 2), ("_law_stir", 2), ("_law_sums", 2), ("_law_made_charge", 1), ("_law_sums_right", 4), ("_law_multiples_right", 5), ("_law_some_of", 2), ("_law_beside_right", 4), ("_law_pays", 2), ("_law_alone", 1)] [("Charge", "__eq__", 2), ("Charge", "cut", 2), ("Charge", "__add__", 2)] [] [] _ from ⟨⟨3, by decide, c_law_words A⟩, ⟨⟨1, by decide, c_law_stir A⟩, ⟨⟨3, by decide, c_law_sums A⟩, ⟨⟨9, by decide, c_law_made_charge A⟩, ⟨⟨14, by decide, c_law_sums_right A⟩, ⟨⟨14, by decide, c_law_multiples_right A⟩, ⟨⟨2, by decide, c_law_some_of A⟩, ⟨⟨14, by decide, c_law_beside_right A⟩, ⟨⟨8, by decide, c_law_pays A⟩, ⟨⟨2, by decide, c_law_alone A⟩, ⟨⟨3, by decide, c_Charge___eq A⟩, ⟨⟨13, by decide, c_Charge_cut A⟩, ⟨⟨13, by decide, c_Charge___add A⟩, trivial⟩⟩⟩⟩⟩⟩⟩⟩⟩⟩⟩⟩⟩) k_law_right
theorem sc_law_pot : FnScope ["_law_script", "_law_at", "_law_cell", "_law_great", "_law_mixed"] ["_law_script", "_law_at"] (defScope st_law_pot) := ⟨rfl, rfl, rfl, by decide +kernel, rfl, by decide +kernel, by decide +kernel⟩
theorem k_law_pot : chkB ⟨["_law_script", "_law_at", "_law_cell", "_law_great", "_law_mixed"], defScope st_law_pot, none, [], [], [], [], tb⟩ b_law_pot (defBody st_law_pot) = true := by decide +kernel
theorem bd_law_pot : Bnd "_law_pot" "_law_pot" st_law_pot ["_law_script", "_law_at"] := fun _ _ _ _ _ _ us hl => match us, hl with | [_, _], _ => rfl
theorem c_law_pot (A : AlH w K mg h base) : Callee PySem.Challenge.pw_huebill_k09_whole_sums_and_shares_of_cha w K mg base 1 "_law_pot" 2 F_law_pot := callee_D A 44 rfl (by decide +kernel) sc_law_pot bd_law_pot (show Cals PySem.Challenge.pw_huebill_k09_whole_sums_and_shares_of_cha w K mg base 0 [] [] [] [] _ from trivial) k_law_pot
theorem sc_text_of : FnScope ["fraction", "top", "bottom"] ["fraction"] (defScope st_text_of) := ⟨rfl, rfl, rfl, by decide +kernel, rfl, by decide +kernel, by decide +kernel⟩
theorem k_text_of : chkB ⟨["fraction", "top", "bottom"], defScope st_text_of, none, [], [], [], [], tb⟩ b_text_of (defBody st_text_of) = true := by decide +kernel
theorem bd_text_of : Bnd "text_of" "text_of" st_text_of ["fraction"] := fun _ _ _ _ _ _ us hl => match us, hl with | [_], _ => rfl
theorem c_text_of (A : AlH w K mg h base) : Callee PySem.Challenge.pw_huebill_k09_whole_sums_and_shares_of_cha w K mg base 1 "text_of" 1 F_text_of := callee_D A 45 rfl (by decide +kernel) sc_text_of bd_text_of (show Cals PySem.Challenge.pw_huebill_k09_whole_sums_and_shares_of_cha w K mg base 0 [] [] [] [] _ from trivial) k_text_of
theorem sc_Charge___str : FnScope ["self", "one"] ["self"] (defScope st_Charge___str) := ⟨rfl, rfl, rfl, by decide +kernel, rfl, by decide +kernel, by decide +kernel⟩
theorem k_Charge___str : chkB ⟨["self", "one"], defScope st_Charge___str, none, [("text_of", 1)], [("Charge", "__getitem__", 2)], [], [], tb⟩ b_Charge___str (defBody st_Charge___str) = true := by decide +kernel
theorem bd_Charge___str : Bnd "__str__" "Charge.__str__" st_Charge___str ["self"] := fun _ _ _ _ _ _ us hl => match us, hl with | [_], _ => rfl
theorem c_Charge___str (A : AlH w K mg h base) : Mth PySem.Challenge.pw_huebill_k09_whole_sums_and_shares_of_cha w K mg base 10 "Charge" "__str__" 1 F_Charge___str := mth_D A 46 rfl (by decide +kernel) sc_Charge___str bd_Charge___str (show Cals PySem.Challenge.pw_huebill_k09_whole_sums_and_shares_of_cha w K mg base 7 [("text_of", 1)] [("Charge", "__getitem__", 2)] [] [] _ from ⟨⟨1, by decide, c_text_of A⟩, ⟨⟨7, by decide, c_Charge___getitem A⟩, trivial⟩⟩) k_Charge___str
theorem sc_law : FnScope ["_law_script", "_law_at", "_law_told", "_law_due", "_law_one", "_law_other"] ["_law_script"] (defScope st_law) := ⟨rfl, rfl, rfl, by decide +kernel, rfl, by decide +kernel, by decide +kernel⟩
theorem k_law : chkB ⟨["_law_script", "_law_at", "_law_told", "_law_due", "_law_one", "_law_other"], defScope st_law, none, [("_law_right", 1), ("_law_pot", 2)], [("Charge", "__str__", 1), ("Charge", "__sub__", 2), ("Charge", "mixed", 4), ("Charge", "times", 3), ("Charge", "__add__", 2), ("Charge", "put_beside", 2)], [], [("Charge", 1, some ("unit", 1))], tb⟩ b_law (defBody st_law) = true := by decide +kernel
theorem bd_law : Bnd "law" "law" st_law ["_law_script"] := fun _ _ _ _ _ _ us hl => match us, hl with | [_], _ => rfl
theorem cs_law (A : AlH w K mg h base) : Cals PySem.Challenge.pw_huebill_k09_whole_sums_and_shares_of_cha w K mg base 15 [("_law_right", 1), ("_law_pot", 2)] [("Charge", "__str__", 1), ("Charge", "__sub__", 2), ("Charge", "mixed", 4), ("Charge", "times", 3), ("Charge", "__add__", 2), ("Charge", "put_beside", 2)] [] [("Charge", 1, some ("unit", 1))] [F_law_right, F_law_pot, F_Charge___str, F_Charge___sub, F_Charge_mixed, F_Charge_times, F_Charge___add, F_Charge_put_beside, F_Charge___init] := ⟨⟨15, by decide, c_law_right A⟩, ⟨⟨1, by decide, c_law_pot A⟩, ⟨⟨10, by decide, c_Charge___str A⟩, ⟨⟨13, by decide, c_Charge___sub A⟩, ⟨⟨13, by decide, c_Charge_mixed A⟩, ⟨⟨12, by decide, c_Charge_times A⟩, ⟨⟨13, by decide, c_Charge___add A⟩, ⟨⟨13, by decide, c_Charge_put_beside A⟩, ⟨⟨8, by decide, c_Charge___init A⟩, trivial⟩⟩⟩⟩⟩⟩⟩⟩⟩
end
end K09
section
namespace HB
open PySem L2
/-! ### the evaluator walked by rules -/
/-- what comes behind -/
def RS.seq (r : RS) (k : Env → M → RS) : RS := match r with
  | .nx e m => k e m
  | .rt d m => .rt d m
  | .bk e m => .bk e m
  | .ct e m => .ct e m
  | .ex c e m => .ex c e m
  | .no => .no
def evK (fs : List Sem) (s : S) (k : Env → M → RS) (env : Env) (m : M) : RS := (evS fs s env m).seq k
section
variable {fs : List Sem} {env env2 : Env} {m m1 m2 m3 : M} {k : Env → M → RS} {r : S} {res : RS}
theorem evS_cons (s r : S) : evS fs (.cons s r) env m = (evS fs s env m).seq (evS fs r) := by
  first
    | (rw [evS]; unfold RS.seq; done)
    | (rw [evS]; cases evS fs s env m <;> rfl)
theorem seq_seq (x : RS) (f g : Env → M → RS) : (x.seq f).seq g = x.seq fun e m => (f e m).seq g := by cases x <;> rfl
theorem evK_cons (s r : S) : evK fs (.cons s r) k env m = (evS fs s env m).seq (evK fs r k) := by
  unfold evK
  rw [evS_cons, seq_seq]
theorem seq_id (x : RS) : x.seq .nx = x := by cases x <;> rfl
theorem k_of (s : S) : evS fs s env m = evK fs s .nx env m := by unfold evK; rw [seq_id]
theorem kk_nil (h : k env m = res) : evK fs .nil k env m = res := by unfold evK; rw [st_nil]; exact h
theorem kk_asg {g : G} {e : T} {d : D} (h : evE fs e env m = .ok d m1) (hg : asgG g d env = some env2) (hr : evK fs r k env2 m1 = res) : evK fs (.cons (.asg g e) r) k env m = res := by
  rw [evK_cons, evS, h, R.st_ok, hg]; exact hr
theorem kk_asg1 {i : Nat} {e : T} {d : D} (h : evE fs e env m = .ok d m1) (hr : evK fs r k (env.set i (some d)) m1 = res) : evK fs (.cons (.asg (.name i) e) r) k env m = res := kk_asg h (by simp only [asgG]) hr
theorem kk_par {i j : Nat} {a b : T} {d e : D} (ha : evE fs a env m = .ok d m1) (hb : evE fs b env m1 = .ok e m2) (hr : evK fs r k ((env.set i (some d)).set j (some e)) m2 = res) : evK fs (.cons (.par i j a b) r) k env m = res := by
  rw [evK_cons, evS, ha, R.st_ok, hb, R.st_ok]; exact hr
theorem kk_par3 {i j l : Nat} {a b c : T} {d e f : D} (ha : evE fs a env m = .ok d m1) (hb : evE fs b env m1 = .ok e m2) (hc : evE fs c env m2 = .ok f m3) (hr : evK fs r k (((env.set i (some d)).set j (some e)).set l (some f)) m3 = res) : evK fs (.cons (.par3 i j l a b c) r) k env m = res := by
  rw [evK_cons, evS, ha, R.st_ok, hb, R.st_ok, hc, R.st_ok]; exact hr
theorem kk_exp {e : T} {d : D} (h : evE fs e env m = .ok d m1) (hr : evK fs r k env m1 = res) : evK fs (.cons (.exp e) r) k env m = res := by
  rw [evK_cons, evS, h, R.st_ok]; exact hr
theorem kk_expX {e : T} {c : Exc} (h : evE fs e env m = .ex c m1) : evK fs (.cons (.exp e) r) k env m = .ex c env m1 := by
  rw [evK_cons, evS, h, R.st_ex]; rfl
theorem kk_asgX {g : G} {e : T} {c : Exc} (h : evE fs e env m = .ex c m1) : evK fs (.cons (.asg g e) r) k env m = .ex c env m1 := by
  rw [evK_cons, evS, h, R.st_ex]; rfl
theorem kk_ret {e : T} {d : D} (h : evE fs e env m = .ok d m1) : evK fs (.cons (.ret e) r) k env m = .rt d m1 := by
  rw [evK_cons, evS, h, R.st_ok]; rfl
theorem kk_retX {e : T} {c : Exc} (h : evE fs e env m = .ex c m1) : evK fs (.cons (.ret e) r) k env m = .ex c env m1 := by
  rw [evK_cons, evS, h, R.st_ex]; rfl
theorem kk_rai {n f : Str} {fl : Bool} {e : T} {d : D} (h : evE fs e env m = .ok d m1) (hp : pvD fl d = true) : evK fs (.cons (.rai n f fl e) r) k env m = .ex ⟨n, [(f, d)]⟩ env m1 := by
  rw [evK_cons, evS, h, R.st_ok, if_pos hp]; rfl
theorem kk_rai0 {n : Str} : evK fs (.cons (.rai0 n) r) k env m = .ex ⟨n, []⟩ env m := by
  rw [evK_cons, evS]; rfl
theorem kk_if {c : T} {a b : S} {x : Bool} (hc : evE fs c env m = .ok (.bl x) m1) (h : (if x = true then evK fs a (evK fs r k) env m1 else evK fs b (evK fs r k) env m1) = res) : evK fs (.cons (.ife c a b) r) k env m = res := by
  rw [evK_cons, evS, evT, hc, R.bind_ok, truth_bl, R.st_ok, ← h]
  unfold evK
  split <;> rfl
theorem kk_setf {o e : T} {f : Str} {cs : List Str} {d v : D} (he : evE fs e env m = .ok v m1) (ho : evE fs o env m1 = .ok d m2) (h : setfD cs d f v m2 = some m3) (hr : evK fs r k env m3 = res) : evK fs (.cons (.setf o f cs e) r) k env m = res := by
  rw [evK_cons, evS, he, R.st_ok, ho, R.st_ok, h]; exact hr
theorem kk_setix {o i e : T} {d j v : D} {m4 : M} (he : evE fs e env m = .ok v m1) (ho : evE fs o env m1 = .ok d m2) (hi : evE fs i env m2 = .ok j m3) (h : setixD d j v m3 = some m4) (hr : evK fs r k env m4 = res) : evK fs (.cons (.setix o i e) r) k env m = res := by
  rw [evK_cons, evS, he, R.st_ok, ho, R.st_ok, hi, R.st_ok, h]; exact hr
theorem kk_dput {o i e : T} {d j v : D} {m4 : M} (he : evE fs e env m = .ok v m1) (ho : evE fs o env m1 = .ok d m2) (hi : evE fs i env m2 = .ok j m3) (h : dputD d j v m3 = some m4) (hr : evK fs r k env m4 = res) : evK fs (.cons (.dput o i e) r) k env m = res := by
  rw [evK_cons, evS, he, R.st_ok, ho, R.st_ok, hi, R.st_ok, h]; exact hr
theorem kk_clr {o : T} {d : D} (ho : evE fs o env m = .ok d m1) (h : clrD d m1 = some m2) (hr : evK fs r k env m2 = res) : evK fs (.cons (.clr o) r) k env m = res := by
  rw [evK_cons, evS, ho, R.st_ok, h]; exact hr
theorem kk_frz {i : Nat} (h : frzD i env m = some (env2, m2)) (hr : evK fs r k env2 m2 = res) : evK fs (.cons (.frz i) r) k env m = res := by
  rw [evK_cons, evS, h]; exact hr
theorem kk_app {o e : T} {j : Nat} {v : D} (ho : evE fs o env m = .ok (.ref j) m1) (hl : isLst j m1 = true) (he : evE fs e env m1 = .ok v m2) (h : appD j v m2 = some m3) (hr : evK fs r k env m3 = res) : evK fs (.cons (.app o e) r) k env m = res := by
  rw [evK_cons, evS, ho, R.st_ok]
  dsimp only
  rw [if_pos hl, he, R.st_ok, h]; exact hr
/-- a loop whose outcome is known -/
theorem kk_fr {g : G} {it : T} {b : S} {d : D} {xs : List D} {q : RS} (hi : evE fs it env m = .ok d m1) (hv : viewI d m1 = some xs) (h : forGo (frStep fs g b) xs env m1 = q) (hr : q.seq (evK fs r k) = res) : evK fs (.cons (.fr g it b) r) k env m = res := by
  have e1 : (fun x env m => match asgG g x env with
        | some env2 => evS fs b env2 m
        | none => .no) = frStep fs g b := by
    funext x env m
    unfold frStep
    cases asgG g x env <;> rfl
  rw [evK_cons, evS, hi, R.st_ok, hv]
  have e2 : ∀ q', q' = forGo (frStep fs g b) xs env m1 → q'.seq (evK fs r k) = res := by
    intro q' hq
    rw [hq, h]; exact hr
  exact e2 _ (congrArg (fun f => forGo f xs env m1) e1)
theorem kk_wh {n : Nat} {c : T} {b : S} {q : RS} (h : whGo (evT fs c) (evS fs b) n env m = q) (hr : q.seq (evK fs r k) = res) : evK fs (.cons (.wh n c b) r) k env m = res := by
  rw [evK_cons, evS, h]; exact hr
theorem kk_frN {g : G} {it : T} {b : S} {d : D} {xs : List D} (hi : evE fs it env m = .ok d m1) (hv : viewI d m1 = some xs) (h : forGo (frStep fs g b) xs env m1 = .nx env2 m2) (hr : evK fs r k env2 m2 = res) : evK fs (.cons (.fr g it b) r) k env m = res := kk_fr hi hv h hr
theorem kk_whN {n : Nat} {c : T} {b : S} (h : whGo (evT fs c) (evS fs b) n env m = .nx env2 m2) (hr : evK fs r k env2 m2 = res) : evK fs (.cons (.wh n c b) r) k env m = res := kk_wh h hr
theorem run_rt {n : Nat} {b : S} {ds : List D} {d : D} (h : evK fs b .nx (ds.map some ++ List.replicate (n - ds.length) none) m = .rt d m2) : runB fs n b ds m = .ok d m2 := by
  unfold runB; rw [k_of, h]
theorem run_rtE {n : Nat} {b : S} {ds : List D} {d : D} {q : R D} (h : evK fs b .nx (ds.map some ++ List.replicate (n - ds.length) none) m = .rt d m2) (e : R.ok d m2 = q) : runB fs n b ds m = q := by
  rw [run_rt h]; exact e
theorem run_nx {n : Nat} {b : S} {ds : List D} (h : evK fs b .nx (ds.map some ++ List.replicate (n - ds.length) none) m = .nx env2 m2) : runB fs n b ds m = .ok .non m2 := by
  unfold runB; rw [k_of, h]
theorem run_ex {n : Nat} {b : S} {ds : List D} {c : Exc} (h : evK fs b .nx (ds.map some ++ List.replicate (n - ds.length) none) m = .ex c env2 m2) : runB fs n b ds m = .ex c m2 := by
  unfold runB; rw [k_of, h]
theorem run_nxE {n : Nat} {b : S} {ds : List D} {q : R D} (h : evK fs b .nx (ds.map some ++ List.replicate (n - ds.length) none) m = .nx env2 m2) (e : R.ok .non m2 = q) : runB fs n b ds m = q := by
  rw [run_nx h]; exact e
theorem run_exE {n : Nat} {b : S} {ds : List D} {c : Exc} {q : R D} (h : evK fs b .nx (ds.map some ++ List.replicate (n - ds.length) none) m = .ex c env2 m2) (e : R.ex c m2 = q) : runB fs n b ds m = q := by
  rw [run_ex h]; exact e
theorem ev_and2 {a b : T} {x : Bool} {q : R D} (ha : evE fs a env m = .ok (.bl x) m1) (hb : (if x = true then evE fs b env m1 else .ok (.bl false) m1) = q) : evE fs (.and a b) env m = q := by
  rw [← hb]
  simp only [evE, ha, R.bind_ok, truth_bl]
  cases x <;> rfl
theorem ev_or2 {a b : T} {x : Bool} {q : R D} (ha : evE fs a env m = .ok (.bl x) m1) (hb : (if x = true then .ok (.bl true) m1 else evE fs b env m1) = q) : evE fs (.or a b) env m = q := by
  rw [← hb]
  simp only [evE, ha, R.bind_ok, truth_bl]
  cases x <;> rfl
theorem ev_ite2 {c a b : T} {x : Bool} {q : R D} (hc : evE fs c env m = .ok (.bl x) m1) (h : (if x = true then evE fs a env m1 else evE fs b env m1) = q) : evE fs (.ite c a b) env m = q := by
  rw [← h]
  simp only [evE, hc, R.bind_ok, truth_bl]
theorem ev_obin {o : OB} {tbl : List (Str × Nat)} {a b : T} {d e : D} {q : R D} (ha : evE fs a env m = .ok d m1) (hb : evE fs b env m1 = .ok e m2) (h : obD fs tbl o d e m2 = q) : evE fs (.obin o tbl a b) env m = q := by
  simp only [evE, ha, hb, R.bind_ok, h]
theorem ev_onewK {c : Str} {j : Nat} {es e : T} {ds : List D} {d : D} {sem : Sem} {q : R D} (he : evA fs es env m = .ok ds m1) (h1 : evE fs e env m1 = .ok d m2) (hj : fs[j]? = some sem) (h : mkD sem c (ds ++ [d]) m2 = q) : evE fs (.onewK c j es e) env m = q := by
  simp only [evE, he, R.bind_ok, h1, hj, h]
theorem ev_onewK1 {c : Str} {j : Nat} {a e : T} {d1 d : D} {sem : Sem} {q : R D} (he : evE fs a env m = .ok d1 m1) (h1 : evE fs e env m1 = .ok d m2) (hj : fs[j]? = some sem) (h : mkD sem c [d1, d] m2 = q) : evE fs (.onewK c j (.cons a .nil) e) env m = q := ev_onewK (ev_cons he ev_nil) h1 hj h
theorem ev_fmt {a : T} {d : D} {q : R D} (ha : evE fs a env m = .ok d m1) (h : fmtD d m1 = q) : evE fs (.fmt a) env m = q := by
  simp only [evE, ha, R.bind_ok, h]
theorem ev_fstr {es : T} {q : R D} (h : evJ fs es Str.empty env m = q) : evE fs (.fstr es) env m = q := by
  simp only [evE, h]
theorem ev_jnil {acc : Str} : evJ fs .nil acc env m = .ok (.str acc) m := by simp only [evJ]
theorem ev_jcons {a es : T} {acc y : Str} {q : R D} (ha : evE fs a env m = .ok (.str y) m1) (hl : (acc ++ y).length ≤ 1000000) (h : evJ fs es (acc ++ y) env m1 = q) : evJ fs (.cons a es) acc env m = q := by
  simp only [evJ, ha, R.bind_ok]
  rw [if_pos (by rw [sizeLine_eq]; omega), h]
theorem ev_iter {i : IK} {es : T} {ds : List D} {q : R D} (he : evA fs es env m = .ok ds m1) (h : itD i ds m1 = q) : evE fs (.iter i es) env m = q := by
  simp only [evE, he, R.bind_ok, h]
theorem ev_dcte {es : T} {ds : List D} {q : R D} (he : evA fs es env m = .ok ds m1) (h : dcteD ds m1 = q) : evE fs (.dcte es) env m = q := by
  simp only [evE, he, R.bind_ok, h]
theorem isi_eq {a : T} {c : String} {d : D} {q : R D} (ha : evE fs a env m = .ok d m1) (h : isiD d c m1 = q) : evE fs (.isi a c) env m = q := by
  simp only [evE, ha, R.bind_ok, h]
end
end HB
open PySem L2 HB
local macro_rules | `(tactic| clear $x:ident) => if x.getId.eraseMacroScopes == `goenv then `(tactic| simp only [List.map_cons, List.map_nil, List.length_cons, List.length_nil, Nat.reduceAdd, Nat.reduceSub, List.replicate, List.cons_append, List.nil_append]) else Lean.Macro.throwUnsupported
namespace HB
open PySem L2
end HB
open PySem L2 HB
local macro_rules | `(tactic| clear $y:ident $x:ident) => if y.getId.eraseMacroScopes == `gorun then `(tactic| (apply run_rtE; unfold $x; clear goenv)) else Lean.Macro.throwUnsupported
namespace HB
open PySem L2
end HB
open PySem L2 HB
local macro_rules | `(tactic| clear $y:ident $x:ident) => if y.getId.eraseMacroScopes == `gorunN then `(tactic| (apply run_nxE; unfold $x; clear goenv)) else Lean.Macro.throwUnsupported
namespace HB
open PySem L2
end HB
open PySem L2 HB
local macro_rules | `(tactic| clear $y:ident $x:ident) => if y.getId.eraseMacroScopes == `gorunX then `(tactic| (apply run_exE; unfold $x; clear goenv)) else Lean.Macro.throwUnsupported
namespace HB
open PySem L2
theorem gb_pos {α : Type} {x : Bool} {a b r : α} (h : x = true) (e : a = r) : (if x = true then a else b) = r := by rw [if_pos h]; exact e
theorem gb_neg {α : Type} {x : Bool} {a b r : α} (h : x = false) (e : b = r) : (if x = true then a else b) = r := by rw [if_neg (by simp [h])]; exact e
end HB
open PySem L2 HB
local macro_rules | `(tactic| clear $x:ident) => if x.getId.eraseMacroScopes == `goside then `(tactic| first | (with_reducible assumption) | (with_reducible rfl) | omega | (simp; done) | (simp; omega) | (simp [*]; done)) else Lean.Macro.throwUnsupported
namespace HB
open PySem L2
end HB
open PySem L2 HB
local macro_rules | `(tactic| clear $x:ident) => if x.getId.eraseMacroScopes == `gx then `(tactic| first
    | (with_reducible assumption) | (with_reducible exact op_ad) | (with_reducible exact op_sb) | (with_reducible exact op_eqI) | (with_reducible exact op_neI) | (with_reducible exact op_ltI) | (with_reducible exact op_leI) | (with_reducible exact op_gtI) | (with_reducible exact op_geI) | (with_reducible exact op_eqS) | (with_reducible exact op_neS)
    | ((with_reducible refine op_ml ?_); clear goside) | ((with_reducible refine op_fd ?_ ?_); clear goside; clear goside) | ((with_reducible refine op_md ?_); clear goside)
    | ((with_reducible refine ix_dD ?_); clear goside) | (with_reducible exact in_dD) | (with_reducible exact len_dD) | (with_reducible exact list_dD) | (with_reducible exact dict_dD) | ((with_reducible refine sorted_dD ?_); clear goside) | ((with_reducible refine sorted_lst ?_); clear goside) | ((with_reducible refine dict_lst ?_); clear goside)) else Lean.Macro.throwUnsupported
namespace HB
open PySem L2
end HB
open PySem L2 HB
local macro_rules | `(tactic| clear $x:ident) => if x.getId.eraseMacroScopes == `gob then `(tactic| first | ((with_reducible apply gb_neg); (focus clear goside)) | ((with_reducible apply gb_pos); (focus clear goside))) else Lean.Macro.throwUnsupported
namespace HB
open PySem L2
end HB
open PySem L2 HB
local macro_rules | `(tactic| clear $x:ident) => if x.getId.eraseMacroScopes == `go then `(tactic| first
    | (with_reducible exact ev_int) | (with_reducible exact ev_bl) | (with_reducible exact ev_str) | (with_reducible exact ev_non) | (with_reducible exact ev_gint) | (with_reducible exact ev_nil) | (with_reducible exact ev_jnil)
    | ((with_reducible apply ev_var); exact rfl)
    | ((with_reducible apply ev_cons); (focus clear go); clear go)
    | ((with_reducible apply ev_bin); (focus clear go); (focus clear go); clear gx)
    | ((with_reducible apply ev_cmp); (focus clear go); (focus clear go); clear gx)
    | ((with_reducible apply ev_ix); (focus clear go); (focus clear go); clear gx)
    | ((with_reducible apply ev_call); (focus clear go); (focus exact rfl); clear gx)
    | ((with_reducible apply ev_blt); (focus clear go); clear gx)
    | ((with_reducible apply ev_mth0); (focus clear go); (focus exact rfl); clear gx)
    | ((with_reducible apply ev_mth); (focus clear go); (focus exact rfl); (focus clear go); clear gx)
    | ((with_reducible apply ev_prm); (focus clear go); clear gx)
    | ((with_reducible apply ev_obin); (focus clear go); (focus clear go); clear gx)
    | ((with_reducible apply ev_onewK1); (focus clear go); (focus clear go); (focus exact rfl); clear gx)
    | ((with_reducible apply ev_onewK); (focus clear go); (focus clear go); (focus exact rfl); clear gx)
    | ((with_reducible apply isi_eq); (focus clear go); clear gx)
    | ((with_reducible apply ev_iter); (focus clear go); clear gx)
    | ((with_reducible apply ev_dcte); (focus clear go); clear gx)
    | ((with_reducible apply ev_tupB); (focus clear go); exact rfl)
    | ((with_reducible apply ev_lstB); (focus clear go); exact rfl)
    | ((with_reducible apply ev_neg); clear go)
    | ((with_reducible apply ev_not); clear go)
    | ((with_reducible apply ev_fmt); (focus clear go); clear gx)
    | ((with_reducible apply ev_fstr); clear go)
    | ((with_reducible apply ev_jcons); (focus clear go); (focus clear goside); clear go)
    | ((with_reducible apply ev_and2); (focus clear go); clear gob; first | clear go | (with_reducible exact rfl))
    | ((with_reducible apply ev_or2); (focus clear go); clear gob; first | clear go | (with_reducible exact rfl))
    | ((with_reducible apply ev_ite2); (focus clear go); clear gob; clear go)
    | ((with_reducible apply ev_join); (focus clear go); (focus clear go); clear gx)) else Lean.Macro.throwUnsupported
namespace HB
open PySem L2
end HB
open PySem L2 HB
local macro_rules | `(tactic| clear $x:ident) => if x.getId.eraseMacroScopes == `goq then `(tactic| (apply Eq.trans; (focus clear go); exact rfl)) else Lean.Macro.throwUnsupported
namespace HB
open PySem L2
end HB
open PySem L2 HB
local macro_rules | `(tactic| clear $x:ident) => if x.getId.eraseMacroScopes == `gos then `(tactic| first
    | ((with_reducible apply kk_asg1); (focus clear go))
    | ((with_reducible apply kk_asg); (focus clear go); (focus exact rfl))
    | ((with_reducible apply kk_par); (focus clear go); (focus clear go))
    | ((with_reducible apply kk_par3); (focus clear go); (focus clear go); (focus clear go))
    | ((with_reducible apply kk_ret); clear go)
    | ((with_reducible apply kk_if); (focus clear go); clear gob)
    | ((with_reducible apply kk_exp); (focus clear go))
    | ((with_reducible apply kk_expX); clear go)
    | ((with_reducible apply kk_retX); clear go)
    | ((with_reducible apply kk_asgX); clear go)
    | (with_reducible exact kk_rai0)
    | ((with_reducible apply kk_rai); (focus clear go); clear goside)
    | ((with_reducible apply kk_setf); (focus clear go); (focus clear go); (focus exact rfl))
    | ((with_reducible refine kk_nil ?_); first | (with_reducible exact rfl) | skip)) else Lean.Macro.throwUnsupported
namespace HB
open PySem L2
end HB
namespace HB
open PySem L2
theorem bx_abs {i : Int} {m : M} : bfD .abs [.int i] m = .ok (.int (i.natAbs : Int)) m := by
  simp only [bfD, absD]
  congr 2
  split <;> omega
theorem bx_int {i : Int} {m : M} : bfD .int [.int i] m = .ok (.int i) m := rfl
theorem bx_str {i : Int} {m : M} (h : i.natAbs.log2 < 1920) : bfD .str [.int i] m = .ok (.str (toString i)) m := by
  simp only [bfD, strD]; rw [if_pos h]
theorem asIntsM {α : Type} (f : α → Int) : ∀ S : List α, asInts (S.map fun s => D.int (f s)) = some (S.map f)
  | [] => rfl
  | s :: S => by simp only [List.map_cons, asInts, asIntsM f S]; rfl
theorem bx_sum {α : Type} {S : List α} {f : α → Int} {m : M} : bfD .sum [.lst (S.map fun s => .int (f s))] m = .ok (.int (S.map f).sum) m := by
  simp only [bfD, sumD, viewS, viewL, Option.bind_some, asIntsM f S]
theorem asBlsM {α : Type} (f : α → Bool) : ∀ S : List α, asBls (S.map fun s => D.bl (f s)) = some (S.map f)
  | [] => rfl
  | s :: S => by simp only [List.map_cons, asBls, asBlsM f S]; rfl
theorem bx_all {α : Type} {S : List α} {f : α → Bool} {m : M} : bfD .all [.lst (S.map fun s => .bl (f s))] m = .ok (.bl (S.all f)) m := by
  simp only [bfD, allD, viewS, viewL, Option.bind_some, asBlsM f S]
  simp [List.all_map, Function.comp_def]
theorem bx_tuple {xs : List D} {m : M} : bfD .tuple [.lst xs] m = .ok (.tup xs) m := rfl
theorem bx_len {xs : List D} {m : M} : bfD .len [.lst xs] m = .ok (.int xs.length) m := rfl
theorem bx_lenT {xs : List D} {m : M} : bfD .len [.tup xs] m = .ok (.int xs.length) m := rfl
theorem bx_listT {xs : List D} {m : M} : bfD .list [.tup xs] m = .ok (.lst xs) m := rfl
theorem bx_len_dD {S : List Str} {P : Str → D} {m : M} : bfD .len [dD S P] m = .ok (.int S.length) m := len_dD
theorem bx_list_dD {S : List Str} {P : Str → D} {m : M} : bfD .list [dD S P] m = .ok (.lst (S.map .str)) m := list_dD
theorem bx_dict_dD {S : List Str} {P : Str → D} {m : M} : bfD .dict [dD S P] m = .ok (dD S P) m := dict_dD
theorem bx_dict_lst {S : List Str} {P : Str → D} {m : M} (h : S.Nodup) : bfD .dict [.lst (S.map fun s => .tup [.str s, P s])] m = .ok (dD S P) m := dict_lst h
theorem bx_sorted_dD {S : List Str} {P : Str → D} {m : M} (h : S.length < 64) : bfD .sorted [dD S P] m = .ok (.lst ((sortS S).map .str)) m := sorted_dD h
theorem bx_sorted {S : List Str} {m : M} (h : S.length < 64) : bfD .sorted [.lst (S.map .str)] m = .ok (.lst ((sortS S).map .str)) m := sorted_lst h
theorem op_adS {x y : Str} {m : M} (h : x.length + y.length ≤ 1000000) : bopD .add (.str x) (.str y) m = .ok (.str (x ++ y)) m := by
  simp only [bopD, addD]; rw [if_pos (by rw [sizeLine_eq]; omega)]
theorem op_inD {s : Str} {S : List Str} {P : Str → D} {m : M} : copD .inn (.str s) (dD S P) m = .ok (.bl (decide (s ∈ S))) m := in_dD
theorem ix_tup {ds : List D} {v : Int} {x : D} {m : M} (h : atI ds v = some x) : ixD (.tup ds) (.int v) m = .ok x m := by simp only [ixD, viewD, viewQ, h]
theorem low0 {a b : Int} {m : M} : ixD (lowT a b) (.int 0) m = .ok (.int (a.fdiv (Int.gcd a b : Nat))) m := ix_tup rfl
theorem low1 {a b : Int} {m : M} : ixD (lowT a b) (.int 1) m = .ok (.int (b.fdiv (Int.gcd a b : Nat))) m := ix_tup rfl
end HB
open PySem L2 HB
local macro_rules | `(tactic| clear $x:ident) => if x.getId.eraseMacroScopes == `gx then `(tactic| first
    | (with_reducible exact bx_abs) | (with_reducible exact bx_int) | (with_reducible exact bx_sum) | (with_reducible exact bx_all) | (with_reducible exact bx_tuple) | (with_reducible exact bx_len) | (with_reducible exact bx_lenT) | (with_reducible exact bx_listT)
    | (with_reducible exact bx_len_dD) | (with_reducible exact bx_list_dD) | (with_reducible exact bx_dict_dD) | ((with_reducible refine bx_dict_lst ?_); clear goside) | ((with_reducible refine bx_sorted_dD ?_); clear goside) | ((with_reducible refine bx_sorted ?_); clear goside)
    | ((with_reducible refine bx_str ?_); clear goside) | ((with_reducible refine op_adS ?_); clear goside) | (with_reducible exact op_inD) | (with_reducible exact low0) | (with_reducible exact low1)) else Lean.Macro.throwUnsupported
namespace HB
open PySem L2
/-- numbers of moderate size -/
def bd (i : Int) : Prop := i.natAbs < 10 ^ 200
theorem bd.lg {i : Int} (h : bd i) : i.natAbs.log2 < 700 := log_lt (Nat.lt_of_lt_of_le h (by decide +kernel)) (by decide)
theorem bd.l9 {i : Int} (h : bd i) : i.natAbs.log2 < 9000 := Nat.lt_trans h.lg (by decide)
theorem bd.l19 {i : Int} (h : bd i) : i.natAbs.log2 < 1920 := Nat.lt_trans h.lg (by decide)
theorem bd.m2 {i j : Int} (h : bd i) (g : bd j) : i.natAbs.log2 + j.natAbs.log2 < 1000000 := by have := h.lg; have := g.lg; omega
theorem bd.dv {i : Int} {g : Nat} (h : bd i) : bd (i.fdiv (g : Int)) := by
  unfold bd at *
  refine Nat.lt_of_le_of_lt ?_ h
  rw [Int.fdiv_eq_ediv_of_nonneg _ (by omega)]
  exact Int.natAbs_ediv_le_natAbs i g
end HB
namespace K09
open PySem HB L2
/-! ### whole numbers -/
theorem wh_gcd (m : M) : ∀ (n : Nat) (a b : Int), b.natAbs < n → ∃ c : Int, whGo (evT [] (.cmp .ne (.var 1) (.int 0))) (evS [] (.cons (.par 0 1 (.var 1) (.bin .mod (.var 0) (.var 1))) .nil)) n [some (.int a), some (.int b)] m = .nx [some (.int c), some (.int 0)] m ∧ c.natAbs = Int.gcd a b
  | 0, _, _, h => absurd h (by omega)
  | n + 1, a, b, h => by
    have hc : evT [] (.cmp .ne (.var 1) (.int 0)) [some (.int a), some (.int b)] m = .ok (!decide (b = 0)) m := by
      unfold evT
      rw [ev_cmp (ev_var rfl) ev_int op_neI]; rfl
    by_cases hb : b = 0
    · subst hb
      refine ⟨a, ?_, by simp [Int.gcd]⟩
      rw [whGo, hc]; rfl
    · obtain ⟨c, e, g⟩ := wh_gcd m n b (a.fmod b) (by have := (gcd_step a b hb).1; omega)
      refine ⟨c, ?_, by rw [g]; exact (gcd_step a b hb).2⟩
      have hs : evS [] (.cons (.par 0 1 (.var 1) (.bin .mod (.var 0) (.var 1))) .nil) [some (.int a), some (.int b)] m = .nx [some (.int b), some (.int (a.fmod b))] m := by
        rw [k_of]
        refine kk_par (ev_var rfl) (ev_bin (ev_var rfl) (ev_var rfl) (op_md hb)) (kk_nil rfl)
      rw [whGo, hc, R.st_ok, if_pos (by simp [hb]), hs]
      exact e
theorem s_gcd {a b : Int} (h : bd b) {m : M} : F_divisor_of [.int a, .int b] m = .ok (.int (Int.gcd a b : Nat)) m := by
  obtain ⟨c, e, g⟩ := wh_gcd m (10 ^ 200 + 1) a b (by unfold bd at h; omega)
  clear gorun b_divisor_of
  · exact kk_whN e (kk_ret (ev_blt (ev_cons (ev_var rfl) ev_nil) bx_abs))
  · rw [← g]
theorem c_gcd {a b : Int} (h : bd b) {m : M} : callD F_divisor_of [.int a, .int b] m = .ok (.int (Int.gcd a b : Nat)) m := call_pure rfl (s_gcd h) rfl
theorem c_gcd2 {a b : Int} (h : bd b) {m : M} : callD F_greatest_common [.int a, .int b] m = .ok (.int (Int.gcd a b : Nat)) m := c_gcd h
end K09
open PySem L2 HB K09
local macro_rules | `(tactic| clear $x:ident) => if x.getId.eraseMacroScopes == `gx then `(tactic| first | ((with_reducible refine c_gcd ?_); clear goside) | ((with_reducible refine c_gcd2 ?_); clear goside)) else Lean.Macro.throwUnsupported
namespace K09
open PySem HB L2
theorem bd_gcd {a b : Int} (hb : b ≠ 0) (h : bd b) : bd (Int.gcd a b : Nat) := by
  unfold bd at *
  have := gcd_le (a := a) hb
  omega
theorem s_lowest {a b : Int} (h : bd b) (h0 : 0 < b) {m : M} : F_lowest_of [.int a, .int b] m = .ok (lowT a b) m := by
  have g := gcd_pos (a := a) (b := b) (by omega)
  have g1 : ((Int.gcd a b : Nat) : Int) ≠ 0 := by omega
  have g2 := (bd_gcd (a := a) (b := b) (by omega) h).l9
  clear gorun b_lowest_of
  clear gos
  clear gos
  clear gos
  clear gos
  exact rfl
theorem c_lowest {a b : Int} (h : bd b) (h0 : 0 < b) {m : M} : callD F_lowest_of [.int a, .int b] m = .ok (lowT a b) m := call_pure rfl (s_lowest h h0) rfl
end K09
open PySem L2 HB K09
local macro_rules | `(tactic| clear $x:ident) => if x.getId.eraseMacroScopes == `gx then `(tactic| ((with_reducible refine c_lowest ?_ ?_); clear goside; clear goside)) else Lean.Macro.throwUnsupported
namespace K09
open PySem HB L2
end K09
namespace K09
open PySem HB L2
theorem wh_low (e0 e1 e2 : Option D) (m : M) : ∀ (n : Nat) (a b : Nat), b < n → whGo (evT [] (.cmp .gt (.var 4) (.int 0))) (evS [] (.cons (.par 3 4 (.var 4) (.bin .mod (.blt .int (.cons (.var 3) .nil)) (.var 4))) .nil)) n [e0, e1, e2, some (.int (a : Int)), some (.int (b : Int))] m = .nx [e0, e1, e2, some (.int (Nat.gcd a b : Nat)), some (.int 0)] m
  | 0, _, _, h => absurd h (by omega)
  | n + 1, a, b, h => by
    have hc : evT [] (.cmp .gt (.var 4) (.int 0)) [e0, e1, e2, some (.int (a : Int)), some (.int (b : Int))] m = .ok (decide ((0 : Int) < b)) m := by
      unfold evT
      rw [ev_cmp (ev_var rfl) ev_int op_gtI]; rfl
    by_cases hb : b = 0
    · subst hb
      rw [whGo, hc, R.st_ok]
      simp
    · have e := wh_low e0 e1 e2 m n b (a % b) (by have := Nat.mod_lt a (Nat.pos_of_ne_zero hb); omega)
      have hs : evS [] (.cons (.par 3 4 (.var 4) (.bin .mod (.blt .int (.cons (.var 3) .nil)) (.var 4))) .nil) [e0, e1, e2, some (.int (a : Int)), some (.int (b : Int))] m = .nx [e0, e1, e2, some (.int (b : Int)), some (.int ((a % b : Nat) : Int))] m := by
        rw [k_of]
        have h1 : bopD .mod (.int (a : Int)) (.int (b : Int)) m = .ok (.int ((a % b : Nat) : Int)) m := by
          rw [op_md (by omega)]
          congr 2
          rw [Int.fmod_eq_emod_of_nonneg _ (by omega)]; rfl
        exact kk_par (ev_var rfl) (ev_bin (ev_blt (ev_cons (ev_var rfl) ev_nil) bx_int) (ev_var rfl) h1) (kk_nil rfl)
      rw [whGo, hc, R.st_ok, if_pos (by simp; omega), hs]
      dsimp only
      rw [e, Nat.gcd_comm b, ← Nat.gcd_rec, Nat.gcd_comm]
theorem s_low {a b : Int} (ha : bd a) (h : bd b) (h0 : 0 < b) {m : M} : F_law_low [.int a, .int b] m = .ok (lowT a b) m := by
  have g := gcd_pos (a := a) (b := b) (by omega)
  have g1 : ((Nat.gcd a.natAbs b.natAbs : Nat) : Int) ≠ 0 := by unfold Int.gcd at g; omega
  have g2 : ((Nat.gcd a.natAbs b.natAbs : Nat) : Int).natAbs.log2 < 9000 := (bd_gcd (a := a) (b := b) (by omega) h).l9
  have b1 : bd 1 := by unfold bd; decide +kernel
  have d1 := ha.dv (g := Nat.gcd a.natAbs b.natAbs)
  have d2 := h.dv (g := Nat.gcd a.natAbs b.natAbs)
  have d3 := d1.m2 b1
  have d4 := d2.m2 b1
  clear gorun b_law_low
  · clear gos
    refine kk_whN (wh_low _ _ _ _ _ _ _ (by unfold bd at h; omega)) ?_
    clear gos
    clear gos
  · simp only [Int.mul_one, lowT, Int.gcd]
theorem c_low {a b : Int} (ha : bd a) (h : bd b) (h0 : 0 < b) {m : M} : callD F_law_low [.int a, .int b] m = .ok (lowT a b) m := call_pure rfl (s_low ha h h0) rfl
end K09
open PySem L2 HB K09
local macro_rules | `(tactic| clear $x:ident) => if x.getId.eraseMacroScopes == `gx then `(tactic| ((with_reducible refine c_low ?_ ?_ ?_); (focus clear goside); (focus clear goside); clear goside)) else Lean.Macro.throwUnsupported
namespace K09
open PySem HB L2
/-! ### texts of fractions -/
def fracS (a b : Int) : Str := if b = 1 then toString a else toString a ++ ("/" : Str) ++ toString b
theorem str_len {i : Int} (h : bd i) : (toString i : Str).length ≤ 2000 := by
  have := PyProof.Rows.int_text_len_1921 h.l19
  exact Nat.le_trans this (by decide)
theorem app_len (x y : Str) : (x ++ y).length = x.length + y.length := by
  show (x.cps ++ y.cps).size = _
  simp [Str.length]
theorem emp_app (x : Str) : Str.empty ++ x = x := by
  show (⟨#[] ++ x.cps⟩ : Str) = x
  simp
theorem frac_len {a b : Int} (ha : bd a) (hb : bd b) : (fracS a b).length ≤ 4001 := by
  have := str_len ha
  have := str_len hb
  unfold fracS
  split
  · omega
  · rw [app_len, app_len]
    have : (("/" : Str)).length = 1 := rfl
    omega
theorem fx_int {i : Int} {m : M} (h : i.natAbs.log2 < 1920) : fmtD (.int i) m = .ok (.str (toString i)) m := by
  simp only [fmtD]; rw [if_pos h]
theorem fx_str {x : Str} {m : M} (h : x.length ≤ 1000000) : fmtD (.str x) m = .ok (.str x) m := by
  simp only [fmtD]; rw [if_pos (by rw [sizeLine_eq]; omega)]
end K09
open PySem L2 HB K09
local macro_rules | `(tactic| clear $x:ident) => if x.getId.eraseMacroScopes == `gx then `(tactic| first | ((with_reducible refine fx_int ?_); clear goside) | ((with_reducible refine fx_str ?_); clear goside)) else Lean.Macro.throwUnsupported
namespace K09
open PySem HB L2
theorem s_text {a b : Int} (ha : bd a) (hb : bd b) {m : M} : F_text_of [.tup [.int a, .int b]] m = .ok (.str (fracS a b)) m := by
  have l1 := ha.l19
  have l2 := hb.l19
  have t1 := str_len ha
  have t2 := str_len hb
  have t3 : (("/" : Str)).length = 1 := rfl
  have t4 : (Str.empty).length = 0 := rfl
  by_cases h : b = 1
  · subst h
    clear gorun b_text_of
    · clear gos
      clear gos
    · simp [fracS]
  · clear gorun b_text_of
    · clear gos
      apply kk_ret
      apply ev_ite2
      · clear go
      · clear gob
        apply ev_fstr
        apply ev_jcons
        · clear go
        · rw [app_len]; omega
        · apply ev_jcons
          · clear go
          · rw [app_len, app_len]; omega
          · apply ev_jcons
            · clear go
            · rw [app_len, app_len, app_len]; omega
            · clear go
    · rw [emp_app]; simp [fracS, h]
theorem c_text {a b : Int} (ha : bd a) (hb : bd b) {m : M} : callD F_text_of [lowT a b] m = .ok (.str (fracS (a.fdiv (Int.gcd a b : Nat)) (b.fdiv (Int.gcd a b : Nat)))) m := call_pure rfl (s_text ha.dv hb.dv) rfl
end K09
open PySem L2 HB K09
local macro_rules | `(tactic| clear $x:ident) => if x.getId.eraseMacroScopes == `gx then `(tactic| ((with_reducible refine c_text ?_ ?_); (focus clear goside); clear goside)) else Lean.Macro.throwUnsupported
namespace K09
open PySem HB L2
end K09
namespace HB
open PySem L2
theorem isi_T {d : D} {c : String} {m : M} (h : plainD d = true) (hc : c ∈ clsNames) (hb : isiB (tyP d) c = true) : isiD d c m = .ok (.bl true) m := by rw [isi_plain h hc, hb]
theorem isi_F {d : D} {c : String} {m : M} (h : plainD d = true) (hc : c ∈ clsNames) (hb : isiB (tyP d) c = false) : isiD d c m = .ok (.bl false) m := by rw [isi_plain h hc, hb]
end HB
open PySem L2 HB
local macro_rules | `(tactic| clear $x:ident) => if x.getId.eraseMacroScopes == `gx then `(tactic| first | ((with_reducible apply isi_T); (focus exact rfl); (focus decide); exact rfl) | ((with_reducible apply isi_F); (focus exact rfl); (focus decide); exact rfl)) else Lean.Macro.throwUnsupported
namespace HB
open PySem L2
theorem ev_chainP {fs : List Sem} {env : Env} {m m1 m2 : M} {o p : COp} {a b c : T} {d e g : D} {x y : Bool} (ha : evE fs a env m = .ok d m1) (hb : evE fs b env m1 = .ok e m2) (h : copD o d e m2 = .ok (.bl x) m2) (hc : evE fs c env m2 = .ok g m2) (hp : copD p e g m2 = .ok (.bl y) m2) : evE fs (.chain o p a b c) env m = .ok (.bl (x && y)) m2 := by
  simp only [evE, ha, hb, R.bind_ok, h]
  cases x with
  | true => simp only [hc, R.bind_ok, hp, Bool.true_and]
  | false => simp only [Bool.false_and]
end HB
open PySem L2 HB
local macro_rules | `(tactic| clear $x:ident) => if x.getId.eraseMacroScopes == `go then `(tactic| ((with_reducible apply ev_chainP); (focus clear go); (focus clear go); (focus clear gx); (focus clear go); clear gx)) else Lean.Macro.throwUnsupported
namespace HB
open PySem L2
/-! ### names -/
def isNm (s : Str) : Bool := decide (1 ≤ s.length ∧ s.length ≤ 8) && s.cps.toList.all fun c => decide (97 ≤ c ∧ c ≤ 122)
theorem bx_lenS {x : Str} {m : M} (h : x.length ≤ 1000000) : bfD .len [.str x] m = .ok (.int (x.length : Int)) m := by
  simp only [bfD, lenD]; rw [if_pos (by rw [sizeLine_eq]; omega)]
theorem op_leS {x y : Str} {m : M} : copD .le (.str x) (.str y) m = .ok (.bl (!decide (y.cps.toList < x.cps.toList))) m := rfl
theorem op_ltS {x y : Str} {m : M} : copD .lt (.str x) (.str y) m = .ok (.bl (decide (x.cps.toList < y.cps.toList))) m := rfl
end HB
open PySem L2 HB
local macro_rules | `(tactic| clear $x:ident) => if x.getId.eraseMacroScopes == `gx then `(tactic| first | ((with_reducible refine bx_lenS ?_); clear goside) | (with_reducible exact op_leS) | (with_reducible exact op_ltS)) else Lean.Macro.throwUnsupported
namespace HB
open PySem L2
theorem lex1 (a b : Nat) : ([a] < [b]) ↔ a < b := by
  simp [List.cons_lt_cons_iff]
theorem viewI_str {x : Str} {m : M} : viewI (.str x) m = some (x.cps.toList.map fun c => D.str ⟨#[c]⟩) := rfl
/-- a comprehension over the image of a list -/
theorem lcM {α : Type} {fs : List Sem} {env : Env} {m : M} {i : Nat} {x : Str} {it e : T} {d : D} {S : List α} {f : α → D} {P : α → D} (hi : evE fs it env m = .ok d m) (hv : viewI d m = some (S.map f)) (hl : S.length ≤ 1000000) (h : ∀ s ∈ S, evE fs e (env.set i (some (f s))) m = .ok (P s) m) :
    evE fs (.lc [(x, i)] (.name i) it .noP e) env m = .ok (.lst (S.map P)) m := by
  refine ev_lc hi hv (by simpa using hl) ?_
  have np : isNoP .noP = true := rfl
  have hgo : ∀ (S : List α) (acc : List D), (∀ s ∈ S, evE fs e (env.set i (some (f s))) m = .ok (P s) m) → lcGo (lcSt fs [(x, i)] (.name i) .noP e env) (S.map f) acc m = .ok (acc ++ S.map P) m := by
    intro S
    induction S with
    | nil => intro acc _; simp [lcGo]
    | cons s S ih =>
      intro acc h
      have e1 : lcSt fs [(x, i)] (.name i) .noP e env (f s) m = .ok (some (P s)) m := by
        simp only [lcSt, asgG, List.map_cons, List.map_nil, wipeD, List.set_set, np, if_true, R.bind_ok, h s List.mem_cons_self]
      simp only [List.map_cons, lcGo, e1]
      rw [ih _ fun z hz => h z (List.mem_cons_of_mem _ hz)]
      simp
  simpa using hgo S [] h
/-- .. with a condition -/
theorem lcC {α : Type} {fs : List Sem} {env : Env} {m : M} {i : Nat} {x : Str} {it c e : T} {d : D} {S : List α} {f : α → D} {p : α → Bool} {P : α → D} (hc : isNoP c = false) (hi : evE fs it env m = .ok d m) (hv : viewI d m = some (S.map f)) (hl : S.length ≤ 1000000) (h : ∀ s ∈ S, evE fs c (env.set i (some (f s))) m = .ok (.bl (p s)) m) (he : ∀ s ∈ S, p s = true → evE fs e (env.set i (some (f s))) m = .ok (P s) m) :
    evE fs (.lc [(x, i)] (.name i) it c e) env m = .ok (.lst ((S.filter p).map P)) m := by
  refine ev_lc hi hv (by simpa using hl) ?_
  have hgo : ∀ (S : List α) (acc : List D), (∀ s ∈ S, evE fs c (env.set i (some (f s))) m = .ok (.bl (p s)) m) → (∀ s ∈ S, p s = true → evE fs e (env.set i (some (f s))) m = .ok (P s) m) → lcGo (lcSt fs [(x, i)] (.name i) c e env) (S.map f) acc m = .ok (acc ++ (S.filter p).map P) m := by
    intro S
    induction S with
    | nil => intro acc _ _; simp [lcGo]
    | cons s S ih =>
      intro acc h he
      cases hp : p s with
      | true =>
        have e1 : lcSt fs [(x, i)] (.name i) c e env (f s) m = .ok (some (P s)) m := by
          simp only [lcSt, asgG, List.map_cons, List.map_nil, wipeD, List.set_set, hc, Bool.false_eq_true, if_false, R.bind_ok, h s List.mem_cons_self, truth_bl, hp, if_true, he s List.mem_cons_self hp]
        simp only [List.map_cons, lcGo, e1]
        rw [ih _ (fun z hz => h z (List.mem_cons_of_mem _ hz)) (fun z hz => he z (List.mem_cons_of_mem _ hz))]
        simp [hp]
      | false =>
        have e1 : lcSt fs [(x, i)] (.name i) c e env (f s) m = .ok none m := by
          simp only [lcSt, asgG, List.map_cons, List.map_nil, wipeD, List.set_set, hc, Bool.false_eq_true, if_false, R.bind_ok, h s List.mem_cons_self, truth_bl, hp]
        simp only [List.map_cons, lcGo, e1]
        rw [ih _ (fun z hz => h z (List.mem_cons_of_mem _ hz)) (fun z hz => he z (List.mem_cons_of_mem _ hz))]
        simp [hp]
  simpa using hgo S [] h he
end HB
namespace K09
open PySem HB L2
theorem az (c : Nat) : (!decide ((⟨#[c]⟩ : Str).cps.toList < ("a" : Str).cps.toList) && !decide (("z" : Str).cps.toList < (⟨#[c]⟩ : Str).cps.toList)) = decide (97 ≤ c ∧ c ≤ 122) := by
  have e1 : ("a" : Str).cps.toList = [97] := by decide +kernel
  have e2 : ("z" : Str).cps.toList = [122] := by decide +kernel
  rw [e1, e2, Bool.eq_iff_iff]
  simp only [lex1, Bool.and_eq_true, Bool.not_eq_true', decide_eq_false_iff_not, decide_eq_true_eq]
  omega
theorem s_is_name {s : Str} (hl : s.length ≤ 1000000) {m : M} : F_is_name [.str s] m = .ok (.bl (isNm s)) m := by
  by_cases h : 1 ≤ s.length ∧ s.length ≤ 8
  · clear gorun b_is_name
    · apply kk_ret
      apply ev_and2
      · clear go
      · clear gob
        apply ev_and2
        · clear go
        · apply gb_pos
          · simp; omega
          · refine ev_blt (ev_cons (lcM (P := fun c => .bl (decide (97 ≤ c ∧ c ≤ 122))) (ev_var rfl) viewI_str ?_ ?_) ev_nil) bx_all
            · have : s.cps.toList.length = s.length := by simp [Str.length]
              omega
            · intro c hc
              apply Eq.trans
              · clear go
              · rw [az]
    · simp [isNm, h]
  · clear gorun b_is_name
    · apply kk_ret
      apply ev_and2
      · clear go
      · clear gob
        apply ev_and2
        · clear go
        · apply gb_neg
          · rw [← Bool.not_eq_true]
            simp only [Bool.and_eq_true, decide_eq_true_eq]
            omega
          · exact rfl
    · have : decide (1 ≤ s.length ∧ s.length ≤ 8) = false := decide_eq_false h
      simp only [isNm, this, Bool.false_and]
theorem d_is_name {s : Str} (hl : s.length ≤ 1000000) {m : M} : callD F_is_name [.str s] m = .ok (.bl (isNm s)) m := call_pure rfl (s_is_name hl) rfl
theorem nm_len {s : Str} (h : isNm s = true) : 1 ≤ s.length ∧ s.length ≤ 8 := by
  simp only [isNm, Bool.and_eq_true, decide_eq_true_eq] at h
  exact h.1
theorem c_name {s : Str} (h : isNm s = true) {m : M} : callD F_is_name [.str s] m = .ok (.bl true) m := by
  rw [d_is_name (by have := nm_len h; omega), h]
/-- what is no text is no name -/
theorem s_no_name {d : D} (h : plainD d = true) (hs : isiB (tyP d) "str" = false) {m : M} : F_is_name [d] m = .ok (.bl false) m := by
  have e : isiD d "str" m = .ok (.bl false) m := isi_F h (by decide) hs
  clear gorun b_is_name
  · clear gos
  · exact rfl
theorem c_no_name {d : D} (h : plainD d = true) (hs : isiB (tyP d) "str" = false) (hn : noref d = true) {m : M} : callD F_is_name [d] m = .ok (.bl false) m := call_pure (by simp [norefL, hn]) (s_no_name h hs) rfl
end K09
open PySem L2 HB K09
local macro_rules | `(tactic| clear $x:ident) => if x.getId.eraseMacroScopes == `gx then `(tactic| first | ((with_reducible refine c_name ?_); clear goside)) else Lean.Macro.throwUnsupported
namespace K09
open PySem HB L2
/-! ### integers -/
theorem s_is_int {i : Int} {m : M} : F_is_integer [.int i] m = .ok (.bl (decide (i.natAbs < 10 ^ 60))) m := by
  clear gorun b_is_integer
  · clear gos
  · congr 2
    rw [Bool.eq_iff_iff]
    simp only [Bool.and_eq_true, decide_eq_true_eq]
    omega
theorem c_is_int {i : Int} (h : i.natAbs < 10 ^ 60) {m : M} : callD F_is_integer [.int i] m = .ok (.bl true) m := by
  have e := s_is_int (i := i) (m := [])
  rw [decide_eq_true (p := i.natAbs < 10 ^ 60) h] at e
  exact call_pure rfl e rfl
theorem c_is_intF {i : Int} (h : ¬ i.natAbs < 10 ^ 60) {m : M} : callD F_is_integer [.int i] m = .ok (.bl false) m := by
  have e := s_is_int (i := i) (m := [])
  rw [decide_eq_false (p := i.natAbs < 10 ^ 60) h] at e
  exact call_pure rfl e rfl
end K09
open PySem L2 HB K09
local macro_rules | `(tactic| clear $x:ident) => if x.getId.eraseMacroScopes == `gx then `(tactic| first | ((with_reducible refine c_is_int ?_); clear goside)) else Lean.Macro.throwUnsupported
namespace K09
open PySem HB L2
theorem view_dDI {S : List Str} {P : Str → D} {m : M} : viewI (dD S P) m = some (S.map .str) := by
  show (keysOf _).map keysL = _
  rw [keys_dD]
  simp [keysL, eD, keyD, Function.comp_def]
/-- plain charges -/
structure Pl (S : List Str) (f : Str → Int) (u : Nat) : Prop where
  nd : S.Nodup
  l0 : 1 ≤ S.length
  l8 : S.length ≤ 8
  nm : ∀ s ∈ S, isNm s = true
  fb : ∀ s ∈ S, (f s).natAbs < 10 ^ 50
  u0 : 0 < u
  ub : u < 10 ^ 50
theorem bd_of {i : Int} (h : i.natAbs < 10 ^ 50) : bd i := Nat.lt_trans h (by decide +kernel)
theorem bd_of9 {i : Int} (h : i.natAbs < 10 ^ 190) : bd i := Nat.lt_trans h (by decide +kernel)
theorem s_are_pays {S : List Str} {f : Str → Int} {u : Nat} (h : Pl S f u) {m : M} : F_are_pays [dI S f] m = .ok (.bl true) m := by
  have h8 := h.l8
  have h0 := h.l0
  have e1 : isiD (dI S f) "dict" m = .ok (.bl true) m := isi_T rfl (by decide) rfl
  clear gorun b_are_pays
  · apply kk_if
    · apply ev_or2
      · clear go
      · apply gb_neg
        · rfl
        · apply ev_not
          clear go
    · apply gb_neg
      · simp; omega
      · clear gos
        refine kk_ret (ev_blt (ev_cons (lcM (P := fun _ => .bl true) (ev_var rfl) view_dDI (by omega) ?_) ev_nil) bx_all)
        intro s hs
        have n1 := h.nm s hs
        have n2 : (f s).natAbs < 10 ^ 60 := Nat.lt_trans (h.fb s hs) (by decide +kernel)
        clear go
  · simp
end K09
namespace K09
open PySem HB L2
theorem it_vals {S : List Str} {P : Str → D} {m : M} : itD .vals [dD S P] m = .ok (.lst (S.map P)) m := by
  have e := keys_dD (P := P) S
  simp only [itD, dD, e, vals_eD]
end K09
open PySem L2 HB K09
local macro_rules | `(tactic| clear $x:ident) => if x.getId.eraseMacroScopes == `gx then `(tactic| (with_reducible exact it_vals)) else Lean.Macro.throwUnsupported
namespace K09
open PySem HB L2
theorem for_gcd {e0 e1 e2 e5 : Option D} {f : Str → Int} {m : M} : ∀ (T : List Str) (g : Nat) (x : Option D), (∀ s ∈ T, bd (f s)) → ∃ y, forGo (frStep [F_greatest_common] (.name 4) (.cons (.asg (.name 3) (.call 0 (.cons (.var 3) (.cons (.var 4) .nil)))) .nil)) (T.map fun s => .int (f s)) [e0, e1, e2, some (.int (g : Int)), x, e5] m = .nx [e0, e1, e2, some (.int (gS T f g : Nat)), y, e5] m
  | [], g, x, _ => ⟨x, rfl⟩
  | s :: T, g, x, h => by
    obtain ⟨y, e⟩ := for_gcd (e0 := e0) (e1 := e1) (e2 := e2) (e5 := e5) (m := m) T (Int.gcd (g : Int) (f s)) (some (.int (f s))) fun t ht => h t (List.mem_cons_of_mem _ ht)
    refine ⟨y, ?_⟩
    have b := h s List.mem_cons_self
    have st : frStep [F_greatest_common] (.name 4) (.cons (.asg (.name 3) (.call 0 (.cons (.var 3) (.cons (.var 4) .nil)))) .nil) (.int (f s)) [e0, e1, e2, some (.int (g : Int)), x, e5] m = .nx [e0, e1, e2, some (.int (Int.gcd (g : Int) (f s) : Nat)), some (.int (f s)), e5] m := by
      unfold frStep
      simp only [asgG]
      rw [k_of]
      clear gos
      clear gos
      rfl
    simp only [List.map_cons, forGo, st]
    exact e
theorem gS_le {f : Str → Int} {u : Nat} (h : 0 < u) (S : List Str) : gS S f u ≤ u := Nat.le_of_dvd h ((gS_dvd (d := gS S f u)).mp (Nat.dvd_refl _)).1
def rq (S : List Str) (f : Str → Int) (u : Nat) (s : Str) : Int := (f s).fdiv (gS S f u : Nat)
def rv (S : List Str) (f : Str → Int) (u : Nat) : Nat := u / gS S f u
def pays (S : List Str) (q : Str → Int) (v : Int) : D := .obj "Pays" [("own_pays", dI S q), ("own_unit", .int v)]
def chg (S : List Str) (q : Str → Int) (v : Int) : D := .obj "Charge" [("own_pays", dI S q), ("own_unit", .int v), ("own_things", .tup (S.map .str))]
/-- without the bound of eight things -/
structure Pm (S : List Str) (f : Str → Int) (u : Nat) : Prop where
  nd : S.Nodup
  l8 : S.length ≤ 8
  fb : ∀ s ∈ S, bd (f s)
  u0 : 0 < u
  ub : bd u
theorem Pl.pm {S : List Str} {f : Str → Int} {u : Nat} (h : Pl S f u) : Pm S f u := ⟨h.nd, h.l8, fun s hs => bd_of (h.fb s hs), h.u0, bd_of (by have := h.ub; omega)⟩
theorem s_Pays {S : List Str} {f : Str → Int} {u : Nat} (h : Pm S f u) : F_Pays___init [.ref 0, dI S f, .int (u : Int)] [.ins "Pays" []] = .ok .non [.ins "Pays" [("own_pays", dI (sortS S) (rq S f u)), ("own_unit", .int (rv S f u))]] := by
  have h8 := h.l8
  have gp := gS_pos (f := f) (S := S) h.u0
  have gl := gS_le (f := f) h.u0 S
  have g1 : ((gS S f u : Nat) : Int) ≠ 0 := by omega
  have gb : bd (gS S f u : Nat) := by
    have := h.ub
    unfold bd at *
    omega
  have g2 := gb.l9
  have hp := sortS_perm S
  obtain ⟨y, e⟩ := for_gcd (e0 := some (.ref 0)) (e1 := some (dI S f)) (e2 := some (.int (u : Int))) (e5 := none) (f := f) (m := [.ins "Pays" []]) S u none h.fb
  clear gorunN b_Pays___init
  focus clear gos
  focus apply kk_frN
  focus clear go
  focus exact rfl
  focus exact e
  focus apply kk_setf
  · apply dcN (P := fun s => .int (rq S f u s)) (S := sortS S)
    · clear go
    · rfl
    · rw [hp.length_eq]; omega
    · exact hp.nodup_iff.mpr h.nd
    · simp
    · intro s hs
      have hs' := hp.mem_iff.mp hs
      clear goq
  · clear go
  · exact rfl
  · clear gos
    clear gos
  · have ed : (u : Int).fdiv (gS S f u : Nat) = ((rv S f u : Nat) : Int) := by
      unfold rv
      rw [Int.fdiv_eq_ediv_of_nonneg _ (by omega)]
      rfl
    rw [ed]
    exact rfl
theorem noref_dI' {S : List Str} {f : Str → Int} : noref (dI S f) = true := noref_dI
theorem d_Pays {S : List Str} {f : Str → Int} {u : Nat} (h : Pm S f u) {m : M} : mkD F_Pays___init "Pays" [dI S f, .int (u : Int)] m = .ok (pays (sortS S) (rq S f u) (rv S f u)) m := by
  unfold mkD
  rw [if_pos (by simp [norefL, noref_dI', noref]), s_Pays h]
  dsimp only
  rw [if_pos (by simp [norefF, noref_dI', noref])]
  rfl
theorem mr_fld {fs : List HB.Sem} {f : Str} {cs : List Str} {c : Str} {gs : List (Str × D)} {v : D} {m : M} (hc : cs.contains c = true) (h : gs.lookup f = some v) : mrD fs (.ofld f cs) (.obj c gs) [] m = .ok v m := by
  simp only [mrD, insD, hc, if_true, h]
theorem fp_pays {fs : List HB.Sem} {S : List Str} {q : Str → Int} {v : Int} {m : M} : mrD fs (.ofld "own_pays" ["Pays", "Charge"]) (pays S q v) [] m = .ok (dI S q) m := mr_fld (by decide +kernel) rfl
theorem fp_unit {fs : List HB.Sem} {S : List Str} {q : Str → Int} {v : Int} {m : M} : mrD fs (.ofld "own_unit" ["Pays", "Charge"]) (pays S q v) [] m = .ok (.int v) m := mr_fld (by decide +kernel) rfl
theorem fc_pays {fs : List HB.Sem} {S : List Str} {q : Str → Int} {v : Int} {m : M} : mrD fs (.ofld "own_pays" ["Pays", "Charge"]) (chg S q v) [] m = .ok (dI S q) m := mr_fld (by decide +kernel) rfl
theorem fc_unit {fs : List HB.Sem} {S : List Str} {q : Str → Int} {v : Int} {m : M} : mrD fs (.ofld "own_unit" ["Pays", "Charge"]) (chg S q v) [] m = .ok (.int v) m := mr_fld (by decide +kernel) rfl
theorem fc_things {fs : List HB.Sem} {S : List Str} {q : Str → Int} {v : Int} {m : M} : mrD fs (.ofld "own_things" ["Charge"]) (chg S q v) [] m = .ok (.tup (S.map .str)) m := mr_fld (by decide +kernel) rfl
theorem ip_T {fs : List HB.Sem} {S : List Str} {q : Str → Int} {v : Int} {m : M} : mrD fs (.isO "Pays" ["Pays", "Charge"]) (pays S q v) [] m = .ok (.bl true) m := by kernel_rfl
theorem ip_d {fs : List HB.Sem} {S : List Str} {P : Str → D} {m : M} : mrD fs (.isO "Pays" ["Pays", "Charge"]) (dD S P) [] m = .ok (.bl false) m := by kernel_rfl
theorem ic_c {fs : List HB.Sem} {S : List Str} {q : Str → Int} {v : Int} {m : M} : mrD fs (.isO "Charge" ["Pays", "Charge"]) (chg S q v) [] m = .ok (.bl true) m := by kernel_rfl
end K09
open PySem L2 HB K09
local macro_rules | `(tactic| clear $x:ident) => if x.getId.eraseMacroScopes == `gx then `(tactic| first | (with_reducible exact fp_pays) | (with_reducible exact fp_unit) | (with_reducible exact fc_pays) | (with_reducible exact fc_unit) | (with_reducible exact fc_things) | (with_reducible exact ip_T) | (with_reducible exact ip_d) | (with_reducible exact ic_c)) else Lean.Macro.throwUnsupported
namespace K09
open PySem HB L2
theorem nr_pays {S : List Str} {q : Str → Int} {v : Int} : noref (pays S q v) = true := by
  simp [pays, noref, norefF, noref_dI']
theorem nr_tup (S : List Str) : norefL (S.map D.str) = true := by
  induction S with
  | nil => rfl
  | cons s S ih => simp [norefL, noref, ih]
theorem nr_chg {S : List Str} {q : Str → Int} {v : Int} : noref (chg S q v) = true := by
  simp [chg, noref, norefF, noref_dI', nr_tup]
theorem px_onew {fs : List HB.Sem} {c : Str} {j : Nat} {ds : List D} {sem : HB.Sem} {r : HB.R D} {m : M} (hj : fs[j]? = some sem) (h : mkD sem c ds m = r) : HB.prD fs (.onew c j) ds m = r := by
  cases ds with
  | nil => simp only [HB.prD, hj, h]
  | cons d ds => simp only [HB.prD, hj, h]
theorem px_onewD {fs : List HB.Sem} {c : Str} {j : Nat} {d : Int} {a : D} {sem : HB.Sem} {r : HB.R D} {m : M} (hj : fs[j]? = some sem) (h : mkD sem c [a, .int d] m = r) : HB.prD fs (.onewD c j d) [a] m = r := by
  simp only [HB.prD, hj, List.cons_append, List.nil_append, h]
end K09
open PySem L2 HB K09
local macro_rules | `(tactic| clear $x:ident) => if x.getId.eraseMacroScopes == `gx then `(tactic| first | ((with_reducible apply px_onew); (focus exact rfl); clear gx) | ((with_reducible apply px_onewD); (focus exact rfl); clear gx) | ((with_reducible refine d_Pays ?_); clear goside)) else Lean.Macro.throwUnsupported
namespace K09
open PySem HB L2
theorem s_checked {S : List Str} {f : Str → Int} {u : Nat} (h : Pl S f u) {m : M} : F_checked_pays [dI S f, .int (u : Int)] m = .ok (pays (sortS S) (rq S f u) (rv S f u)) m := by
  have e1 : callD F_are_pays [dI S f] m = .ok (.bl true) m := call_pure (by simp [norefL, noref_dI']) (s_are_pays h) rfl
  have u0 := h.u0
  have ub : ((u : Nat) : Int).natAbs < 10 ^ 60 := by
    rw [Int.natAbs_natCast]
    exact Nat.lt_trans h.ub (by decide +kernel)
  have e2 := d_Pays h.pm (m := m)
  clear gorun b_checked_pays
  · clear gos
    clear gos
    clear gos
    clear gos
    clear gos
  · exact rfl
theorem d_checked {S : List Str} {f : Str → Int} {u : Nat} (h : Pl S f u) {m : M} : callD F_checked_pays [dI S f, .int (u : Int)] m = .ok (pays (sortS S) (rq S f u) (rv S f u)) m := call_pure (by simp [norefL, noref_dI', noref]) (s_checked h) nr_pays
end K09
open PySem L2 HB K09
local macro_rules | `(tactic| clear $x:ident) => if x.getId.eraseMacroScopes == `gx then `(tactic| ((with_reducible refine d_checked ?_); clear goside)) else Lean.Macro.throwUnsupported
namespace K09
open PySem HB L2
theorem s_Charge1 {S : List Str} {f : Str → Int} {u : Nat} (h : Pl S f u) : F_Charge___init [.ref 0, dI S f, .int (u : Int)] [.ins "Charge" []] = .ok .non [.ins "Charge" [("own_pays", dI (sortS S) (rq S f u)), ("own_unit", .int (rv S f u)), ("own_things", .tup ((sortS S).map .str))]] := by
  clear gorunN b_Charge___init
  · clear gos
    clear gos
    clear gos
    clear gos
    clear gos
  · exact rfl
theorem s_Charge2 {S : List Str} {q : Str → Int} {v w : Int} : F_Charge___init [.ref 0, pays S q v, .int w] [.ins "Charge" []] = .ok .non [.ins "Charge" [("own_pays", dI S q), ("own_unit", .int v), ("own_things", .tup (S.map .str))]] := by
  clear gorunN b_Charge___init
  · clear gos
    clear gos
    clear gos
    clear gos
    clear gos
  · exact rfl
theorem d_Charge1 {S : List Str} {f : Str → Int} {u : Nat} (h : Pl S f u) {m : M} : mkD F_Charge___init "Charge" [dI S f, .int (u : Int)] m = .ok (chg (sortS S) (rq S f u) (rv S f u)) m := by
  unfold mkD
  rw [if_pos (by simp [norefL, noref_dI', noref]), s_Charge1 h]
  dsimp only
  rw [if_pos (by simp [norefF, noref_dI', noref, nr_tup])]
  rfl
theorem d_Charge2 {S : List Str} {q : Str → Int} {v w : Int} {m : M} : mkD F_Charge___init "Charge" [pays S q v, .int w] m = .ok (chg S q v) m := by
  unfold mkD
  rw [if_pos (by simp [norefL, nr_pays, noref]), s_Charge2]
  dsimp only
  rw [if_pos (by simp [norefF, noref_dI', noref, nr_tup])]
  rfl
end K09
open PySem L2 HB K09
local macro_rules | `(tactic| clear $x:ident) => if x.getId.eraseMacroScopes == `gx then `(tactic| first | ((with_reducible refine d_Charge1 ?_); clear goside) | (with_reducible exact d_Charge2)) else Lean.Macro.throwUnsupported
namespace K09
open PySem HB L2
theorem s_charge_with {S : List Str} {f : Str → Int} {u : Nat} (h : Pm S f u) {m : M} : F_charge_with [dI S f, .int (u : Int)] m = .ok (chg (sortS S) (rq S f u) (rv S f u)) m := by
  clear gorun b_charge_with
  · clear gos
  · exact rfl
theorem d_charge_with {S : List Str} {f : Str → Int} {u : Nat} (h : Pm S f u) {m : M} : callD F_charge_with [dI S f, .int (u : Int)] m = .ok (chg (sortS S) (rq S f u) (rv S f u)) m := call_pure (by simp [norefL, noref_dI', noref]) (s_charge_with h) nr_chg
end K09
open PySem L2 HB K09
local macro_rules | `(tactic| clear $x:ident) => if x.getId.eraseMacroScopes == `gx then `(tactic| ((with_reducible refine d_charge_with ?_); clear goside)) else Lean.Macro.throwUnsupported
namespace K09
open PySem HB L2
end K09
namespace K09
open PySem HB L2
/-- charges in order -/
structure Cg (S : List Str) (q : Str → Int) (v : Nat) : Prop where
  so : S.Pairwise fun a b => a.cps.toList < b.cps.toList
  l0 : 1 ≤ S.length
  l8 : S.length ≤ 8
  nm : ∀ s ∈ S, isNm s = true
  fb : ∀ s ∈ S, (q s).natAbs < 10 ^ 190
  v0 : 0 < v
  vb : v < 10 ^ 190
theorem lt_irr (a : Str) : ¬ a.cps.toList < a.cps.toList := fun h => List.lt_irrefl _ h
theorem so_nd {S : List Str} (h : S.Pairwise fun a b => a.cps.toList < b.cps.toList) : S.Nodup := h.imp fun {a b} hab e => by subst e; exact lt_irr _ hab
theorem so_sort {S : List Str} (h : S.Pairwise fun a b => a.cps.toList < b.cps.toList) : sortS S = S := (sortS_uniq (List.Perm.refl S) (h.imp fun {a b} hab => leS_iff.mpr (List.le_of_lt hab))).symm
theorem Cg.nd {S : List Str} {q : Str → Int} {v : Nat} (h : Cg S q v) : S.Nodup := so_nd h.so
theorem Cg.sort {S : List Str} {q : Str → Int} {v : Nat} (h : Cg S q v) : sortS S = S := so_sort h.so
theorem sort_so {S : List Str} (h : S.Nodup) : (sortS S).Pairwise fun a b => a.cps.toList < b.cps.toList := by
  have h1 := sortS_pw S
  have h2 : (sortS S).Nodup := (sortS_perm S).nodup_iff.mpr h
  refine (h1.and h2).imp fun {a b} hab => ?_
  have := leS_iff.mp hab.1
  by_cases z : a.cps.toList < b.cps.toList
  · exact z
  · have w : leS b a = true := by simp [leS, z]
    exact absurd (leS_anti hab.1 w) hab.2
section
variable {fs : List HB.Sem} {tbl : List (Str × Nat)} {S : List Str} {q : Str → Int} {v : Nat} {m m1 : M} {sem : HB.Sem} {d : D} {b : Bool}
theorem ox_in (hs : semO fs tbl "Charge" = some sem) (h : callD sem [chg S q v, d] m = .ok (.bl b) m1) : obD fs tbl .inO d (chg S q v) m = .ok (.bl b) m1 := by
  have e : obD fs tbl .inO d (chg S q v) m = (match semO fs tbl "Charge" with
    | some sem => blO false (callD sem [chg S q v, d] m)
    | none => .no) := by
    unfold obD chg; rfl
  rw [e, hs]
  dsimp only
  rw [h]
  cases b <;> rfl
theorem ox_notIn (hs : semO fs tbl "Charge" = some sem) (h : callD sem [chg S q v, d] m = .ok (.bl b) m1) : obD fs tbl .notInO d (chg S q v) m = .ok (.bl (!b)) m1 := by
  have e : obD fs tbl .notInO d (chg S q v) m = (match semO fs tbl "Charge" with
    | some sem => blO true (callD sem [chg S q v, d] m)
    | none => .no) := by
    unfold obD chg; rfl
  rw [e, hs]
  dsimp only
  rw [h]
  cases b <;> rfl
theorem ox_ix {r : HB.R D} (hs : semO fs tbl "Charge" = some sem) (h : callD sem [chg S q v, d] m = r) : obD fs tbl .ixO (chg S q v) d m = r := by
  have e : obD fs tbl .ixO (chg S q v) d m = (match semO fs tbl "Charge" with
    | some sem => callD sem [chg S q v, d] m
    | none => .no) := by
    unfold obD chg; rfl
  rw [e, hs, ← h]
theorem ox_eq (ht : tyO tbl d m = true) (hs : semO fs tbl "Charge" = some sem) (h : callD sem [chg S q v, d] m = .ok (.bl b) m1) : obD fs tbl .eqO (chg S q v) d m = .ok (.bl b) m1 := by
  have e : obD fs tbl .eqO (chg S q v) d m = (if tyO tbl d m then match semO fs tbl "Charge" with
    | some sem => blO false (callD sem [chg S q v, d] m)
    | none => .no else .no) := by
    unfold obD chg; rfl
  rw [e, if_pos ht, hs]
  dsimp only
  rw [h]
  cases b <;> rfl
theorem ox_ne (ht : tyO tbl d m = true) (hs : semO fs tbl "Charge" = some sem) (h : callD sem [chg S q v, d] m = .ok (.bl b) m1) : obD fs tbl .neO (chg S q v) d m = .ok (.bl (!b)) m1 := by
  have e : obD fs tbl .neO (chg S q v) d m = (if tyO tbl d m then match semO fs tbl "Charge" with
    | some sem => blO true (callD sem [chg S q v, d] m)
    | none => .no else .no) := by
    unfold obD chg; rfl
  rw [e, if_pos ht, hs]
  dsimp only
  rw [h]
  cases b <;> rfl
theorem px_len {n : Int} (hs : semO fs tbl "Charge" = some sem) (h : callD sem [chg S q v] m = .ok (.int n) m1) (h0 : 0 ≤ n) (h1 : n < 1000) : HB.prD fs (.lenO tbl) [chg S q v] m = .ok (.int n) m1 := by
  have e : HB.prD fs (.lenO tbl) [chg S q v] m = (match semO fs tbl "Charge" with
    | some sem => lenR (callD sem [chg S q v] m)
    | none => .no) := by unfold HB.prD chg; rfl
  rw [e, hs]
  dsimp only
  rw [h]
  unfold lenR
  dsimp only
  rw [if_pos ⟨h0, by omega⟩]
theorem px_str {x : Str} (hs : semO fs tbl "Charge" = some sem) (h : callD sem [chg S q v] m = .ok (.str x) m1) : HB.prD fs (.strx tbl) [chg S q v] m = .ok (.str x) m1 := by
  have e : HB.prD fs (.strx tbl) [chg S q v] m = (match semO fs tbl "Charge" with
    | some sem => strR (callD sem [chg S q v] m)
    | none => .no) := by unfold HB.prD chg; rfl
  rw [e, hs]
  dsimp only
  rw [h]
  rfl
theorem mx_prop {y : Str} (hs : semO fs tbl "Charge" = some sem) (h : callD sem [chg S q v] m = .ok d m1) : mrD fs (.oprop y tbl) (chg S q v) [] m = .ok d m1 := by
  have e : mrD fs (.oprop y tbl) (chg S q v) [] m = (match semO fs tbl "Charge" with
    | some sem => noEx (callD sem [chg S q v] m)
    | none => .no) := by unfold mrD chg; rfl
  rw [e, hs]
  dsimp only
  rw [h]
  rfl
theorem mx_meth {y : Str} {ds : List D} {r : HB.R D} (hs : semO fs tbl "Charge" = some sem) (h : callD sem (chg S q v :: ds) m = r) : mrD fs (.ometh y tbl) (chg S q v) ds m = r := by
  have e : mrD fs (.ometh y tbl) (chg S q v) ds m = (match semO fs tbl "Charge" with
    | some sem => callD sem (chg S q v :: ds) m
    | none => .no) := by unfold mrD chg; rfl
  rw [e, hs, ← h]
end
end K09
open PySem L2 HB K09
local macro_rules | `(tactic| clear $x:ident) => if x.getId.eraseMacroScopes == `gx then `(tactic| first
    | ((with_reducible apply ox_in); (focus exact rfl); clear gx) | ((with_reducible apply ox_notIn); (focus exact rfl); clear gx) | ((with_reducible apply ox_ix); (focus exact rfl); clear gx)
    | ((with_reducible apply ox_eq); (focus exact rfl); (focus exact rfl); clear gx) | ((with_reducible apply ox_ne); (focus exact rfl); (focus exact rfl); clear gx)
    | ((with_reducible apply px_len); (focus exact rfl); (focus clear gx); (focus clear goside); clear goside) | ((with_reducible apply px_str); (focus exact rfl); clear gx) | ((with_reducible apply mx_prop); (focus exact rfl); clear gx) | ((with_reducible apply mx_meth); (focus exact rfl); clear gx)) else Lean.Macro.throwUnsupported
namespace K09
open PySem HB L2
section
variable {S : List Str} {q : Str → Int} {v : Nat} {m : M}
theorem nrL1 {d : D} (h : noref d = true) : norefL [chg S q v, d] = true := by simp [norefL, nr_chg, h]
theorem nrL0 : norefL [chg S q v] = true := by simp [norefL, nr_chg]
theorem Cg.bq (h : Cg S q v) : ∀ s ∈ S, bd (q s) := fun s hs => bd_of9 (h.fb s hs)
theorem Cg.bv (h : Cg S q v) : bd v := bd_of9 (by have := h.vb; omega)
theorem s_contains {s : Str} (hl : s.length ≤ 1000000) : F_Charge___contains [chg S q v, .str s] m = .ok (.bl (isNm s && decide (s ∈ S))) m := by
  have e := d_is_name hl (m := m)
  cases hn : isNm s with
  | true =>
    rw [hn] at e
    clear gorun b_Charge___contains
    · clear gos
    · simp
  | false =>
    rw [hn] at e
    clear gorun b_Charge___contains
    · clear gos
    · simp
theorem d_containsS {s : Str} (hl : s.length ≤ 1000000) : callD F_Charge___contains [chg S q v, .str s] m = .ok (.bl (isNm s && decide (s ∈ S))) m := call_pure (nrL1 rfl) (s_contains hl) rfl
theorem d_contains {s : Str} (hn : isNm s = true) (hs : s ∈ S) : callD F_Charge___contains [chg S q v, .str s] m = .ok (.bl true) m := by
  rw [d_containsS (by have := nm_len hn; omega), hn, decide_eq_true hs]; rfl
theorem s_containsN {d : D} (h : plainD d = true) (hs : isiB (tyP d) "str" = false) (hn : noref d = true) : F_Charge___contains [chg S q v, d] m = .ok (.bl false) m := by
  have e := c_no_name h hs hn (m := m)
  clear gorun b_Charge___contains
  · clear gos
  · exact rfl
theorem d_containsN {d : D} (h : plainD d = true) (hs : isiB (tyP d) "str" = false) (hn : noref d = true) : callD F_Charge___contains [chg S q v, d] m = .ok (.bl false) m := call_pure (nrL1 hn) (s_containsN h hs hn) rfl
end
end K09
open PySem L2 HB K09
local macro_rules | `(tactic| clear $x:ident) => if x.getId.eraseMacroScopes == `gx then `(tactic| first | ((with_reducible refine d_contains ?_ ?_); (focus clear goside); clear goside)) else Lean.Macro.throwUnsupported
namespace K09
open PySem HB L2
section
variable {S : List Str} {q : Str → Int} {v : Nat} {m : M}
theorem s_getitem (h : Cg S q v) {s : Str} (hs : s ∈ S) : F_Charge___getitem [chg S q v, .str s] m = .ok (lowT (q s) v) m := by
  have hn := h.nm s hs
  have b := h.bv
  have v0 : (0 : Int) < v := by have := h.v0; omega
  clear gorun b_Charge___getitem
  · clear gos
    clear gos
    clear gos
  · exact rfl
theorem nr_low {a b : Int} : noref (lowT a b) = true := rfl
theorem d_getitem (h : Cg S q v) {s : Str} (hs : s ∈ S) : callD F_Charge___getitem [chg S q v, .str s] m = .ok (lowT (q s) v) m := call_pure (nrL1 rfl) (s_getitem h hs) rfl
theorem s_len : F_Charge___len [chg S q v] m = .ok (.int S.length) m := by
  clear gorun b_Charge___len
  · clear gos
  · simp
theorem d_len : callD F_Charge___len [chg S q v] m = .ok (.int S.length) m := call_pure nrL0 s_len rfl
theorem s_things : F_Charge_things [chg S q v] m = .ok (.tup (S.map .str)) m := by
  clear gorun b_Charge_things
  · clear gos
  · exact rfl
theorem d_things : callD F_Charge_things [chg S q v] m = .ok (.tup (S.map .str)) m := call_pure nrL0 s_things (nr_tup S)
theorem mr_vals {fs : List HB.Sem} {P : Str → D} : mrD fs .lvals (dD S P) [] m = .ok (.lst (S.map P)) m := by
  simp only [mrD, view_dD, vals_eD]
theorem mr_items {fs : List HB.Sem} {P : Str → D} : mrD fs .litems (dD S P) [] m = .ok (.lst (S.map fun s => .tup [.str s, P s])) m := by
  simp only [mrD, view_dD, items_eD]
end
end K09
open PySem L2 HB K09
local macro_rules | `(tactic| clear $x:ident) => if x.getId.eraseMacroScopes == `gx then `(tactic| first | (with_reducible exact mr_vals) | (with_reducible exact mr_items) | (with_reducible exact d_len) | (with_reducible exact d_things) | ((with_reducible refine d_getitem ?_ ?_); (focus clear goside); clear goside)) else Lean.Macro.throwUnsupported
namespace K09
open PySem HB L2
section
variable {S : List Str} {q : Str → Int} {v : Nat} {m : M}
theorem s_total (h : Cg S q v) : F_Charge_total [chg S q v] m = .ok (lowT (S.map q).sum v) m := by
  have b := h.bv
  have v0 : (0 : Int) < v := by have := h.v0; omega
  clear gorun b_Charge_total
  · clear gos
  · exact rfl
theorem d_total (h : Cg S q v) : callD F_Charge_total [chg S q v] m = .ok (lowT (S.map q).sum v) m := call_pure nrL0 (s_total h) rfl
end
end K09
open PySem L2 HB K09
local macro_rules | `(tactic| clear $x:ident) => if x.getId.eraseMacroScopes == `gx then `(tactic| ((with_reducible refine d_total ?_); clear goside)) else Lean.Macro.throwUnsupported
namespace K09
open PySem HB L2
end K09
namespace HB
open PySem L2
/-! ### equal data -/
def okd : Nat → D → Bool
  | _, .non => true
  | _, .bl _ => true
  | _, .int _ => true
  | _, .str x => PyData.strOk x
  | n + 1, .tup ds => ds.all (okd n)
  | n + 1, .lst ds => ds.all (okd n)
  | _, _ => false
theorem okd_pyL {n : Nat} (ih : ∀ d, okd n d = true → ∃ p, py d = some p ∧ p.canLay0 = true ∧ p.depth ≤ n) : ∀ ds : List D, ds.all (okd n) = true → ∃ ps, pyL ds = some ps ∧ PyData.canLayAll0 ps = true ∧ PyData.depthAll ps ≤ n
  | [], _ => ⟨[], rfl, rfl, Nat.zero_le _⟩
  | d :: ds, h => by
    simp only [List.all_cons, Bool.and_eq_true] at h
    obtain ⟨p, h1, h2, h3⟩ := ih d h.1
    obtain ⟨ps, g1, g2, g3⟩ := okd_pyL ih ds h.2
    exact ⟨p :: ps, by simp only [pyL, h1, g1], by simp [PyData.canLayAll0, h2, g2], by simp only [PyData.depthAll]; omega⟩
theorem okd_py : ∀ (n : Nat) (d : D), okd n d = true → ∃ p, py d = some p ∧ p.canLay0 = true ∧ p.depth ≤ n
  | n, .non, _ => ⟨_, rfl, rfl, Nat.zero_le _⟩
  | n, .bl _, _ => ⟨_, rfl, rfl, Nat.zero_le _⟩
  | n, .int _, _ => ⟨_, rfl, rfl, Nat.zero_le _⟩
  | n, .str x, h => ⟨_, rfl, by cases n <;> simpa [okd, PyData.canLay0] using h, Nat.zero_le _⟩
  | 0, .tup ds, h => by simp [okd] at h
  | 0, .lst ds, h => by simp [okd] at h
  | n + 1, .tup ds, h => by
    obtain ⟨ps, g1, g2, g3⟩ := okd_pyL (okd_py n) ds (by simpa [okd] using h)
    exact ⟨.tuple ps, by simp [py, g1], by simpa [PyData.canLay0] using g2, by simp only [PyData.depth]; omega⟩
  | n + 1, .lst ds, h => by
    obtain ⟨ps, g1, g2, g3⟩ := okd_pyL (okd_py n) ds (by simpa [okd] using h)
    exact ⟨.list ps, by simp [py, g1], by simpa [PyData.canLay0] using g2, by simp only [PyData.depth]; omega⟩
  | n, .dct _, h => by cases n <;> simp [okd] at h
  | n, .obj _ _, h => by cases n <;> simp [okd] at h
  | n, .exv _ _, h => by cases n <;> simp [okd] at h
  | n, .ref _, h => by cases n <;> simp [okd] at h
  | n, .scr _, h => by cases n <;> simp [okd] at h
/-- a tuple is itself -/
theorem eqB_tup {n : Nat} (hn : n ≤ 63) {ds : List D} (h : ds.all (okd n) = true) {m : M} : eqB (.tup ds) (.tup ds) m = .ok true m := by
  obtain ⟨p, h1, h2, h3⟩ := okd_py (n + 1) (.tup ds) (by simpa [okd] using h)
  have hs : SeqAt.shaped p = true := by simp [SeqAt.shaped, h2]; omega
  simp only [eqB, viewD, pyT, h1, hs, and_self, if_true, SeqAt.eqv_refl p h2]
theorem pyL_strs : ∀ S : List Str, pyL (S.map .str) = some (S.map .str)
  | [] => rfl
  | s :: S => by simp only [List.map_cons, pyL, py, pyL_strs S]
theorem lay_strs : ∀ S : List Str, (∀ s ∈ S, PyData.strOk s = true) → PyData.canLayAll0 (S.map .str) = true ∧ PyData.depthAll (S.map .str) = 0
  | [], _ => ⟨rfl, rfl⟩
  | s :: S, h => by
    obtain ⟨a, b⟩ := lay_strs S fun t ht => h t (List.mem_cons_of_mem _ ht)
    simp [PyData.canLayAll0, PyData.canLay0, h s List.mem_cons_self, a, PyData.depthAll, PyData.depth, b]
theorem eqv_strs : ∀ S T : List Str, PyData.eqvAll (S.map .str) (T.map .str) = decide (S = T)
  | [], [] => rfl
  | [], t :: T => rfl
  | s :: S, [] => rfl
  | s :: S, t :: T => by
    simp only [List.map_cons, PyData.eqvAll, PyData.eqv, eqv_strs S T]
    rw [Bool.eq_iff_iff]
    simp
theorem eqB_tupS {S T : List Str} (hS : ∀ s ∈ S, PyData.strOk s = true) (hT : ∀ s ∈ T, PyData.strOk s = true) {m : M} : eqB (.tup (S.map .str)) (.tup (T.map .str)) m = .ok (decide (S = T)) m := by
  have a := lay_strs S hS
  have b := lay_strs T hT
  have s1 : SeqAt.shaped (.tuple (S.map .str)) = true := by simp [SeqAt.shaped, PyData.canLay0, PyData.depth, a]
  have s2 : SeqAt.shaped (.tuple (T.map .str)) = true := by simp [SeqAt.shaped, PyData.canLay0, PyData.depth, b]
  simp only [eqB, viewD, pyT, py, pyL_strs, Option.map_some, s1, s2, and_self, if_true, PyData.eqv, eqv_strs]
theorem eqB_lstS {S T : List Str} (hS : ∀ s ∈ S, PyData.strOk s = true) (hT : ∀ s ∈ T, PyData.strOk s = true) {m : M} : eqB (.lst (S.map .str)) (.lst (T.map .str)) m = .ok (decide (S = T)) m := by
  have a := lay_strs S hS
  have b := lay_strs T hT
  have s1 : SeqAt.shaped (.list (S.map .str)) = true := by simp [SeqAt.shaped, PyData.canLay0, PyData.depth, a]
  have s2 : SeqAt.shaped (.list (T.map .str)) = true := by simp [SeqAt.shaped, PyData.canLay0, PyData.depth, b]
  simp only [eqB, viewD, pyT, py, pyL_strs, Option.map_some, s1, s2, and_self, if_true, PyData.eqv, eqv_strs]
theorem op_eq_of {d e : D} {b : Bool} {m : M} (h : eqB d e m = .ok b m) : copD .eq d e m = .ok (.bl b) m := by
  simp only [copD, eqD, h, blR]
theorem op_ne_of {d e : D} {b : Bool} {m : M} (h : eqB d e m = .ok b m) : copD .ne d e m = .ok (.bl (!b)) m := by
  simp only [copD, neD, h, blR, notR]
theorem eqB_low {a b : Int} {m : M} : eqB (lowT a b) (lowT a b) m = .ok true m := eqB_tup (n := 0) (by decide) rfl
theorem nm_ok {s : Str} (h : isNm s = true) : PyData.strOk s = true := by
  simp only [isNm, Bool.and_eq_true, decide_eq_true_eq, List.all_eq_true] at h
  unfold PyData.strOk
  rw [Array.all_eq_true_iff_forall_mem]
  intro c hc
  have := h.2 c (Array.mem_toList_iff.mpr hc)
  simp
  omega
/-! ### two names at once -/
theorem lcM2 {α : Type} {fs : List Sem} {env : Env} {m : M} {i j : Nat} {x y : Str} {it e : T} {d : D} {S : List α} {a b : α → D} {P : α → D} (hi : evE fs it env m = .ok d m) (hv : viewI d m = some (S.map fun s => .tup [a s, b s])) (hl : S.length ≤ 1000000) (h : ∀ s ∈ S, evE fs e ((((env.set j none).set i none).set i (some (a s))).set j (some (b s))) m = .ok (P s) m) :
    evE fs (.lc [(x, i), (y, j)] (.tup (.cons (.name i) (.cons (.name j) .nil))) it .noP e) env m = .ok (.lst (S.map P)) m := by
  refine ev_lc hi hv (by simpa using hl) ?_
  have np : isNoP .noP = true := rfl
  have hgo : ∀ (S : List α) (acc : List D), (∀ s ∈ S, evE fs e ((((env.set j none).set i none).set i (some (a s))).set j (some (b s))) m = .ok (P s) m) → lcGo (lcSt fs [(x, i), (y, j)] (.tup (.cons (.name i) (.cons (.name j) .nil))) .noP e env) (S.map fun s => .tup [a s, b s]) acc m = .ok (acc ++ S.map P) m := by
    intro S
    induction S with
    | nil => intro acc _; simp [lcGo]
    | cons s S ih =>
      intro acc h
      have e1 : lcSt fs [(x, i), (y, j)] (.tup (.cons (.name i) (.cons (.name j) .nil))) .noP e env (.tup [a s, b s]) m = .ok (some (P s)) m := by
        simp only [lcSt, asgG, asgGs, List.map_cons, List.map_nil, wipeD, np, if_true, R.bind_ok, h s List.mem_cons_self]
      simp only [List.map_cons, lcGo, e1]
      rw [ih _ fun z hz => h z (List.mem_cons_of_mem _ hz)]
      simp
  simpa using hgo S [] h
theorem cut_tail (xs : List D) : cutD xs (some 1) none = xs.tail := by
  have e : HT.sIx xs.length 0 (some 1) = min 1 xs.length := HT.sIx_nat _ _ 1
  simp only [cutD, e, HT.sIx_none]
  cases xs with
  | nil => rfl
  | cons x xs =>
    have : min 1 (x :: xs).length = 1 := by simp
    rw [this]
    simp
theorem zip_strs : ∀ S T : List Str, zipD (S.map .str) (T.map .str) = (S.zip T).map fun p => D.tup [.str p.1, .str p.2]
  | [], _ => by simp [zipD]
  | _ :: _, [] => by simp [zipD]
  | s :: S, t :: T => by simp [zipD, zip_strs S T]
theorem zip_tail {α : Type} {r : α → α → Prop} : ∀ {S : List α}, S.Pairwise r → ∀ p ∈ S.zip S.tail, r p.1 p.2
  | [], _, p, h => by simp at h
  | [a], _, p, h => by simp at h
  | a :: b :: S, h, p, hp => by
    simp only [List.tail_cons, List.zip_cons_cons, List.mem_cons] at hp
    rcases hp with rfl | hp
    · exact (List.pairwise_cons.mp h).1 b List.mem_cons_self
    · exact zip_tail (S := b :: S) (List.pairwise_cons.mp h).2 p (by simpa using hp)
theorem join_len (a : Str) (B : Nat) : ∀ ys : List Str, (∀ y ∈ ys, y.length ≤ B) → (ys.map (·.length)).sum ≤ ys.length * B
  | [], _ => by simp
  | y :: ys, h => by
    have := join_len a B ys fun z hz => h z (List.mem_cons_of_mem _ hz)
    have := h y List.mem_cons_self
    simp only [List.map_cons, List.sum_cons, List.length_cons, Nat.succ_mul]
    omega
theorem jx {α : Type} {a : Str} {S : List α} {g : α → Str} {m : M} (h8 : S.length ≤ 100) (hg : ∀ s ∈ S, (g s).length ≤ 10000) (ha : a.length ≤ 100) : joinD (.str a) (.lst (S.map fun s => .str (g s))) m = .ok (.str (Txt.join a (S.map g))) m := by
  have e : asStrs (S.map fun s => D.str (g s)) = some (S.map g) := by
    have := asStrs_map (S.map g)
    rw [List.map_map] at this
    exact this
  simp only [joinD, viewQ, viewS, viewL, Option.bind_some, e]
  have l := join_len a 10000 (S.map g) (by
    intro y hy
    obtain ⟨s, hs, rfl⟩ := List.mem_map.mp hy
    exact hg s hs)
  have l2 : (S.map g).length * 10000 ≤ 100 * 10000 := Nat.mul_le_mul_right _ (by simpa using h8)
  have l3 : (S.map g).length * a.length ≤ 100 * 100 := Nat.mul_le_mul (by simpa using h8) ha
  rw [if_pos (by omega)]
end HB
namespace K09
open PySem HB L2
end K09
open PySem L2 HB K09
local macro_rules | `(tactic| clear $x:ident) => if x.getId.eraseMacroScopes == `gx then `(tactic| first | (with_reducible exact op_eq_of eqB_low) | (with_reducible exact op_ne_of eqB_low)) else Lean.Macro.throwUnsupported
namespace K09
open PySem HB L2
section
variable {S C : List Str} {q : Str → Int} {v : Nat} {m : M}
/-- the text of a thing -/
def oneS (f : Str → Int) (u : Int) (s : Str) : Str := s ++ (" " : Str) ++ fracS ((f s).fdiv (Int.gcd (f s) u : Nat)) (u.fdiv (Int.gcd (f s) u : Nat))
theorem one_len (f : Str → Int) (u : Int) (s : Str) (hs : s.length ≤ 8) (h1 : bd (f s)) (h2 : bd u) : (oneS f u s).length ≤ 5000 := by
  unfold oneS
  rw [app_len, app_len]
  have := frac_len (h1.dv (g := Int.gcd (f s) u)) (h2.dv (g := Int.gcd (f s) u))
  have : ((" " : Str)).length = 1 := rfl
  omega
theorem s_str (h : Cg S q v) : F_Charge___str [chg S q v] m = .ok (.str (Txt.join ", " (S.map (oneS q v)))) m := by
  have h8 := h.l8
  clear gorun b_Charge___str
  · apply kk_ret
    refine ev_join ev_str (lcM (P := fun s => .str (oneS q v s)) (f := D.str) (S := S) (d := .tup (S.map .str)) ?_ rfl (by omega) ?_) (jx (by omega) ?_ (by decide))
    · clear go
    · intro s hs
      have hb := h.bq s hs
      have hv := h.bv
      have hn := nm_len (h.nm s hs)
      have f1 := frac_len (hb.dv (g := Int.gcd (q s) v)) (hv.dv (g := Int.gcd (q s) v))
      have t3 : ((" " : Str)).length = 1 := rfl
      have t4 : (Str.empty).length = 0 := rfl
      apply ev_fstr
      apply ev_jcons
      · clear go
      · rw [app_len]; omega
      · apply ev_jcons
        · clear go
        · rw [app_len, app_len]; omega
        · apply ev_jcons
          · clear go
          · rw [app_len, app_len, app_len]; omega
          · rw [emp_app]; exact ev_jnil
    · intro s hs
      exact Nat.le_trans (one_len q v s (nm_len (h.nm s hs)).2 (h.bq s hs) h.bv) (by decide)
  · exact rfl
theorem d_str (h : Cg S q v) : callD F_Charge___str [chg S q v] m = .ok (.str (Txt.join ", " (S.map (oneS q v)))) m := call_pure nrL0 (s_str h) rfl
theorem s_iter : F_Charge___iter [chg S q v] [] = .ok (.ref 0) [.itr (S.map .str)] := by
  have e : bfD .iterM [.tup (S.map .str)] [] = .ok (.ref 0) [.itr (S.map .str)] := rfl
  clear gorun b_Charge___iter
  · clear gos
  · exact rfl
theorem d_iter : callD F_Charge___iter [chg S q v] m = .ok (.ref m.length) (m ++ [.itr (S.map .str)]) := call_new nrL0 s_iter (nr_tup S)
theorem pr_list {fs : List HB.Sem} {ti tl : List (Str × Nat)} (h8 : S.length ≤ 8) (h1 : semO fs ti "Charge" = some F_Charge___iter) (h2 : semO fs tl "Charge" = some F_Charge___len) : HB.prD fs (.lstO ti tl) [chg S q v] m = .ok (.lst (S.map .str)) (m ++ [.gone]) := by
  have e : HB.prD fs (.lstO ti tl) [chg S q v] m = (match semO fs ti "Charge", semO fs tl "Charge" with
    | some si, some sl => (noEx (callD si [chg S q v] m)).bind fun d m1 => match d with
      | .ref j => match m1[j]? with
        | some (.itr _) => (noEx (callD sl [chg S q v] m1)).bind fun e m2 => match e, m2[j]? with
          | .int n, some (.itr ds) => if 0 ≤ n ∧ n ≤ 16777216 ∧ ds.length ≤ sizeLine then .ok (.lst ds) (m2.set j .gone) else .no
          | _, _ => .no
        | _ => .no
      | _ => .no
    | _, _ => .no) := by unfold HB.prD chg; rfl
  rw [e, h1, h2]
  dsimp only
  rw [d_iter]
  simp only [noEx, R.bind_ok, last_get, d_len]
  rw [if_pos ⟨by omega, by omega, by rw [sizeLine_eq, List.length_map]; omega⟩, last_set]
theorem nrL2 : norefL [chg S q v, .tup (C.map .str)] = true := nrL1 (by simp [noref, nr_tup])
theorem s_require (h : Cg S q v) (hC : C.Sublist S) : F_Charge_require_own [chg S q v, .tup (C.map .str)] m = .ok .non m := by
  have h8 := h.l8
  have hl := hC.length_le
  have so := h.so.sublist hC
  clear gorunN b_Charge_require_own
  · apply kk_if
    · apply ev_or2
      · clear go
      · apply gb_neg
        · rfl
        · refine ev_not (ev_blt (ev_cons (lcM (P := fun _ => .bl true) (f := D.str) (S := C) (d := .tup (C.map .str)) (ev_var rfl) rfl (by omega) ?_) ev_nil) bx_all)
          intro s hs
          have h1 := hC.subset hs
          have h2 := h.nm s h1
          clear go
    · apply gb_neg
      · simp
      · clear gos
        apply kk_if
        · refine ev_not (ev_blt (ev_cons (lcM2 (P := fun p => .bl (decide (p.1.cps.toList < p.2.cps.toList))) (a := fun p => D.str p.1) (b := fun p => D.str p.2) (S := C.zip C.tail) (d := .lst (zipD (C.map .str) (C.map .str).tail)) ?_ ?_ ?_ ?_) ev_nil) bx_all)
          · refine ev_iter (ev_cons (ev_var rfl) (ev_cons (ev_slL (ev_var rfl) rfl ev_int (show slD (.tup (C.map .str)) (some 1) none m = .ok (.tup (C.map .str).tail) m from ?_)) ev_nil)) rfl
            simp only [slD, cut_tail]
          · rw [← List.map_tail, zip_strs]; rfl
          · simp; omega
          · intro p hp
            clear go
        · apply gb_neg
          · simp only [Bool.not_eq_false', List.all_eq_true, decide_eq_true_eq]
            exact zip_tail so
          · clear gos
            clear gos
  · exact rfl
theorem d_require (h : Cg S q v) (hC : C.Sublist S) : callD F_Charge_require_own [chg S q v, .tup (C.map .str)] m = .ok .non m := call_pure nrL2 (s_require h hC) rfl
end
end K09
open PySem L2 HB K09
local macro_rules | `(tactic| clear $x:ident) => if x.getId.eraseMacroScopes == `gx then `(tactic| first | ((with_reducible refine d_str ?_); clear goside) | ((with_reducible refine d_require ?_ ?_); (focus clear goside); clear goside)) else Lean.Macro.throwUnsupported
namespace K09
open PySem HB L2
section
variable {S C T : List Str} {q f : Str → Int} {v u : Nat} {m : M}
theorem Cg.sub (h : Cg S q v) (hC : C.Sublist S) (h0 : C ≠ []) : Cg C q v := ⟨h.so.sublist hC, by have := List.length_pos_iff.mpr h0; omega, by have := hC.length_le; have := h.l8; omega, fun s hs => h.nm s (hC.subset hs), fun s hs => h.fb s (hC.subset hs), h.v0, h.vb⟩
theorem s_cut_to (h : Cg S q v) (hC : C.Sublist S) : F_cut_to [chg S q v, .tup (C.map .str)] m = .ok (chg C (rq C q v) (rv C q v)) m := by
  have hl := hC.length_le
  have h8 := h.l8
  have so := h.so.sublist hC
  have pm : Pm C q v := ⟨so_nd so, by omega, fun s hs => h.bq s (hC.subset hs), h.v0, h.bv⟩
  clear gorun b_cut_to
  · refine kk_ret (ev_call (ev_cons (dcN (P := fun s => .int (q s)) (S := C) (d := .tup (C.map .str)) (ev_var rfl) rfl (by omega) (so_nd so) (by simp) ?_) (ev_cons (by clear go) ev_nil)) rfl (d_charge_with pm))
    intro s hs
    have := hC.subset hs
    clear go
  · rw [so_sort so]
theorem d_cut_to (h : Cg S q v) (hC : C.Sublist S) : callD F_cut_to [chg S q v, .tup (C.map .str)] m = .ok (chg C (rq C q v) (rv C q v)) m := call_pure nrL2 (s_cut_to h hC) nr_chg
theorem s_cut (h : Cg S q v) (hC : C.Sublist S) (h0 : C ≠ []) : F_Charge_cut [chg S q v, .tup (C.map .str)] m = .ok (chg C (rq C q v) (rv C q v)) m := by
  have e : copD .eq (.tup (C.map .str)) (.tup []) m = .ok (.bl false) m := by
    have := op_eq_of (eqB_tupS (S := C) (T := []) (m := m) (fun s hs => nm_ok (h.nm s (hC.subset hs))) (by simp))
    rw [decide_eq_false h0] at this
    exact this
  have e2 := d_cut_to h hC (m := m)
  clear gorun b_Charge_cut
  · clear gos
    clear gos
    clear gos
    clear gos
  · exact rfl
theorem d_cut (h : Cg S q v) (hC : C.Sublist S) (h0 : C ≠ []) : callD F_Charge_cut [chg S q v, .tup (C.map .str)] m = .ok (chg C (rq C q v) (rv C q v)) m := call_pure nrL2 (s_cut h hC h0) nr_chg
theorem s_eq {w : Nat} : F_Charge___eq [chg S q v, chg S f w] m = .ok (.bl (decide (v = w) && S.all fun s => decide (q s = f s))) m := by
  have e : copD .eq (dI S q) (dI S f) m = .ok (.bl (S.all fun s => decide (q s = f s))) m := eq_dI
  by_cases hv : v = w
  · subst hv
    clear gorun b_Charge___eq
    · clear gos
    · simp
  · have hv' : ¬ (v : Int) = w := by omega
    clear gorun b_Charge___eq
    · clear gos
    · simp [hv]
end
end K09
namespace HB
open PySem L2
/-! ### lowest terms -/
/-- q over v is f over u in lowest terms -/
structure Red (S : List Str) (f : Str → Int) (u : Nat) (q : Str → Int) (v : Nat) : Prop where
  ex : ∃ g : Nat, 0 < g ∧ (∀ s ∈ S, f s = (g : Int) * q s) ∧ u = g * v
  one : gS S q v = 1
theorem fdn (a b : Nat) : (a : Int).fdiv (b : Nat) = ((a / b : Nat) : Int) := by
  rw [Int.fdiv_eq_ediv_of_nonneg _ (by omega)]; rfl
theorem Red.g {S : List Str} {f q : Str → Int} {u v : Nat} (h : Red S f u q v) (u0 : 0 < u) : gS S f u * v = u ∧ (∀ s ∈ S, f s = (gS S f u : Int) * q s) := by
  obtain ⟨g, g0, hf, hu⟩ := h.ex
  have e : gS S f u = g := by
    rw [gS_congr hf, hu, gS_mul, h.one, Nat.mul_one]
  rw [e]
  exact ⟨hu.symm, hf⟩
theorem red_of {S : List Str} {f : Str → Int} {u : Nat} (u0 : 0 < u) : Red S f u (fun s => (f s).fdiv (gS S f u : Nat)) (u / gS S f u) := by
  obtain ⟨q, v, hq, hv, v0, h1⟩ := gS_low (f := f) (S := S) u0
  have gp := gS_pos (f := f) (S := S) u0
  have ev : u / gS S f u = v := by
    have := Nat.mul_div_cancel_left v gp
    rw [← hv] at this
    exact this
  have eq : ∀ s ∈ S, (f s).fdiv (gS S f u : Nat) = q s := fun s hs => fdiv_of (by omega) (hq s hs)
  refine ⟨⟨gS S f u, gp, fun s hs => by rw [eq s hs]; exact hq s hs, by rw [ev]; exact hv⟩, ?_⟩
  rw [gS_congr eq, ev]
  exact h1
theorem Red.low {S : List Str} {f q : Str → Int} {u v : Nat} (h : Red S f u q v) (v0 : 0 < v) {s : Str} (hs : s ∈ S) : lowT (f s) u = lowT (q s) v := by
  obtain ⟨g, g0, hf, hu⟩ := h.ex
  rw [hf s hs, hu, Int.natCast_mul]
  exact low_mul g0 (by omega)
theorem sum_mul {S : List Str} {f q : Str → Int} {g : Int} : (∀ s ∈ S, f s = g * q s) → (S.map f).sum = g * (S.map q).sum := by
  induction S with
  | nil => intro _; simp
  | cons s S ih =>
    intro h
    simp only [List.map_cons, List.sum_cons, h s List.mem_cons_self, ih fun t ht => h t (List.mem_cons_of_mem _ ht), Int.mul_add]
theorem Red.lowSum {S C : List Str} {f q : Str → Int} {u v : Nat} (h : Red S f u q v) (v0 : 0 < v) (hC : ∀ s ∈ C, s ∈ S) : lowT (C.map f).sum u = lowT (C.map q).sum v := by
  obtain ⟨g, g0, hf, hu⟩ := h.ex
  rw [sum_mul (fun s hs => hf s (hC s hs)), hu, Int.natCast_mul]
  exact low_mul g0 (by omega)
theorem Red.v {S : List Str} {f q : Str → Int} {u v : Nat} (h : Red S f u q v) (u0 : 0 < u) : u / gS S f u = v := by
  have := (h.g u0).1
  have gp := gS_pos (f := f) (S := S) u0
  have e := Nat.mul_div_cancel_left v gp
  rw [this] at e
  exact e
theorem Red.paid {S : List Str} {f q : Str → Int} {u v : Nat} (h : Red S f u q v) (v0 : 0 < v) {s : Str} (hs : s ∈ S) : (f s).fdiv (Int.gcd (f s) u : Nat) * (v : Int).fdiv ((u : Int).fdiv (Int.gcd (f s) u : Nat)) = q s := by
  obtain ⟨g, g0, hf, hu⟩ := h.ex
  have ec : Int.gcd (f s) u = g * Int.gcd (q s) v := by rw [hf s hs, hu, Int.natCast_mul, Int.gcd_mul_left, Int.natAbs_natCast]
  have c0 := gcd_pos (a := q s) (b := v) (by omega)
  obtain ⟨x, hx⟩ := Int.gcd_dvd_left (q s) v
  obtain ⟨y, hy⟩ := Int.gcd_dvd_right (q s) (v : Int)
  have n1 : ((g * Int.gcd (q s) v : Nat) : Int) ≠ 0 := by
    have := Nat.mul_pos g0 c0
    omega
  have e1 : (f s).fdiv (Int.gcd (f s) u : Nat) = x := by
    rw [ec]
    refine fdiv_of n1 ?_
    rw [hf s hs, Int.natCast_mul, Int.mul_assoc, ← hx]
  have e2 : (u : Int).fdiv (Int.gcd (f s) u : Nat) = y := by
    rw [ec]
    refine fdiv_of n1 ?_
    rw [hu, Int.natCast_mul, Int.natCast_mul, Int.mul_assoc, ← hy]
  have y0 : y ≠ 0 := by
    intro z
    rw [z, Int.mul_zero] at hy
    omega
  rw [e1, e2, fdiv_of (c := (Int.gcd (q s) v : Nat)) y0 (by rw [Int.mul_comm]; exact hy), Int.mul_comm]
  exact hx.symm
theorem ix0 {a b : D} {m : M} : ixD (.tup [a, b]) (.int 0) m = .ok a m := ix_tup rfl
theorem ix1 {a b : D} {m : M} : ixD (.tup [a, b]) (.int 1) m = .ok b m := ix_tup rfl
end HB
open PySem L2 HB
local macro_rules | `(tactic| clear $x:ident) => if x.getId.eraseMacroScopes == `gx then `(tactic| first | (with_reducible exact ix0) | (with_reducible exact ix1)) else Lean.Macro.throwUnsupported
namespace HB
open PySem L2
theorem bx_sorted_so {S : List Str} {P : Str → D} {m : M} (h : S.length < 64) (e : sortS S = S) : bfD .sorted [dD S P] m = .ok (.lst (S.map .str)) m := by
  have := bx_sorted_dD (P := P) (m := m) h
  rw [e] at this; exact this
theorem dD_congr {S : List Str} {P Q : Str → D} (h : ∀ s ∈ S, P s = Q s) : dD S P = dD S Q := by
  unfold dD
  congr 1
  exact List.map_congr_left fun s hs => by rw [h s hs]
end HB
namespace K09
open PySem HB L2
end K09
open PySem L2 HB K09
local macro_rules | `(tactic| clear $x:ident) => if x.getId.eraseMacroScopes == `gx then `(tactic| ((with_reducible refine pr_list ?_ ?_ ?_); (focus clear goside); (focus exact rfl); exact rfl)) else Lean.Macro.throwUnsupported
namespace K09
open PySem HB L2
end K09
namespace HB
open PySem L2
/-! ### comprehensions that draw -/
/-- pairs of names and drawn numbers -/
theorem lc_draw {step : D → M → R (Option D)} (P : Nat → M → Prop) (Q : Int → Prop) : ∀ {S : List Str} {acc : List D} {m : M} {n : Nat}, S.Nodup → P n m → (∀ s ∈ S, ∀ k m, k < n + S.length → P k m → ∃ i m2, step (.str s) m = .ok (some (.tup [.str s, .int i])) m2 ∧ P (k + 1) m2 ∧ Q i) →
    ∃ (f : Str → Int) (m2 : M), lcGo step (S.map .str) acc m = .ok (acc ++ S.map fun s => .tup [.str s, .int (f s)]) m2 ∧ P (n + S.length) m2 ∧ ∀ s ∈ S, Q (f s)
  | [], acc, m, n, _, h, _ => ⟨fun _ => 0, m, by simp [lcGo], h, by simp⟩
  | s :: S, acc, m, n, nd, h, hs => by
    obtain ⟨i, m2, e1, p1, q1⟩ := hs s List.mem_cons_self n m (by simp) h
    obtain ⟨f, m3, e2, p2, q2⟩ := lc_draw P Q (S := S) (acc := acc ++ [.tup [.str s, .int i]]) (List.nodup_cons.mp nd).2 p1 fun z hz k mk hk => hs z (List.mem_cons_of_mem _ hz) k mk (by rw [List.length_cons]; omega)
    have ns := (List.nodup_cons.mp nd).1
    refine ⟨fun x => if x = s then i else f x, m3, ?_, ?_, ?_⟩
    · simp only [List.map_cons, lcGo, e1, e2]
      congr 1
      rw [List.append_assoc]
      congr 1
      simp only [if_true, List.cons_append, List.nil_append]
      congr 1
      refine List.map_congr_left fun x hx => ?_
      have : x ≠ s := fun z => ns (z ▸ hx)
      simp [this]
    · rw [List.length_cons, ← Nat.add_assoc, Nat.add_right_comm]; exact p2
    · intro x hx
      rcases List.mem_cons.mp hx with rfl | hx
      · simpa using q1
      · have : x ≠ s := fun z => ns (z ▸ hx)
        simpa [this] using q2 x hx
/-- drawn ones of a list -/
theorem lc_some {step : D → M → R (Option D)} (P : Nat → M → Prop) : ∀ {S : List Str} {acc : List D} {m : M} {n : Nat}, P n m → (∀ s ∈ S, ∀ k m, k < n + S.length → P k m → ∃ m2, (step (.str s) m = .ok (some (.str s)) m2 ∨ step (.str s) m = .ok none m2) ∧ P (k + 1) m2) →
    ∃ (C : List Str) (m2 : M), lcGo step (S.map .str) acc m = .ok (acc ++ C.map .str) m2 ∧ P (n + S.length) m2 ∧ C.Sublist S
  | [], acc, m, n, h, _ => ⟨[], m, by simp [lcGo], h, by simp⟩
  | s :: S, acc, m, n, h, hs => by
    obtain ⟨m2, e1, p1⟩ := hs s List.mem_cons_self n m (by simp) h
    rcases e1 with e1 | e1
    · obtain ⟨C, m3, e2, p2, q2⟩ := lc_some P (S := S) (acc := acc ++ [.str s]) p1 fun z hz k mk hk => hs z (List.mem_cons_of_mem _ hz) k mk (by rw [List.length_cons]; omega)
      refine ⟨s :: C, m3, by simp only [List.map_cons, lcGo, e1, e2]; simp, ?_, q2.cons₂ s⟩
      rw [List.length_cons, ← Nat.add_assoc, Nat.add_right_comm]; exact p2
    · obtain ⟨C, m3, e2, p2, q2⟩ := lc_some P (S := S) (acc := acc) p1 fun z hz k mk hk => hs z (List.mem_cons_of_mem _ hz) k mk (by rw [List.length_cons]; omega)
      refine ⟨C, m3, by simp only [List.map_cons, lcGo, e1, e2], ?_, q2.cons s⟩
      rw [List.length_cons, ← Nat.add_assoc, Nat.add_right_comm]; exact p2
def unS : D → Str
  | .str s => s
  | _ => Str.empty
theorem perm_strs {ys : List D} {W : List Str} (h : ys.Perm (W.map .str)) : ∃ T : List Str, T.Perm W ∧ ys = T.map .str := by
  refine ⟨ys.map unS, ?_, ?_⟩
  · have := h.map unS
    rw [List.map_map] at this
    have e : (unS ∘ D.str) = id := rfl
    rw [e, List.map_id] at this
    exact this
  · rw [List.map_map]
    conv => lhs; rw [← List.map_id ys]
    refine List.map_congr_left fun d hd => ?_
    obtain ⟨s, _, rfl⟩ := List.mem_map.mp (h.mem_iff.mp hd)
    rfl
theorem cut_take (xs : List D) (n : Nat) : cutD xs none (some (n : Int)) = xs.take n := by
  have e : HT.sIx xs.length xs.length (some (n : Int)) = min n xs.length := HT.sIx_nat _ _ n
  simp only [cutD, e, HT.sIx_none, Nat.sub_zero, List.drop_zero]
  rw [List.take_eq_take_iff]
  omega
/-- one draw -/
theorem dr_stir {t : Int} (ht : 0 < t) (hl : t.natAbs.log2 < 9000) {m : M} {j n : Nat} {o : MO} (hj : m[j]? = some o) (hp : Pot n o) (hn : n + 1 ≤ 100000) : ∃ (i : Int) (o2 : MO), callD F_stir [.ref j, .int t] m = .ok (.int i) (m.set j o2) ∧ Pot (n + 1) o2 ∧ 0 ≤ i ∧ i < t := by
  obtain ⟨d, o2, e1, p1, ⟨i, rfl, i0, i1⟩, _⟩ := (r_stir ht hl).call rfl hj hp hn
  exact ⟨i, o2, e1, p1, i0, i1⟩
theorem PotFn.call1 {sem : Sem} {args : List D} {k : Nat} {Q : D → Prop} (h : PotFn sem args k Q) (ha : norefL args = true) {n : Nat} {o : MO} (hp : Pot n o) (hn : n + k ≤ 100000) : ∃ d o2, callD sem (.ref 0 :: args) [o] = .ok d [o2] ∧ Pot (n + k) o2 ∧ Q d ∧ HB.noref d = true := by
  obtain ⟨d, o2, e1, p1, q, nr⟩ := h.call ha (m := [o]) (j := 0) rfl hp hn
  exact ⟨d, o2, e1, p1, q, nr⟩
theorem dr1 {t : Int} (ht : 0 < t) (hl : t.natAbs.log2 < 9000) {n : Nat} {o : MO} (hp : Pot n o) (hn : n + 1 ≤ 100000) : ∃ (i : Int) (o2 : MO), callD F_stir [.ref 0, .int t] [o] = .ok (.int i) [o2] ∧ Pot (n + 1) o2 ∧ 0 ≤ i ∧ i < t := dr_stir ht hl (m := [o]) (j := 0) rfl hp hn
end HB
namespace K09
open PySem HB L2
theorem e_stir : F_law_stir = F_stir := rfl
theorem e_one : F_law_one_of = F_one_of := rfl
theorem e_shuf : F_law_shuffled = F_shuffled := rfl
theorem e_pot : F_law_pot = F_pot := rfl
def wds : List Str := ["a", "b", "c", "d", "e", "f", "g", "h", "ab", "zz", "hue", "thing", "zzzzzzzz"]
theorem wds_nm : ∀ s ∈ wds, isNm s = true := by
  have : wds.all isNm = true := by decide +kernel
  simpa [List.all_eq_true] using this
theorem wds_nd : wds.Nodup := by decide +kernel
theorem wds_q : ("q" : Str) ∉ wds := by decide +kernel
theorem r_words {n : Nat} (hn : n ≤ 8) : PotFn F_law_words [.int (n : Int)] 13 (fun d => ∃ S : List Str, d = .tup (S.map .str) ∧ (S.Pairwise fun a b => a.cps.toList < b.cps.toList) ∧ S.length = n ∧ ∀ s ∈ S, s ∈ wds) := by
  intro k o hp hk
  obtain ⟨d, o2, e1, p1, ⟨ys, rfl, py⟩, _⟩ := (r_shuffled (d := .lst (wds.map .str)) (.inl rfl) (by decide) (nr_tup wds)).call1 (by simp [norefL, noref, nr_tup]) hp hk
  obtain ⟨T, pT, rfl⟩ := perm_strs py
  have e2 : slD (.lst (T.map .str)) none (some (n : Int)) [o2] = .ok (.lst ((T.take n).map .str)) [o2] := by
    simp only [slD, viewS, viewL, cut_take, List.map_take]
  have lT : T.length = 13 := pT.length_eq
  have e3 : bfD .sorted [.lst ((T.take n).map .str)] [o2] = .ok (.lst ((sortS (T.take n)).map .str)) [o2] := bx_sorted (by simp; omega)
  have nd : (T.take n).Nodup := ((pT.nodup_iff).mpr wds_nd).sublist (List.take_sublist n T)
  have sp := sortS_perm (T.take n)
  refine ⟨.tup ((sortS (T.take n)).map .str), o2, [], ?_, p1, ⟨_, rfl, sort_so nd, ?_, ?_⟩, nr_tup _⟩
  · clear gorun b_law_words
    · clear gos
      refine kk_ret (ev_blt (ev_cons (ev_blt (ev_cons (ev_slH (ev_call (ev_cons (by clear go) (ev_cons (by clear go) ev_nil)) rfl e1) rfl (by clear go) e2) ev_nil) e3) ev_nil) bx_tuple)
    · exact rfl
  · rw [sp.length_eq, List.length_take]; omega
  · intro s hs
    exact pT.mem_iff.mp (List.mem_of_mem_take (sp.mem_iff.mp hs))
theorem pow15 (m : M) : bopD .pow (.int 10) (.int 15) m = .ok (.int (10 ^ 15)) m := by
  simp only [bopD, powD]
  rw [if_pos (by decide +kernel)]
  rfl
theorem pow9 (m : M) : bopD .pow (.int 10) (.int 9) m = .ok (.int (10 ^ 9)) m := by
  simp only [bopD, powD]
  rw [if_pos (by decide +kernel)]
  rfl
theorem pow20 (m : M) : bopD .pow (.int 10) (.int 20) m = .ok (.int (10 ^ 20)) m := by
  simp only [bopD, powD]
  rw [if_pos (by decide +kernel)]
  rfl
end K09
open PySem L2 HB K09
local macro_rules | `(tactic| clear $x:ident) => if x.getId.eraseMacroScopes == `gx then `(tactic| first | (with_reducible exact pow15 _) | (with_reducible exact pow9 _) | (with_reducible exact pow20 _)) else Lean.Macro.throwUnsupported
namespace K09
open PySem HB L2
theorem l15 : ((10 ^ 15 : Int)).natAbs.log2 < 9000 := by decide +kernel
theorem r_number : PotFn F_law_number [] 4 (fun d => ∃ i : Int, d = .int i ∧ i.natAbs < 10 ^ 30) := by
  intro n o hp hn
  obtain ⟨w, o1, e1, p1, w0, w1⟩ := dr1 (t := 6) (by decide) (by decide) hp (by omega)
  by_cases h4 : w < 4
  · obtain ⟨x, o2, e2, p2, x0, x1⟩ := dr1 (t := 9) (by decide) (by decide) p1 (by omega)
    refine ⟨.int (x - 3), o2, [], ?_, p2.mono (by omega), ⟨_, rfl, by omega⟩, rfl⟩
    unfold F_law_number
    rw [e_stir]
    clear gorun b_law_number
    · clear gos
      clear gos
      clear gos
    · exact rfl
  · obtain ⟨x, o2, e2, p2, x0, x1⟩ := dr1 (t := 10 ^ 15) (by decide) l15 p1 (by omega)
    obtain ⟨y, o3, e3, p3, y0, y1⟩ := dr1 (t := 10 ^ 15) (by decide) l15 p2 (by omega)
    have lx : x.natAbs.log2 + ((10 ^ 15 : Int)).natAbs.log2 < 1000000 := by
      have h1 : bd x := by unfold bd; omega
      have h2 : bd (10 ^ 15) := by unfold bd; decide +kernel
      exact h1.m2 h2
    by_cases h5 : w = 4
    · refine ⟨.int (x * 10 ^ 15 + y), o3, [], ?_, p3.mono (by omega), ⟨_, rfl, by omega⟩, rfl⟩
      unfold F_law_number
      rw [e_stir]
      clear gorun b_law_number
      · clear gos
        clear gos
        clear gos
        clear gos
        clear gos
      · exact rfl
    · refine ⟨.int (0 - (x * 10 ^ 15 + y)), o3, [], ?_, p3.mono (by omega), ⟨_, rfl, by omega⟩, rfl⟩
      unfold F_law_number
      rw [e_stir]
      clear gorun b_law_number
      · clear gos
        clear gos
        clear gos
        clear gos
        clear gos
      · exact rfl
end K09
namespace HB
open PySem L2
section
variable {fs : List Sem} {env : Env} {m m1 m2 : M} {i : Nat} {x : Str} {c e : T} {d y : D}
theorem lcSt_val (h : evE fs e (env.set i (some d)) m = .ok y m2) : lcSt fs [(x, i)] (.name i) .noP e env d m = .ok (some y) m2 := by
  have np : isNoP .noP = true := rfl
  simp only [lcSt, asgG, List.map_cons, List.map_nil, wipeD, List.set_set, np, if_true, R.bind_ok, h]
theorem lcSt_yes (hc : isNoP c = false) (h : evE fs c (env.set i (some d)) m = .ok (.bl true) m1) (he : evE fs e (env.set i (some d)) m1 = .ok y m2) : lcSt fs [(x, i)] (.name i) c e env d m = .ok (some y) m2 := by
  simp only [lcSt, asgG, List.map_cons, List.map_nil, wipeD, List.set_set, hc, Bool.false_eq_true, if_false, R.bind_ok, h, truth_bl, if_true, he]
theorem lcSt_no (hc : isNoP c = false) (h : evE fs c (env.set i (some d)) m = .ok (.bl false) m1) : lcSt fs [(x, i)] (.name i) c e env d m = .ok none m1 := by
  simp only [lcSt, asgG, List.map_cons, List.map_nil, wipeD, List.set_set, hc, Bool.false_eq_true, if_false, R.bind_ok, h, truth_bl]
/-- a comprehension behind a draw -/
theorem lcMs {α : Type} {S : List α} {it : T} {f : α → D} {P : α → D} (hi : evE fs it env m = .ok d m1) (hv : viewI d m1 = some (S.map f)) (hl : S.length ≤ 1000000) (h : ∀ s ∈ S, evE fs e (env.set i (some (f s))) m1 = .ok (P s) m1) :
    evE fs (.lc [(x, i)] (.name i) it .noP e) env m = .ok (.lst (S.map P)) m1 := by
  refine ev_lc hi hv (by simpa using hl) ?_
  have hgo : ∀ (S : List α) (acc : List D), (∀ s ∈ S, evE fs e (env.set i (some (f s))) m1 = .ok (P s) m1) → lcGo (lcSt fs [(x, i)] (.name i) .noP e env) (S.map f) acc m1 = .ok (acc ++ S.map P) m1 := by
    intro S
    induction S with
    | nil => intro acc _; simp [lcGo]
    | cons s S ih =>
      intro acc h
      simp only [List.map_cons, lcGo, lcSt_val (h s List.mem_cons_self)]
      rw [ih _ fun z hz => h z (List.mem_cons_of_mem _ hz)]
      simp
  simpa using hgo S [] h
end
end HB
namespace K09
open PySem HB L2
/-- what is drawn for each thing -/
theorem dict_draw {fs : List HB.Sem} {env : HB.Env} {S : List Str} {e : T} {i k n : Nat} {o : MO} {x : Str} {it : T} {Q : Int → Prop} (nd : S.Nodup) (h8 : S.length ≤ 8) (hp : Pot n o) (hn : n + 8 * k ≤ 100000)
    (hi : evE fs it env [o] = .ok (.tup (S.map .str)) [o])
    (he : ∀ s ∈ S, ∀ l o, Pot l o → l + k ≤ 100000 → ∃ v o2, evE fs e (env.set i (some (.str s))) [o] = .ok (.tup [.str s, .int v]) [o2] ∧ Pot (l + k) o2 ∧ Q v) :
    ∃ f o2, evE fs (.blt .dict (.cons (.lc [(x, i)] (.name i) it .noP e) .nil)) env [o] = .ok (dI S f) [o2] ∧ Pot (n + 8 * k) o2 ∧ ∀ s ∈ S, Q (f s) := by
  obtain ⟨f, m2, e1, ⟨o2, rfl, p2⟩, q⟩ := lc_draw (step := lcSt fs [(x, i)] (.name i) .noP e env) (fun j m => ∃ o2, m = [o2] ∧ Pot (n + j * k) o2) Q (S := S) (acc := []) (m := [o]) (n := 0) nd ⟨o, rfl, by simpa using hp⟩ (by
    rintro s hs j m hj ⟨o1, rfl, p1⟩
    have hj' : (j + 1) * k ≤ 8 * k := Nat.mul_le_mul_right _ (by omega)
    rw [Nat.succ_mul] at hj'
    obtain ⟨v, o2, e2, p2, q2⟩ := he s hs (n + j * k) o1 p1 (by omega)
    exact ⟨v, [o2], lcSt_val e2, ⟨o2, rfl, by rw [Nat.succ_mul, ← Nat.add_assoc]; exact p2⟩, q2⟩)
  have hl : S.length * k ≤ 8 * k := Nat.mul_le_mul_right _ h8
  refine ⟨f, o2, ?_, p2.mono (by simpa using hl), q⟩
  refine ev_blt (ev_cons (ev_lc hi rfl (by simp; omega) e1) ev_nil) ?_
  rw [List.nil_append]
  exact bx_dict_lst nd
theorem r_sums {S : List Str} (so : S.Pairwise fun a b => a.cps.toList < b.cps.toList) (l0 : 1 ≤ S.length) (l8 : S.length ≤ 8) (nm : ∀ s ∈ S, isNm s = true) :
    PotFn F_law_sums [.tup (S.map .str)] 40 (fun d => ∃ (f : Str → Int) (u : Nat), d = .tup [dI S f, .int (u : Int)] ∧ Cg S f u ∧ (∀ s ∈ S, (f s).natAbs < 10 ^ 30) ∧ u ≤ 10 ^ 9) := by
  intro n o hp hn
  have nd := so_nd so
  have cg : ∀ (f : Str → Int) (u : Nat), (∀ s ∈ S, (f s).natAbs < 10 ^ 30) → 0 < u → u ≤ 10 ^ 9 → Cg S f u := fun f u hf u0 ub =>
    ⟨so, l0, l8, nm, fun s hs => Nat.lt_trans (hf s hs) (by decide +kernel), u0, Nat.lt_of_le_of_lt ub (by decide +kernel)⟩
  have nrD : ∀ (f : Str → Int) (u : Int), noref (.tup [dI S f, .int u]) = true := fun f u => by simp [noref, norefL, noref_dI']
  obtain ⟨w, o1, e1, p1, w0, w1⟩ := dr1 (t := 4) (by decide) (by decide) hp (by omega)
  unfold F_law_sums
  rw [e_stir, e_one]
  by_cases h0 : w = 0
  · obtain ⟨f, o2, e2, p2, q2⟩ := dict_draw (fs := [F_stir, F_one_of, F_law_number]) (env := [some (.ref 0), some (.tup (S.map .str)), some (.int w), none]) (S := S) (i := 3) (k := 1) (x := "_law_one") (it := .var 1)
      (e := .tup (.cons (.var 3) (.cons (.call 0 (.cons (.var 0) (.cons (.int 2) .nil))) .nil))) (Q := fun v => v.natAbs < 10 ^ 30) nd l8 p1 (by omega) (ev_var rfl) (by
        intro s hs l o hp hl
        obtain ⟨v, o2, e, p, v0, v1⟩ := dr1 (t := 2) (by decide) (by decide) hp hl
        exact ⟨v, o2, by clear goq, p, by omega⟩)
    refine ⟨.tup [dI S f, .int (1 : Nat)], o2, [], ?_, p2.mono (by omega), ⟨f, 1, rfl, cg f 1 q2 (by decide) (by decide), q2, by decide⟩, nrD _ _⟩
    clear gorun b_law_sums
    · clear gos
      clear gos
      exact kk_ret (ev_tup (ev_cons e2 (ev_cons ev_int ev_nil)) (by simp))
    · exact rfl
  · by_cases h1 : w = 1
    · obtain ⟨f, o2, e2, p2, q2⟩ := dict_draw (fs := [F_stir, F_one_of, F_law_number]) (env := [some (.ref 0), some (.tup (S.map .str)), some (.int w), none]) (S := S) (i := 3) (k := 1) (x := "_law_one") (it := .var 1)
        (e := .tup (.cons (.var 3) (.cons (.call 0 (.cons (.var 0) (.cons (.int 5) .nil))) .nil))) (Q := fun v => v.natAbs < 10 ^ 30) nd l8 p1 (by omega) (ev_var rfl) (by
          intro s hs l o hp hl
          obtain ⟨v, o2, e, p, v0, v1⟩ := dr1 (t := 5) (by decide) (by decide) hp hl
          exact ⟨v, o2, by clear goq, p, by omega⟩)
      obtain ⟨x, o3, e3, p3, x0, x1⟩ := dr1 (t := 4) (by decide) (by decide) p2 (by omega)
      have hx : 1 + x = ((1 + x).toNat : Int) := by omega
      refine ⟨.tup [dI S f, .int (((1 + x).toNat : Nat) : Int)], o3, [], ?_, p3.mono (by omega), ⟨f, _, rfl, cg f _ q2 (by omega) (by omega), q2, by omega⟩, nrD _ _⟩
      clear gorun b_law_sums
      · clear gos
        clear gos
        clear gos
        clear gos
        exact kk_ret (ev_tup (ev_cons e2 (ev_cons (by clear go) ev_nil)) (by simp))
      · rw [← hx]
    · obtain ⟨f, o2, e2, p2, q2⟩ := dict_draw (fs := [F_stir, F_one_of, F_law_number]) (env := [some (.ref 0), some (.tup (S.map .str)), some (.int w), none]) (S := S) (i := 3) (k := 4) (x := "_law_one") (it := .var 1)
        (e := .tup (.cons (.var 3) (.cons (.call 2 (.cons (.var 0) .nil)) .nil))) (Q := fun v => v.natAbs < 10 ^ 30) nd l8 p1 (by omega) (ev_var rfl) (by
          intro s hs l o hp hl
          obtain ⟨d, o2, e, p, ⟨v, rfl, hv⟩, _⟩ := r_number.call1 rfl hp hl
          exact ⟨v, o2, by clear goq, p, hv⟩)
      obtain ⟨d, o3, e3, p3, q3, _⟩ := (r_one_of_lst (ds := [.int 6, .int 12, .int (10 ^ 9)]) (by simp) (by simp) rfl (by simp [noref])).call1 rfl p2 (by omega)
      have ht : ∃ t : Int, d = .int t ∧ 0 < t ∧ t ≤ 10 ^ 9 ∧ t.natAbs.log2 < 9000 := by
        simp only [List.mem_cons, List.not_mem_nil, or_false] at q3
        rcases q3 with rfl | rfl | rfl
        · exact ⟨_, rfl, by decide, by decide, by decide⟩
        · exact ⟨_, rfl, by decide, by decide, by decide⟩
        · exact ⟨_, rfl, by decide, by decide, by decide +kernel⟩
      obtain ⟨t, rfl, t0, t1, tl⟩ := ht
      obtain ⟨x, o4, e4, p4, x0, x1⟩ := dr1 (t := t) t0 tl p3 (by omega)
      have hx : 1 + x = ((1 + x).toNat : Int) := by omega
      refine ⟨.tup [dI S f, .int (((1 + x).toNat : Nat) : Int)], o4, [], ?_, p4.mono (by omega), ⟨f, _, rfl, cg f _ q2 (by omega) (by omega), q2, by omega⟩, nrD _ _⟩
      clear gorun b_law_sums
      · clear gos
        clear gos
        clear gos
        clear gos
        clear gos
        exact kk_ret (ev_tup (ev_cons e2 (ev_cons (by clear go) ev_nil)) (by simp))
      · rw [← hx]
end K09
namespace HB
open PySem L2
section
variable {m : M}
theorem op_adL {xs ys : List D} (h : xs.length + ys.length ≤ 1000000) : bopD .add (.lst xs) (.lst ys) m = .ok (.lst (xs ++ ys)) m := by
  simp only [bopD, addD, viewL]
  rw [if_pos (by rw [sizeLine_eq]; omega)]
end
end HB
namespace K09
open PySem HB L2
end K09
open PySem L2 HB K09
local macro_rules | `(tactic| clear $x:ident) => if x.getId.eraseMacroScopes == `gx then `(tactic| (with_reducible assumption)) else Lean.Macro.throwUnsupported
namespace K09
open PySem HB L2
section
variable {S T C : List Str} {f q : Str → Int} {u v : Nat}
theorem Cg.red (c : Cg S f u) : Red S f u (rq S f u) (rv S f u) := red_of c.v0
theorem rv_pos (c : Cg S f u) : 0 < rv S f u := Nat.div_pos (gS_le c.v0 S) (gS_pos c.v0)
theorem Cg.low (c : Cg S f u) : Cg S (rq S f u) (rv S f u) := ⟨c.so, c.l0, c.l8, c.nm, fun s hs => by
    refine Nat.lt_of_le_of_lt ?_ (c.fb s hs)
    unfold rq
    rw [Int.fdiv_eq_ediv_of_nonneg _ (by omega)]
    exact Int.natAbs_ediv_le_natAbs _ _, rv_pos c, Nat.lt_of_le_of_lt (Nat.div_le_self _ _) c.vb⟩
/-- cut out, in lowest terms -/
theorem Red.cut (r : Red S f u q v) (hC : ∀ s ∈ C, s ∈ S) (v0 : 0 < v) : Red C f u (rq C q v) (rv C q v) := by
  obtain ⟨g, g0, h1, h2⟩ := r.ex
  have r2 : Red C q v (rq C q v) (rv C q v) := red_of v0
  obtain ⟨g', g0', h1', h2'⟩ := r2.ex
  refine ⟨⟨g * g', Nat.mul_pos g0 g0', fun s hs => ?_, ?_⟩, r2.one⟩
  · rw [h1 s (hC s hs), h1' s hs, Int.natCast_mul, Int.mul_assoc]
  · rw [h2]
    conv => lhs; rw [h2']
    rw [Nat.mul_assoc]
/-- what is in lowest terms stays -/
theorem chg_low (h : gS S q v = 1) : chg S (rq S q v) (rv S q v) = chg S q v := by
  have e1 : rv S q v = v := by unfold rv; rw [h, Nat.div_one]
  have e2 : dI S (rq S q v) = dI S q := dD_congr fun s hs => congrArg D.int (by unfold rq; rw [h]; simp)
  unfold chg
  rw [e1, e2]
theorem d_eq {w : Nat} {m : M} : callD F_Charge___eq [chg S q v, chg S f w] m = .ok (.bl (decide (v = w) && S.all fun s => decide (q s = f s))) m := call_pure (nrL1 nr_chg) s_eq rfl
theorem d_eq_self {m : M} : callD F_Charge___eq [chg S q v, chg S q v] m = .ok (.bl true) m := by
  rw [d_eq]; simp
theorem low_zero (v0 : 0 < v) : lowT 0 v = .tup [.int 0, .int 1] := by
  unfold lowT
  have e : Int.gcd 0 v = v := by simp [Int.gcd]
  rw [e, fdn, Nat.div_self v0]
  simp
theorem dr_crowd {fs : List HB.Sem} {env : HB.Env} {c : HB.T} {i n : Nat} {o : MO} {x : Str} {it : HB.T} {d : D} (h8 : S.length ≤ 8) (hE : i < env.length) (hp : Pot n o) (hn : n + 8 ≤ 100000) (hc0 : isNoP c = false)
    (hi : evE fs it env [o] = .ok d [o]) (hv : viewI d [o] = some (S.map .str))
    (hc : ∀ s ∈ S, ∀ l o, Pot l o → l + 1 ≤ 100000 → ∃ b o2, evE fs c (env.set i (some (.str s))) [o] = .ok (.bl b) [o2] ∧ Pot (l + 1) o2) :
    ∃ (C : List Str) (o2 : MO), evE fs (.lc [(x, i)] (.name i) it c (.var i)) env [o] = .ok (.lst (C.map .str)) [o2] ∧ Pot (n + 8) o2 ∧ C.Sublist S := by
  obtain ⟨C, m2, e1, ⟨o2, rfl, p2⟩, q⟩ := lc_some (step := lcSt fs [(x, i)] (.name i) c (.var i) env) (fun j m => ∃ o2, m = [o2] ∧ Pot (n + j) o2) (S := S) (acc := []) (m := [o]) (n := 0) ⟨o, rfl, by simpa using hp⟩ (by
    rintro s hs j m hj ⟨o1, rfl, p1⟩
    obtain ⟨b, o2, e2, p2⟩ := hc s hs (n + j) o1 p1 (by omega)
    refine ⟨[o2], ?_, ⟨o2, rfl, p2⟩⟩
    cases b with
    | true => exact .inl (lcSt_yes hc0 e2 (ev_var (has_self hE)))
    | false => exact .inr (lcSt_no hc0 e2))
  refine ⟨C, o2, ?_, p2.mono (by omega), q⟩
  have := ev_lc hi hv (by simp; omega) e1
  rw [List.nil_append] at this
  exact this
end
end K09
namespace K09
open PySem HB L2
/-- charges by any fractions -/
abbrev N (S : List Str) (f : Str → Int) (u : Nat) : D := chg S (rq S f u) (rv S f u)
theorem low_eq {a b c d : Int} (b0 : 0 < b) (d0 : 0 < d) (h : a * d = c * b) : lowT a b = lowT c d := by
  have e1 := low_mul (c := d.toNat) (a := a) (b := b) (by omega) (by omega)
  have e2 := low_mul (c := b.toNat) (a := c) (b := d) (by omega) (by omega)
  rw [Int.toNat_of_nonneg (by omega)] at e1 e2
  rw [← e1, ← e2, Int.mul_comm d a, h, Int.mul_comm c b, Int.mul_comm d b]
section
variable {S T C : List Str} {f g : Str → Int} {u w : Nat}
theorem N_congr (h : ∀ s ∈ S, f s = g s) : N S f u = N S g u := by
  have e1 : gS S f u = gS S g u := gS_congr h
  have e2 : dI S (rq S f u) = dI S (rq S g u) := dD_congr fun s hs => congrArg D.int (by unfold rq; rw [e1, h s hs])
  unfold N chg rv
  rw [e2, e1]
theorem N_mul {k : Nat} (k0 : 0 < k) (u0 : 0 < u) : N S (fun s => (k : Int) * f s) (k * u) = N S f u := by
  have e1 : gS S (fun s => (k : Int) * f s) (k * u) = k * gS S f u := gS_mul
  have g0 := gS_pos (f := f) (S := S) u0
  have e2 : rv S (fun s => (k : Int) * f s) (k * u) = rv S f u := by unfold rv; rw [e1]; exact Nat.mul_div_mul_left _ _ k0
  have e3 : ∀ s ∈ S, rq S (fun s => (k : Int) * f s) (k * u) s = rq S f u s := by
    intro s hs
    unfold rq
    rw [e1]
    obtain ⟨y, hy⟩ := ((gS_dvd (f := f) (d := gS S f u) (S := S) (u := u)).mp (Nat.dvd_refl _)).2 s hs
    have n1 : ((k * gS S f u : Nat) : Int) ≠ 0 := by
      have := Nat.mul_pos k0 g0
      omega
    rw [fdiv_of (c := y) (by omega) hy, fdiv_of (c := y) n1 (by show (k : Int) * f s = _; rw [hy, Int.natCast_mul, Int.mul_assoc])]
  have e4 : dI S (rq S (fun s => (k : Int) * f s) (k * u)) = dI S (rq S f u) := dD_congr fun s hs => congrArg D.int (e3 s hs)
  unfold N chg
  rw [e2, e4]
theorem N_eq (u0 : 0 < u) (w0 : 0 < w) (h : ∀ s ∈ S, f s * w = g s * u) : N S f u = N S g w := by
  rw [← N_mul (f := f) w0 u0, ← N_mul (f := g) u0 w0, Nat.mul_comm u w]
  exact N_congr fun s hs => by rw [Int.mul_comm, h s hs, Int.mul_comm]
theorem N_perm (p : T.Perm S) : chg S (rq T f u) (rv T f u) = N S f u := by
  have e : gS T f u = gS S f u := gS_perm p
  have e2 : dI S (rq T f u) = dI S (rq S f u) := dD_congr fun s hs => congrArg D.int (by unfold rq; rw [e])
  unfold N chg rv
  rw [e2, e]
end
/-! ### bounds -/
def Bx (x : Nat) (a : Int) : Prop := a.natAbs < 10 ^ x
theorem Bx.up {x y : Nat} {a : Int} (h : Bx x a) (hx : x ≤ y) : Bx y a := Nat.lt_of_lt_of_le h (Nat.pow_le_pow_right (by decide) hx)
theorem Bx.mul {x y : Nat} {a b : Int} (ha : Bx x a) (hb : Bx y b) : Bx (x + y) (a * b) := by
  unfold Bx at *
  rw [Int.natAbs_mul, Nat.pow_add]
  exact Nat.mul_lt_mul'' ha hb
theorem Bx.add {x : Nat} {a b : Int} (ha : Bx x a) (hb : Bx x b) : Bx (x + 1) (a + b) := by
  unfold Bx at *
  have := Int.natAbs_add_le a b
  rw [Nat.pow_succ]
  omega
theorem Bx.bd {x : Nat} {a : Int} (ha : Bx x a) (hx : x ≤ 200) : bd a := ha.up hx
theorem Bx.fd {x : Nat} {a : Int} {g : Nat} (h : Bx x a) : Bx x (a.fdiv (g : Int)) := by
  unfold Bx at *
  refine Nat.lt_of_le_of_lt ?_ h
  rw [Int.fdiv_eq_ediv_of_nonneg _ (by omega)]
  exact Int.natAbs_ediv_le_natAbs a g
/-- charges in order, with a bound -/
structure Cx (S : List Str) (f : Str → Int) (u x : Nat) : Prop where
  so : S.Pairwise fun a b => a.cps.toList < b.cps.toList
  l0 : 1 ≤ S.length
  l8 : S.length ≤ 8
  nm : ∀ s ∈ S, isNm s = true
  fb : ∀ s ∈ S, Bx x (f s)
  v0 : 0 < u
  vb : Bx x u
  xb : x ≤ 190
section
variable {S T C : List Str} {f g : Str → Int} {u w x y : Nat} {m : M}
theorem Cx.cg (c : Cx S f u x) : Cg S f u := ⟨c.so, c.l0, c.l8, c.nm, fun s hs => (c.fb s hs).up c.xb, c.v0, by
  have := c.vb.up c.xb
  unfold Bx at this
  rwa [Int.natAbs_natCast] at this⟩
theorem Cx.low (c : Cx S f u x) : Cx S (rq S f u) (rv S f u) x := ⟨c.so, c.l0, c.l8, c.nm, fun s hs => (c.fb s hs).fd, rv_pos c.cg, by
  have := c.vb
  unfold Bx at *
  rw [Int.natAbs_natCast] at *
  exact Nat.lt_of_le_of_lt (Nat.div_le_self _ _) this, c.xb⟩
theorem Cx.sort (c : Cx S f u x) : sortS S = S := so_sort c.so
theorem Cx.nd (c : Cx S f u x) : S.Nodup := so_nd c.so
theorem Cx.up (c : Cx S f u x) (h : x ≤ y) (hy : y ≤ 190) : Cx S f u y := ⟨c.so, c.l0, c.l8, c.nm, fun s hs => (c.fb s hs).up h, c.v0, c.vb.up h, hy⟩
/-- what stands in lowest terms -/
theorem Cx.ex (c : Cx S f u x) : ∃ G : Nat, 0 < G ∧ (∀ s ∈ S, f s = (G : Int) * rq S f u s) ∧ (u : Int) = (G : Int) * (rv S f u : Nat) := by
  obtain ⟨G, g0, h1, h2⟩ := c.cg.red.ex
  exact ⟨G, g0, h1, by rw [← Int.natCast_mul, ← h2]⟩
theorem d_cw (h : Pm S f u) (so : sortS S = S) : callD F_charge_with [dI S f, .int (u : Int)] m = .ok (N S f u) m := by
  have := d_charge_with h (m := m)
  rw [so] at this
  exact this
theorem Cx.pm (c : Cx S f u x) : Pm S f u := ⟨c.nd, c.l8, fun s hs => (c.fb s hs).bd (by have := c.xb; omega), c.v0, c.vb.bd (by have := c.xb; omega)⟩
theorem d_cwx (c : Cx S f u x) : callD F_charge_with [dI S f, .int (u : Int)] m = .ok (N S f u) m := d_cw c.pm c.sort
theorem Cx.v0' (c : Cx S f u x) : (0 : Int) < u := by have := c.v0; omega
/-- multiples of two -/
theorem Cx.joint {a b : Int} {z : Nat} (c : Cx S f u x) (d : Cx S g w y) (ha : Bx z a) (hb : Bx z b) (hx : x + y + z + 1 ≤ 190) : Cx S (fun s => f s * (a * w) + g s * (b * u)) (u * w) (x + y + z + 1) :=
  ⟨c.so, c.l0, c.l8, c.nm, fun s hs => Bx.add (((c.fb s hs).mul (ha.mul d.vb)).up (by omega)) (((d.fb s hs).mul (hb.mul c.vb)).up (by omega)), Nat.mul_pos c.v0 d.v0, by
    rw [Int.natCast_mul]
    exact (c.vb.mul d.vb).up (by omega), hx⟩
theorem s_joint {a b : Int} {z : Nat} (c : Cx S f u x) (d : Cx S g w y) (ha : Bx z a) (hb : Bx z b) (hx : x + y + z + 1 ≤ 190) : F_joint_charge [chg S f u, chg S g w, .int a, .int b] m = .ok (N S (fun s => f s * (a * w) + g s * (b * u)) (u * w)) m := by
  have l8 := c.l8
  have b1 : a.natAbs.log2 + (w : Int).natAbs.log2 < 1000000 := (ha.bd (by omega)).m2 (d.vb.bd (by omega))
  have b2 : b.natAbs.log2 + (u : Int).natAbs.log2 < 1000000 := (hb.bd (by omega)).m2 (c.vb.bd (by omega))
  have b3 : (u : Int).natAbs.log2 + (w : Int).natAbs.log2 < 1000000 := (c.vb.bd (by omega)).m2 (d.vb.bd (by omega))
  have e := d_cwx (c.joint d ha hb hx) (m := m)
  rw [Int.natCast_mul] at e
  clear gorun b_joint_charge
  · clear gos
    refine kk_asg1 (dcN (P := fun s => .int (f s * (a * w) + g s * (b * u))) (S := S) (d := .tup (S.map .str)) (by clear go) rfl (by omega) c.nd (by simp) ?_) ?_
    · intro s hs
      have b4 : (f s).natAbs.log2 + (a * w).natAbs.log2 < 1000000 := ((c.fb s hs).bd (by omega)).m2 ((ha.mul d.vb).bd (by omega))
      have b5 : (g s).natAbs.log2 + (b * u).natAbs.log2 < 1000000 := ((d.fb s hs).bd (by omega)).m2 ((hb.mul c.vb).bd (by omega))
      clear goq
    · clear gos
  · exact rfl
theorem d_joint {a b : Int} {z : Nat} (c : Cx S f u x) (d : Cx S g w y) (ha : Bx z a) (hb : Bx z b) (hx : x + y + z + 1 ≤ 190) : callD F_joint_charge [N S f u, N S g w, .int a, .int b] m = .ok (N S (fun s => f s * (a * w) + g s * (b * u)) (u * w)) m := by
  obtain ⟨G, g0, h1, h2⟩ := c.ex
  obtain ⟨H, k0, h3, h4⟩ := d.ex
  have e : N S (fun s => rq S f u s * (a * (rv S g w : Nat)) + rq S g w s * (b * (rv S f u : Nat))) (rv S f u * rv S g w) = N S (fun s => f s * (a * w) + g s * (b * u)) (u * w) :=
    N_eq (Nat.mul_pos c.low.v0 d.low.v0) (Nat.mul_pos c.v0 d.v0) fun s hs => by
      rw [h1 s hs, h3 s hs, Int.natCast_mul, Int.natCast_mul, h2, h4]
      grind
  rw [← e]
  exact call_pure (by simp [norefL, nr_chg, noref]) (s_joint c.low d.low ha hb hx) nr_chg
theorem s_like (h : ∀ s ∈ S, isNm s = true) : F_require_like [chg S f u, chg S g w] m = .ok .non m := by
  have e : copD .ne (.tup (S.map .str)) (.tup (S.map .str)) m = .ok (.bl false) m := by
    have := op_ne_of (eqB_tupS (S := S) (T := S) (m := m) (fun s hs => nm_ok (h s hs)) (fun s hs => nm_ok (h s hs)))
    simpa using this
  clear gorunN b_require_like
  · clear gos
    clear gos
    clear gos
  · exact rfl
theorem d_like (h : ∀ s ∈ S, isNm s = true) : callD F_require_like [chg S f u, chg S g w] m = .ok .non m := call_pure (by simp [norefL, nr_chg]) (s_like h) rfl
theorem Bx1 : Bx 1 1 := by unfold Bx; decide
theorem Bx1n : Bx 1 (-1) := by unfold Bx; decide
theorem s_add (c : Cx S f u x) (d : Cx S g w y) (hx : x + y + 2 ≤ 190) : F_Charge___add [N S f u, N S g w] m = .ok (N S (fun s => f s * (1 * w) + g s * (1 * u)) (u * w)) m := by
  have e1 := d_like (f := rq S f u) (u := rv S f u) (g := rq S g w) (w := rv S g w) c.nm (m := m)
  have e2 := d_joint c d Bx1 Bx1 (by omega) (m := m)
  clear gorun b_Charge___add
  · clear gos
    clear gos
  · exact rfl
theorem s_sub (c : Cx S f u x) (d : Cx S g w y) (hx : x + y + 2 ≤ 190) : F_Charge___sub [N S f u, N S g w] m = .ok (N S (fun s => f s * (1 * w) + g s * (-1 * u)) (u * w)) m := by
  have e1 := d_like (f := rq S f u) (u := rv S f u) (g := rq S g w) (w := rv S g w) c.nm (m := m)
  have e2 := d_joint c d Bx1 Bx1n (by omega) (m := m)
  clear gorun b_Charge___sub
  · clear gos
    clear gos
  · exact rfl
theorem nrNN : norefL [N S f u, N T g w] = true := by simp [norefL, nr_chg]
theorem d_add (c : Cx S f u x) (d : Cx S g w y) (hx : x + y + 2 ≤ 190) : callD F_Charge___add [N S f u, N S g w] m = .ok (N S (fun s => f s * (1 * w) + g s * (1 * u)) (u * w)) m := call_pure nrNN (s_add c d hx) nr_chg
theorem d_sub (c : Cx S f u x) (d : Cx S g w y) (hx : x + y + 2 ≤ 190) : callD F_Charge___sub [N S f u, N S g w] m = .ok (N S (fun s => f s * (1 * w) + g s * (-1 * u)) (u * w)) m := call_pure nrNN (s_sub c d hx) nr_chg
theorem ox_add {fs : List HB.Sem} {tbl : List (Str × Nat)} {sem : HB.Sem} {r : HB.R D} (hs : semO fs tbl "Charge" = some sem) (h : callD sem [chg S f u, chg T g w] m = r) : obD fs tbl .addO (chg S f u) (chg T g w) m = r := by
  have e : obD fs tbl .addO (chg S f u) (chg T g w) m = (if ("Charge" : Str) = "Charge" then match semO fs tbl "Charge" with
    | some sem => callD sem [chg S f u, chg T g w] m
    | none => .no else .no) := by
    unfold obD chg; rfl
  rw [e, hs, ← h]
  simp
theorem ox_sub {fs : List HB.Sem} {tbl : List (Str × Nat)} {sem : HB.Sem} {r : HB.R D} (hs : semO fs tbl "Charge" = some sem) (h : callD sem [chg S f u, chg T g w] m = r) : obD fs tbl .subO (chg S f u) (chg T g w) m = r := by
  have e : obD fs tbl .subO (chg S f u) (chg T g w) m = (if ("Charge" : Str) = "Charge" then match semO fs tbl "Charge" with
    | some sem => callD sem [chg S f u, chg T g w] m
    | none => .no else .no) := by
    unfold obD chg; rfl
  rw [e, hs, ← h]
  simp
/-- so many times as much -/
theorem s_share {n : Int} {k : Nat} (hn : Bx 60 n) (k0 : 0 < k) (hk : Bx 60 k) : F_require_share [.int n, .int k] m = .ok .non m := by
  have hn' : n.natAbs < 10 ^ 60 := hn
  have hk' : (k : Int).natAbs < 10 ^ 60 := hk
  clear gorunN b_require_share
  · clear gos
    clear gos
    clear gos
    clear gos
    clear gos
  · exact rfl
theorem d_share {n : Int} {k : Nat} (hn : Bx 60 n) (k0 : 0 < k) (hk : Bx 60 k) : callD F_require_share [.int n, .int k] m = .ok .non m := call_pure rfl (s_share hn k0 hk) rfl
theorem Cx.times {n : Int} {k z : Nat} (c : Cx S f u x) (hn : Bx z n) (k0 : 0 < k) (hk : Bx z k) (hx : x + z ≤ 190) : Cx S (fun s => f s * n) (u * k) (x + z) :=
  ⟨c.so, c.l0, c.l8, c.nm, fun s hs => (c.fb s hs).mul hn, Nat.mul_pos c.v0 k0, by
    rw [Int.natCast_mul]
    exact c.vb.mul hk, hx⟩
theorem s_times {n : Int} {k z : Nat} (c : Cx S f u x) (hn : Bx z n) (hz : z ≤ 60) (k0 : 0 < k) (hk : Bx z k) (hx : x + z ≤ 190) : F_Charge_times [chg S f u, .int n, .int k] m = .ok (N S (fun s => f s * n) (u * k)) m := by
  have l8 := c.l8
  have e1 := d_share (hn.up hz) k0 (hk.up hz) (m := m)
  have e := d_cwx (c.times hn k0 hk hx) (m := m)
  rw [Int.natCast_mul] at e
  have b3 : (u : Int).natAbs.log2 + (k : Int).natAbs.log2 < 1000000 := (c.vb.bd (by omega)).m2 (hk.bd (by omega))
  clear gorun b_Charge_times
  · clear gos
    refine kk_asg1 (dcN (P := fun s => .int (f s * n)) (S := S) (d := dI S f) (by clear go) view_dDI (by omega) c.nd (by simp) ?_) ?_
    · intro s hs
      have b4 : (f s).natAbs.log2 + n.natAbs.log2 < 1000000 := ((c.fb s hs).bd (by omega)).m2 (hn.bd (by omega))
      clear goq
    · clear gos
  · exact rfl
theorem d_times {n : Int} {k z : Nat} (c : Cx S f u x) (hn : Bx z n) (hz : z ≤ 60) (k0 : 0 < k) (hk : Bx z k) (hx : x + z ≤ 190) : callD F_Charge_times [N S f u, .int n, .int k] m = .ok (N S (fun s => f s * n) (u * k)) m := by
  obtain ⟨G, g0, h1, h2⟩ := c.ex
  have e : N S (fun s => rq S f u s * n) (rv S f u * k) = N S (fun s => f s * n) (u * k) :=
    N_eq (Nat.mul_pos c.low.v0 k0) (Nat.mul_pos c.v0 k0) fun s hs => by
      rw [h1 s hs, Int.natCast_mul, Int.natCast_mul, h2]
      grind
  rw [← e]
  exact call_pure (by simp [norefL, nr_chg, noref]) (s_times c.low hn hz k0 hk hx) nr_chg
theorem d_timesD {n : Int} {z : Nat} (c : Cx S f u x) (hn : Bx z n) (hz : z ≤ 60) (z0 : 1 ≤ z) (hx : x + z ≤ 190) : callD F_Charge_timesD [N S f u, .int n] m = .ok (N S (fun s => f s * n) (u * 1)) m := by
  obtain ⟨G, g0, h1, h2⟩ := c.ex
  have e : N S (fun s => rq S f u s * n) (rv S f u * 1) = N S (fun s => f s * n) (u * 1) :=
    N_eq (Nat.mul_pos c.low.v0 (by decide)) (Nat.mul_pos c.v0 (by decide)) fun s hs => by
      rw [h1 s hs, Int.natCast_mul, Int.natCast_mul, h2]
      grind
  rw [← e]
  have b : Bx z (1 : Nat) := Bx1.up z0
  exact call_pure (by simp [norefL, nr_chg, noref]) (show F_Charge_timesD [N S f u, .int n] [] = _ from s_times (k := 1) c.low hn hz (by decide) b hx) nr_chg
end
end K09
namespace HB
open PySem L2
/-- the body of the first loop -/
def frB : S → S
  | .fr _ _ b => b
  | .wh _ _ b => b
  | .cons s _ => frB s
  | _ => .nil
def tlS : S → S
  | .cons _ r => r
  | _ => .nil
theorem ref_dict_lst {S : List Str} {P : Str → D} {m : M} {j : Nat} (h : m[j]? = some (.lst (S.map fun s => .tup [.str s, P s]))) (nd : S.Nodup) : bfD .dict [.ref j] m = .ok (dD S P) m := by
  simp only [bfD, dictD, dictV, viewD, viewL, h, Option.bind_some, prs_eD, mrg_eD nd, dctOf_eD]
/-- either of two -/
def eiS (S : List Str) (P Q : Str → D) (s : Str) : D := if s ∈ S then P s else Q s
theorem ei_left {S : List Str} {P Q : Str → D} : dD S P = dD S (eiS S P Q) := dD_congr fun s hs => by unfold eiS; rw [if_pos hs]
theorem ei_right {S T : List Str} {P Q : Str → D} (h : ∀ t ∈ T, t ∉ S) : dD T Q = dD T (eiS S P Q) := dD_congr fun s hs => by unfold eiS; rw [if_neg (h s hs)]
theorem ev_dmrg {fs : List Sem} {env : Env} {m m1 m2 : M} {a b : T} {S T : List Str} {P : Str → D} (ha : evE fs a env m = .ok (dD S P) m1) (hb : evE fs b env m1 = .ok (dD T P) m2) (nd : (S ++ T).Nodup) (l1 : S.length ≤ 1000) (l2 : T.length ≤ 1000) : evE fs (.dmrg a b) env m = .ok (dD (S ++ T) P) m2 := by
  have n1 : S.Nodup := (List.nodup_append.mp nd).1
  simp only [evE, ha, hb, R.bind_ok, view_dD, len_eD, l1, l2, if_true, mrg_eD n1, mrg_go nd, dctOf_eD]
theorem items_app {S T : List Str} {P : Str → D} : (S.map fun s => D.tup [.str s, P s]) ++ (T.map fun s => D.tup [.str s, P s]) = (S ++ T).map fun s => D.tup [.str s, P s] := by simp
/-- what lies in a sorted list -/
theorem sub_sorted {S Z : List Str} (hS : S.Pairwise fun a b => a.cps.toList < b.cps.toList) (hZ : Z.Pairwise fun a b => a.cps.toList < b.cps.toList) (h : ∀ s ∈ S, s ∈ Z) : S.Sublist Z := by
  have irr : ∀ a : Str, ¬ a.cps.toList < a.cps.toList := fun a h => List.lt_irrefl _ h
  have nd : ∀ {X : List Str}, X.Pairwise (fun a b => a.cps.toList < b.cps.toList) → X.Nodup := fun hX => hX.imp fun {a b} hab e => by subst e; exact irr _ hab
  have le : ∀ {X : List Str}, X.Pairwise (fun a b => a.cps.toList < b.cps.toList) → X.Pairwise (fun a b => leS a b = true) := fun hX => hX.imp fun {a b} hab => leS_iff.mpr (List.le_of_lt hab)
  have hF : (Z.filter fun z => decide (z ∈ S)).Pairwise fun a b => a.cps.toList < b.cps.toList := hZ.sublist List.filter_sublist
  have p : (Z.filter fun z => decide (z ∈ S)).Perm S := by
    refine (List.perm_ext_iff_of_nodup (nd hF) (nd hS)).mpr fun a => ?_
    simp only [List.mem_filter, decide_eq_true_eq]
    exact ⟨fun z => z.2, fun z => ⟨h a z, z⟩⟩
  have e1 := sortS_uniq (xs := S) (ys := S) (List.Perm.refl S) (le hS)
  have e2 := sortS_uniq p (le hF)
  rw [e1, ← e2]
  exact List.filter_sublist
end HB
namespace K09
open PySem HB L2
section
variable {S T C K : List Str} {f g : Str → Int} {u w x y : Nat} {m : M} {P : Str → D}
theorem ne_S (h : ∀ s ∈ S, isNm s = true) : copD .ne (.lst (S.map .str)) (.lst (S.map .str)) m = .ok (.bl false) m := by
  have := op_ne_of (eqB_lstS (S := S) (T := S) (m := m) (fun s hs => nm_ok (h s hs)) (fun s hs => nm_ok (h s hs)))
  simpa using this
theorem ne_ST (h : ∀ s ∈ S, isNm s = true) : copD .ne (.tup (S.map .str)) (.tup (S.map .str)) m = .ok (.bl false) m := by
  have := op_ne_of (eqB_tupS (S := S) (T := S) (m := m) (fun s hs => nm_ok (h s hs)) (fun s hs => nm_ok (h s hs)))
  simpa using this
theorem Cx.lows (c : Cx S f u x) {s : Str} (hs : s ∈ S) : lowT (rq S f u s) (rv S f u : Nat) = lowT (f s) u := (c.cg.red.low c.low.v0 hs).symm
theorem s_lpays (c : Cx S f u x) (p : K.Perm S) (h : ∀ s ∈ S, P s = lowT (f s) u) : F_law_pays [N S f u, dD K P] [] = .ok (.bl true) [.gone] := by
  have l8 := c.l8
  have sd : bfD .sorted [dD K P] [.gone] = .ok (.lst (S.map .str)) [.gone] := by
    have := bx_sorted_dD (S := K) (P := P) (m := [.gone]) (by rw [p.length_eq]; omega)
    rw [← sortS_uniq (xs := K) p.symm (c.so.imp fun {a b} hab => leS_iff.mpr (List.le_of_lt hab))] at this
    exact this
  have e1 := ne_S c.nm (m := [.gone])
  clear gorun b_law_pays
  · apply kk_if
    · apply ev_or2
      · clear go
      · apply gb_neg
        · rfl
        · exact ev_cmp (m1 := [.gone]) (m2 := [.gone]) (ev_prm (ev_cons (ev_var rfl) ev_nil) (pr_list l8 rfl rfl)) (by clear go) e1
    · clear gob
      apply kk_ret
      refine ev_cmp (lcE0 (xs := K.map .str) rfl (ev_var rfl) ?_ (by rw [List.length_map, p.length_eq]; omega) ?_) (ev_lst ev_nil (by simp)) (show copD .eq (.lst []) (.lst []) _ = .ok (.bl true) _ from rfl)
      · exact view_dDI
      · intro d hd
        obtain ⟨s, hs, rfl⟩ := List.mem_map.mp hd
        have hs' := p.mem_iff.mp hs
        have cq := c.low.cg
        have e2 : copD .ne (lowT (rq S f u s) (rv S f u : Nat)) (P s) [.gone] = .ok (.bl false) [.gone] := by
          rw [c.lows hs', h s hs']; exact op_ne_of eqB_low
        clear goq
  · exact rfl
theorem d_lpays (c : Cx S f u x) (p : K.Perm S) (h : ∀ s ∈ S, P s = lowT (f s) u) (hn : noref (dD K P) = true) : callD F_law_pays [N S f u, dD K P] m = .ok (.bl true) m := call_pure (nrL1 hn) (s_lpays c p h) rfl
theorem nr_dlow {a b : Str → Int} : noref (dD S fun s => lowT (a s) (b s)) = true := by
  show norefK _ = true
  exact norefK_dD (P := fun s => lowT (a s) (b s)) (fun _ => rfl) S
theorem nr_pl : noref (.tup [dI S f, .int u]) = true := by simp [noref, norefL, noref_dI']
theorem s_alone (c : Cx S f u x) : F_law_alone [.tup [dI S f, .int u]] m = .ok (dD S fun s => lowT (f s) u) m := by
  have l8 := c.l8
  have sd := bx_sorted_so (P := fun s => D.int (f s)) (m := m) (by omega) c.sort
  have u0 := c.v0'
  have ub := c.cg.bv
  clear gorun b_law_alone
  · refine kk_ret (ev_blt (ev_cons (lcM (P := fun s => .tup [.str s, lowT (f s) u]) (f := D.str) (S := S) (d := .lst (S.map .str)) (by clear go) rfl (by omega) ?_) ev_nil) (bx_dict_lst c.nd))
    intro s hs
    have b1 := c.cg.bq s hs
    clear goq
  · exact rfl
theorem d_alone (c : Cx S f u x) : callD F_law_alone [.tup [dI S f, .int u]] m = .ok (dD S fun s => lowT (f s) u) m := call_pure (by simp [norefL, nr_pl]) (s_alone c) nr_dlow
/-- the law's own multiples of two -/
theorem for_joint {a a' b b' : Int} (c : Cx S f u x) (d : Cx S g w y) {z : Nat} (ha : Bx z a) (ha' : Bx z a') (hb : Bx z b) (hb' : Bx z b') (a0 : 0 < a') (b0 : 0 < b') (hx : x + y + z + z + 1 ≤ 190) : ∀ (T : List Str) (acc : List D) (x5 x6 x7 x8 x9 : Option D), (∀ s ∈ T, s ∈ S) → acc.length + T.length ≤ 100 →
    ∃ y5 y6 y7 y8 y9, forGo (frStep [F_law_low] (.name 5) (frB (tlS b_law_joint))) (T.map .str) [some (.tup [dI S f, .int u]), some (.tup [dI S g, .int w]), some (.tup [.int a, .int a']), some (.tup [.int b, .int b']), some (.ref 0), x5, x6, x7, x8, x9] [.lst acc]
      = .nx [some (.tup [dI S f, .int u]), some (.tup [dI S g, .int w]), some (.tup [.int a, .int a']), some (.tup [.int b, .int b']), some (.ref 0), y5, y6, y7, y8, y9] [.lst (acc ++ T.map fun s => .tup [.str s, lowT (f s * a * (w * b') + g s * b * (u * a')) (u * a' * (w * b'))])]
  | [], acc, x5, x6, x7, x8, x9, _, _ => ⟨x5, x6, x7, x8, x9, by simp [forGo]⟩
  | s :: T, acc, x5, x6, x7, x8, x9, hT, hl => by
    have hs := hT s List.mem_cons_self
    have hl' : acc.length + T.length + 1 ≤ 100 := by simpa [Nat.add_assoc] using hl
    obtain ⟨y5, y6, y7, y8, y9, e⟩ := for_joint c d ha ha' hb hb' a0 b0 hx T (acc ++ [.tup [.str s, lowT (f s * a * (w * b') + g s * b * (u * a')) (u * a' * (w * b'))]]) (some (.str s)) (some (.int (f s * a))) (some (.int (g s * b))) (some (.int (u * a'))) (some (.int (w * b'))) (fun t ht => hT t (List.mem_cons_of_mem _ ht)) (by simp; omega)
    refine ⟨y5, y6, y7, y8, y9, ?_⟩
    have st : frStep [F_law_low] (.name 5) (frB (tlS b_law_joint)) (.str s) [some (.tup [dI S f, .int u]), some (.tup [dI S g, .int w]), some (.tup [.int a, .int a']), some (.tup [.int b, .int b']), some (.ref 0), x5, x6, x7, x8, x9] [.lst acc]
      = .nx [some (.tup [dI S f, .int u]), some (.tup [dI S g, .int w]), some (.tup [.int a, .int a']), some (.tup [.int b, .int b']), some (.ref 0), some (.str s), some (.int (f s * a)), some (.int (g s * b)), some (.int (u * a')), some (.int (w * b'))] [.lst (acc ++ [.tup [.str s, lowT (f s * a * (w * b') + g s * b * (u * a')) (u * a' * (w * b'))]])] := by
      have k1 := (c.fb s hs).mul ha
      have k2 := (d.fb s hs).mul hb
      have k3 := c.vb.mul ha'
      have k4 := d.vb.mul hb'
      have n1 := ((c.fb s hs).bd (by omega)).m2 (ha.bd (by omega))
      have n2 := ((d.fb s hs).bd (by omega)).m2 (hb.bd (by omega))
      have n3 := (c.vb.bd (by omega)).m2 (ha'.bd (by omega))
      have n4 := (d.vb.bd (by omega)).m2 (hb'.bd (by omega))
      have n5 := (k1.bd (by omega)).m2 (k4.bd (by omega))
      have n6 := (k2.bd (by omega)).m2 (k3.bd (by omega))
      have n7 := (k3.bd (by omega)).m2 (k4.bd (by omega))
      have n8 : bd (f s * a * (w * b') + g s * b * (u * a')) := (Bx.add ((k1.mul k4).up (y := x + y + z + z) (by omega)) ((k2.mul k3).up (by omega))).bd (by omega)
      have n9 : bd (u * a' * (w * b')) := (k3.mul k4).bd (by omega)
      have p1 : 0 < (u : Int) * a' * (w * b') := Int.mul_pos (Int.mul_pos c.v0' a0) (Int.mul_pos d.v0' b0)
      unfold frStep
      simp only [asgG, List.set_cons_succ, List.set_cons_zero]
      rw [k_of]
      unfold b_law_joint
      dsimp only [frB, tlS]
      clear gos
      clear gos
      apply kk_app (j := 0)
      · clear go
      · rfl
      · clear go
      · show appD 0 _ [.lst acc] = _
        simp only [appD, List.getElem?_cons_zero]
        rw [if_pos (by rw [sizeLine_eq]; omega)]
        first | done | rfl
      · apply kk_nil
        rfl
    simp only [List.map_cons, forGo, st]
    rw [e]
    simp
theorem s_ljoint {a a' b b' : Int} (c : Cx S f u x) (d : Cx S g w y) {z : Nat} (ha : Bx z a) (ha' : Bx z a') (hb : Bx z b) (hb' : Bx z b') (a0 : 0 < a') (b0 : 0 < b') (hx : x + y + z + z + 1 ≤ 190) :
    ∃ mr, F_law_joint [.tup [dI S f, .int u], .tup [dI S g, .int w], .tup [.int a, .int a'], .tup [.int b, .int b']] [] = .ok (dD S fun s => lowT (f s * a * (w * b') + g s * b * (u * a')) (u * a' * (w * b'))) mr := by
  have l8 := c.l8
  obtain ⟨y5, y6, y7, y8, y9, e⟩ := for_joint c d ha ha' hb hb' a0 b0 hx S [] none none none none none (fun s hs => hs) (by simp; omega)
  have sd : bfD .sorted [dI S f] [.lst []] = .ok (.lst (S.map .str)) [.lst []] := bx_sorted_so (P := fun s => D.int (f s)) (by omega) c.sort
  have dd : bfD .dict [.ref 0] [.lst (S.map fun s => .tup [.str s, lowT (f s * a * (w * b') + g s * b * (u * a')) (u * a' * (w * b'))])] = .ok (dD S fun s => lowT (f s * a * (w * b') + g s * b * (u * a')) (u * a' * (w * b'))) _ := ref_dict_lst rfl c.nd
  refine ⟨[.lst (S.map fun s => .tup [.str s, lowT (f s * a * (w * b') + g s * b * (u * a')) (u * a' * (w * b'))])], ?_⟩
  rw [List.nil_append] at e
  clear gorun b_law_joint
  · apply kk_asg1 (ev_lstM0 ev_nil rfl)
    refine kk_frN (d := .lst (S.map .str)) (by clear go) rfl e ?_
    clear gos
  · exact rfl
theorem d_ljoint {a a' b b' : Int} (c : Cx S f u x) (d : Cx S g w y) {z : Nat} (ha : Bx z a) (ha' : Bx z a') (hb : Bx z b) (hb' : Bx z b') (a0 : 0 < a') (b0 : 0 < b') (hx : x + y + z + z + 1 ≤ 190) :
    callD F_law_joint [.tup [dI S f, .int u], .tup [dI S g, .int w], .tup [.int a, .int a'], .tup [.int b, .int b']] m = .ok (dD S fun s => lowT (f s * a * (w * b') + g s * b * (u * a')) (u * a' * (w * b'))) m := by
  obtain ⟨mr, e⟩ := s_ljoint c d ha ha' hb hb' a0 b0 hx
  exact call_pure (by simp [norefL, nr_pl, noref, noref_dI']) e nr_dlow
end
end K09
namespace K09
open PySem HB L2
section
variable {S T C K : List Str} {f g : Str → Int} {u w x y : Nat} {m : M} {P : Str → D}
/-- a share of two -/
theorem Cx.den {k z : Nat} (c : Cx S f u x) (k0 : 0 < k) (hk : Bx z k) (hx : x + z ≤ 190) : Cx S f (u * k) (x + z) :=
  ⟨c.so, c.l0, c.l8, c.nm, fun s hs => (c.fb s hs).up (by omega), Nat.mul_pos c.v0 k0, by
    rw [Int.natCast_mul]
    exact c.vb.mul hk, hx⟩
theorem s_mixed {n : Int} {k z : Nat} (c : Cx S f u x) (d : Cx S g w y) (n0 : 0 ≤ n) (nk : n ≤ k) (k0 : 0 < k) (hk : Bx z k) (hz : z ≤ 60) (hx : x + y + z + z + z + 1 ≤ 190) : F_Charge_mixed [chg S f u, chg S g w, .int n, .int k] m = .ok (N S (fun s => f s * (n * (w * k : Nat)) + g s * ((k - n) * (u * k : Nat))) (u * k * (w * k))) m := by
  have bn : Bx z n := by unfold Bx at *; omega
  have bkn : Bx z (k - n) := by unfold Bx at *; omega
  have e1 := ne_ST c.nm (m := m)
  have e2 := d_share (bn.up hz) k0 (hk.up hz) (m := m)
  have c1 := c.den k0 hk (by omega)
  have d1 := d.den k0 hk (by omega)
  have e3 := d_cwx c1 (m := m)
  have e4 := d_cwx d1 (m := m)
  have e5 := d_joint c1 d1 bn bkn (by omega) (m := m)
  rw [Int.natCast_mul] at e3 e4
  have b1 := (c.vb.bd (by omega)).m2 (hk.bd (by omega))
  have b2 := (d.vb.bd (by omega)).m2 (hk.bd (by omega))
  clear gorun b_Charge_mixed
  · repeat clear gos
  · exact rfl
theorem d_mixed {n : Int} {k z : Nat} (c : Cx S f u x) (d : Cx S g w y) (n0 : 0 ≤ n) (nk : n ≤ k) (k0 : 0 < k) (hk : Bx z k) (hz : z ≤ 60) (hx : x + y + z + z + z + 1 ≤ 190) : callD F_Charge_mixed [N S f u, N S g w, .int n, .int k] m = .ok (N S (fun s => f s * (n * (w * k : Nat)) + g s * ((k - n) * (u * k : Nat))) (u * k * (w * k))) m := by
  obtain ⟨G, g0, h1, h2⟩ := c.ex
  obtain ⟨H, k0', h3, h4⟩ := d.ex
  have e : N S (fun s => rq S f u s * (n * (rv S g w * k : Nat)) + rq S g w s * ((k - n) * (rv S f u * k : Nat))) (rv S f u * k * (rv S g w * k)) = N S (fun s => f s * (n * (w * k : Nat)) + g s * ((k - n) * (u * k : Nat))) (u * k * (w * k)) :=
    N_eq (Nat.mul_pos (Nat.mul_pos c.low.v0 k0) (Nat.mul_pos d.low.v0 k0)) (Nat.mul_pos (Nat.mul_pos c.v0 k0) (Nat.mul_pos d.v0 k0)) fun s hs => by
      rw [h1 s hs, h3 s hs]
      simp only [Int.natCast_mul]
      rw [h2, h4]
      grind
  rw [← e]
  exact call_pure (by simp [norefL, nr_chg, noref]) (s_mixed c.low d.low n0 nk k0 hk hz hx) nr_chg
/-! ### cuts -/
theorem Cx.sub (c : Cx S f u x) (hC : C.Sublist S) (h0 : C ≠ []) : Cx C f u x := ⟨c.so.sublist hC, by have := List.length_pos_iff.mpr h0; omega, by have := hC.length_le; have := c.l8; omega, fun s hs => c.nm s (hC.subset hs), fun s hs => c.fb s (hC.subset hs), c.v0, c.vb, c.xb⟩
theorem d_cutN (c : Cx S f u x) (hC : C.Sublist S) (h0 : C ≠ []) : callD F_Charge_cut [N S f u, .tup (C.map .str)] m = .ok (N C f u) m := by
  obtain ⟨G, g0, h1, h2⟩ := c.ex
  have e : N C (rq S f u) (rv S f u) = N C f u := N_eq c.low.v0 c.v0 fun s hs => by
    rw [h1 s (hC.subset hs), h2]
    grind
  rw [← e]
  exact d_cut c.low.cg hC h0
theorem d_totalN (c : Cx S f u x) : callD F_Charge_total [N S f u] m = .ok (lowT (S.map f).sum u) m := by
  have e := d_total c.low.cg (m := m)
  rw [← c.cg.red.lowSum c.low.v0 (fun s hs => hs)] at e
  exact e
/-! ### beside one another -/
/-- either of two -/
def eiI (S : List Str) (a b : Str → Int) (s : Str) : Int := if s ∈ S then a s else b s
theorem eiI_l {a b : Str → Int} {s : Str} (h : s ∈ S) : eiI S a b s = a s := if_pos h
theorem eiI_r {a b : Str → Int} {s : Str} (h : s ∉ S) : eiI S a b s = b s := if_neg h
structure Two (S T : List Str) : Prop where
  dj : ∀ t ∈ T, t ∉ S
  l8 : S.length + T.length ≤ 8
theorem Two.sw (h : Two S T) : Two T S := ⟨fun s hs ht => h.dj s ht hs, by have := h.l8; omega⟩
theorem Two.nd (h : Two S T) (n1 : S.Nodup) (n2 : T.Nodup) : (S ++ T).Nodup := List.nodup_append.mpr ⟨n1, n2, fun a ha b hb e => h.dj b hb (e ▸ ha)⟩
theorem Cx.two (c : Cx S f u x) (d : Cx T g w y) (h : Two S T) (hx : x + y ≤ 190) : Cx (sortS (S ++ T)) (eiI S (fun s => f s * w) (fun s => g s * u)) (u * w) (x + y) := by
  have p := sortS_perm (S ++ T)
  have nd := h.nd c.nd d.nd
  refine ⟨sort_so nd, ?_, ?_, ?_, ?_, Nat.mul_pos c.v0 d.v0, by
    rw [Int.natCast_mul]
    exact c.vb.mul d.vb, hx⟩
  · rw [p.length_eq, List.length_append]
    have := c.l0
    omega
  · rw [p.length_eq, List.length_append]
    exact h.l8
  · intro s hs
    rcases List.mem_append.mp (p.mem_iff.mp hs) with h | h
    · exact c.nm s h
    · exact d.nm s h
  · intro s hs
    rcases List.mem_append.mp (p.mem_iff.mp hs) with h1 | h1
    · rw [eiI_l h1]; exact (c.fb s h1).mul d.vb
    · rw [eiI_r (h.dj s h1), Nat.add_comm]; exact (d.fb s h1).mul c.vb
theorem s_side (c : Cx S f u x) (d : Cx T g w y) (h : Two S T) (hx : x + y ≤ 190) : F_side_by_side [chg S f u, chg T g w] m = .ok (N (sortS (S ++ T)) (eiI S (fun s => f s * w) (fun s => g s * u)) (u * w)) m := by
  have l8 := h.l8
  have two := c.two d h hx
  have p := sortS_perm (S ++ T)
  have nd := h.nd c.nd d.nd
  have pm : Pm (S ++ T) (eiI S (fun s => f s * w) (fun s => g s * u)) (u * w) := ⟨nd, by simpa using l8, fun s hs => two.pm.fb s (p.mem_iff.mpr hs), two.v0, two.pm.ub⟩
  have e := d_charge_with pm (m := m)
  rw [N_perm p.symm, Int.natCast_mul] at e
  have b1 : ∀ s ∈ S, (f s).natAbs.log2 + (w : Int).natAbs.log2 < 1000000 := fun s hs => ((c.fb s hs).bd (by omega)).m2 (d.vb.bd (by omega))
  have b2 : ∀ s ∈ T, (g s).natAbs.log2 + (u : Int).natAbs.log2 < 1000000 := fun s hs => ((d.fb s hs).bd (by omega)).m2 (c.vb.bd (by omega))
  have b3 : (u : Int).natAbs.log2 + (w : Int).natAbs.log2 < 1000000 := (c.vb.bd (by omega)).m2 (d.vb.bd (by omega))
  clear gorun b_side_by_side
  · refine kk_asg1 (dcN (P := fun s => .int (f s * w)) (S := S) (d := .tup (S.map .str)) (by clear go) rfl (by omega) c.nd (by simp) ?_) ?_
    · intro s hs
      have := b1 s hs
      clear goq
    · refine kk_asg1 (dcN (P := fun s => .int (g s * u)) (S := T) (d := .tup (T.map .str)) (by clear go) rfl (by omega) d.nd (by simp) ?_) ?_
      · intro s hs
        have := b2 s hs
        clear goq
      · have q1 : dD S (fun s => .int (f s * w)) = dI S (eiI S (fun s => f s * w) (fun s => g s * u)) := dD_congr fun s hs => by rw [eiI_l hs]
        have q2 : dD T (fun s => .int (g s * u)) = dI T (eiI S (fun s => f s * w) (fun s => g s * u)) := dD_congr fun s hs => by rw [eiI_r (h.dj s hs)]
        rw [q1, q2]
        refine kk_ret (ev_call (ev_cons (ev_dmrg (ev_var rfl) (ev_var rfl) nd (by omega) (by omega)) (ev_cons (by clear go) ev_nil)) rfl e)
  · exact rfl
theorem s_reqc : F_require_charge [chg S f u] m = .ok .non m := by
  clear gorunN b_require_charge
  · repeat clear gos
  · exact rfl
theorem d_reqc : callD F_require_charge [chg S f u] m = .ok .non m := call_pure (by simp [norefL, nr_chg]) s_reqc rfl
theorem bx_any {α : Type} {S : List α} {f : α → Bool} {m : M} : bfD .any [.lst (S.map fun s => .bl (f s))] m = .ok (.bl (S.any f)) m := by
  simp only [bfD, anyD, viewS, viewL, Option.bind_some, asBlsM f S]
  simp [List.any_map, Function.comp_def]
theorem s_beside (c : Cx S f u x) (d : Cx T g w y) (h : Two S T) (hx : x + y ≤ 190) : F_Charge_put_beside [chg S f u, chg T g w] m = .ok (N (sortS (S ++ T)) (eiI S (fun s => f s * w) (fun s => g s * u)) (u * w)) m := by
  have l8 := h.l8
  have e1 := d_reqc (S := T) (f := g) (u := w) (m := m)
  have e2 := call_pure (nrL1 nr_chg) (s_side (m := []) c d h hx) nr_chg (m := m)
  clear gorun b_Charge_put_beside
  · clear gos
    apply kk_if
    · refine ev_blt (ev_cons (lcM (P := fun _ => .bl false) (f := D.str) (S := T) (d := .tup (T.map .str)) (by clear go) rfl (by omega) ?_) ev_nil) bx_any
      intro s hs
      have n1 := nm_len (d.nm s hs)
      have e3 : callD F_Charge___contains [chg S f u, .str s] m = .ok (.bl false) m := by
        rw [d_containsS (by omega), decide_eq_false (h.dj s hs), Bool.and_false]
      clear goq
    · apply gb_neg
      · simp
      · repeat clear gos
  · exact rfl
theorem d_beside (c : Cx S f u x) (d : Cx T g w y) (h : Two S T) (hx : x + y ≤ 190) : callD F_Charge_put_beside [N S f u, N T g w] m = .ok (N (sortS (S ++ T)) (eiI S (fun s => f s * w) (fun s => g s * u)) (u * w)) m := by
  obtain ⟨G, g0, h1, h2⟩ := c.ex
  obtain ⟨H, k0', h3, h4⟩ := d.ex
  have e : N (sortS (S ++ T)) (eiI S (fun s => rq S f u s * (rv T g w : Nat)) (fun s => rq T g w s * (rv S f u : Nat))) (rv S f u * rv T g w) = N (sortS (S ++ T)) (eiI S (fun s => f s * w) (fun s => g s * u)) (u * w) :=
    N_eq (Nat.mul_pos c.low.v0 d.low.v0) (Nat.mul_pos c.v0 d.v0) fun s hs => by
      rcases List.mem_append.mp ((sortS_perm (S ++ T)).mem_iff.mp hs) with h5 | h5
      · rw [eiI_l h5, eiI_l h5]
        rw [h1 s h5, Int.natCast_mul, Int.natCast_mul, h2, h4]
        grind
      · rw [eiI_r (h.dj s h5), eiI_r (h.dj s h5)]
        rw [h3 s h5, Int.natCast_mul, Int.natCast_mul, h2, h4]
        grind
  rw [← e]
  exact call_pure nrNN (s_beside c.low d.low h hx) nr_chg
theorem d_lenN : callD F_Charge___len [N S f u] m = .ok (.int S.length) m := d_len
theorem d_eqN (e : N S f u = N T g w) : callD F_Charge___eq [N S f u, N T g w] m = .ok (.bl true) m := by
  rw [e]; exact d_eq_self
end
end K09
namespace HB
open PySem L2
theorem ixl0 {a b : D} {m : M} : ixD (.lst [a, b]) (.int 0) m = .ok a m := ix_lst rfl
theorem ixl1 {a b : D} {m : M} : ixD (.lst [a, b]) (.int 1) m = .ok b m := ix_lst rfl
end HB
open PySem L2 HB
local macro_rules | `(tactic| clear $x:ident) => if x.getId.eraseMacroScopes == `gx then `(tactic| first | (with_reducible exact ixl0) | (with_reducible exact ixl1)) else Lean.Macro.throwUnsupported
namespace HB
open PySem L2
theorem low_ex {a b : Int} (b0 : 0 < b) : ∃ a' b' G : Int, lowT a b = .tup [.int a', .int b'] ∧ 0 < b' ∧ 0 < G ∧ a = G * a' ∧ b = G * b' ∧ a'.natAbs ≤ a.natAbs ∧ b'.natAbs ≤ b.natAbs := by
  have g0 := gcd_pos (a := a) (b := b) (by omega)
  obtain ⟨a', ha⟩ := Int.gcd_dvd_left a b
  obtain ⟨b', hb⟩ := Int.gcd_dvd_right a b
  have g1 : ((Int.gcd a b : Nat) : Int) ≠ 0 := by omega
  refine ⟨a', b', (Int.gcd a b : Nat), ?_, ?_, by omega, ha, hb, ?_, ?_⟩
  · unfold lowT
    rw [fdiv_of g1 ha, fdiv_of g1 hb]
  · rw [hb] at b0
    exact Int.pos_of_mul_pos_right b0 (by omega)
  · have := congrArg Int.natAbs ha
    rw [Int.natAbs_mul, Int.natAbs_natCast] at this
    rw [this]
    exact Nat.le_mul_of_pos_left _ g0
  · have := congrArg Int.natAbs hb
    rw [Int.natAbs_mul, Int.natAbs_natCast] at this
    rw [this]
    exact Nat.le_mul_of_pos_left _ g0
end HB
namespace K09
open PySem HB L2
end K09
open PySem L2 HB K09
local macro_rules | `(tactic| clear $x:ident) => if x.getId.eraseMacroScopes == `gx then `(tactic| first | ((with_reducible apply ox_add); (focus exact rfl); clear gx) | ((with_reducible apply ox_sub); (focus exact rfl); clear gx) | (with_reducible assumption)) else Lean.Macro.throwUnsupported
namespace K09
open PySem HB L2
section
variable {S T C K : List Str} {f g : Str → Int} {u w x y : Nat} {m : M} {P : Str → D}
theorem sum_le : ∀ S : List Str, (∀ s ∈ S, Bx x (f s)) → (S.map f).sum.natAbs ≤ S.length * 10 ^ x
  | [], _ => by simp
  | s :: S, h => by
    have h1 := sum_le S fun t ht => h t (List.mem_cons_of_mem _ ht)
    have h2 := h s List.mem_cons_self
    unfold Bx at h2
    simp only [List.map_cons, List.sum_cons, List.length_cons, Nat.succ_mul]
    have := Int.natAbs_add_le (f s) (S.map f).sum
    omega
theorem Cx.bsum (c : Cx S f u x) : Bx (x + 1) (S.map f).sum := by
  have h1 := sum_le (f := f) S c.fb
  have h4 : S.length * 10 ^ x ≤ 8 * 10 ^ x := Nat.mul_le_mul_right _ c.l8
  have h5 : 0 < 10 ^ x := Nat.pow_pos (by decide)
  unfold Bx
  rw [Nat.pow_succ]
  omega
theorem sum_lin {a b : Int} : ∀ S : List Str, (S.map fun s => f s * a + g s * b).sum = (S.map f).sum * a + (S.map g).sum * b
  | [] => by simp
  | s :: S => by
    simp only [List.map_cons, List.sum_cons, sum_lin S]
    grind
theorem s_sumsr (c : Cx S f u 30) (d : Cx S g w 30) : F_law_sums_right [.tup [dI S f, .int u], .tup [dI S g, .int w], N S f u, N S g w] m = .ok (.bl true) m := by
  have u0 := c.v0'
  have w0 := d.v0'
  have cA := c.joint d Bx1 Bx1 (by decide)
  have cB := c.joint d Bx1 Bx1n (by decide)
  have a1 := d_add c d (by decide) (m := m)
  have a2 := d_sub c d (by decide) (m := m)
  have j1 := d_ljoint c d Bx1 Bx1 Bx1 Bx1 (by decide) (by decide) (by decide) (m := m)
  have j2 := d_ljoint c d Bx1 Bx1 Bx1n Bx1 (by decide) (by decide) (by decide) (m := m)
  have uw : (0 : Int) < ((u * w : Nat) : Int) := cA.v0'
  have uw2 : (0 : Int) < (u : Int) * 1 * ((w : Int) * 1) := by
    rw [Int.natCast_mul] at uw
    simpa using uw
  have p1 := d_lpays (m := m) (P := fun s => lowT (f s * 1 * (w * 1) + g s * 1 * (u * 1)) (u * 1 * (w * 1))) cA (List.Perm.refl S) (fun s hs => low_eq uw2 uw (by rw [Int.natCast_mul]; grind)) nr_dlow
  have p2 := d_lpays (m := m) (P := fun s => lowT (f s * 1 * (w * 1) + g s * -1 * (u * 1)) (u * 1 * (w * 1))) cB (List.Perm.refl S) (fun s hs => low_eq uw2 uw (by rw [Int.natCast_mul]; grind)) nr_dlow
  have a3 := d_sub cA d (by decide) (m := m)
  have q1 := d_eqN (m := m) (show N S (fun s => (f s * (1 * w) + g s * (1 * u)) * (1 * w) + g s * (-1 * (u * w : Nat))) (u * w * w) = N S f u from
    N_eq (Nat.mul_pos cA.v0 d.v0) c.v0 fun s hs => by
      simp only [Int.natCast_mul]
      grind)
  have a4 := d_sub c c (by decide) (m := m)
  have a5 := d_timesD (n := 0) (z := 1) d (by unfold Bx; decide) (by decide) (by decide) (by decide) (m := m)
  have q2 := d_eqN (m := m) (show N S (fun s => f s * (1 * u) + f s * (-1 * u)) (u * u) = N S (fun s => g s * 0) (w * 1) from
    N_eq (Nat.mul_pos c.v0 c.v0) (Nat.mul_pos d.v0 (by decide)) fun s hs => by grind)
  have a6 := d_add d c (by decide) (m := m)
  have q3 := d_eqN (m := m) (show N S (fun s => f s * (1 * w) + g s * (1 * u)) (u * w) = N S (fun s => g s * (1 * u) + f s * (1 * w)) (w * u) from
    N_eq (Nat.mul_pos c.v0 d.v0) (Nat.mul_pos d.v0 c.v0) fun s hs => by
      simp only [Int.natCast_mul]
      grind)
  obtain ⟨A, U, G, eA, U0, G0, fA, fU, lA, lU⟩ := low_ex (a := (S.map f).sum) u0
  obtain ⟨B, W, H, eB, W0, H0, gB, gW, lB, lW⟩ := low_ex (a := (S.map g).sum) w0
  have bA : Bx 31 A := Nat.lt_of_le_of_lt lA c.bsum
  have bB : Bx 31 B := Nat.lt_of_le_of_lt lB d.bsum
  have bU : Bx 30 U := Nat.lt_of_le_of_lt lU c.vb
  have bW : Bx 30 W := Nat.lt_of_le_of_lt lW d.vb
  have s1 : bd (S.map f).sum := c.bsum.bd (by decide)
  have s2 : bd (S.map g).sum := d.bsum.bd (by decide)
  have s3 := c.cg.bv
  have s4 := d.cg.bv
  have n1 := (bA.bd (by decide)).m2 (bW.bd (by decide))
  have n2 := (bB.bd (by decide)).m2 (bU.bd (by decide))
  have n3 := (bU.bd (by decide)).m2 (bW.bd (by decide))
  have b1 : bd (A * W + B * U) := (Bx.add (bA.mul bW) (bB.mul bU)).bd (by decide)
  have b2 : bd (U * W) := (bU.mul bW).bd (by decide)
  have UW0 := Int.mul_pos U0 W0
  have t1 := d_totalN cA (m := m)
  have t2 : lowT (S.map fun s => f s * (1 * w) + g s * (1 * u)).sum (u * w : Nat) = lowT (A * W + B * U) (U * W) := by
    refine low_eq uw UW0 ?_
    rw [sum_lin, Int.natCast_mul, fA, gB]
    rw [fU, gW]
    grind
  rw [t2] at t1
  clear gorun b_law_sums_right
  · repeat clear gos
    refine kk_asg1 (lcM (S := [true, false]) (f := fun b => cond b (.tup [dI S f, .int u]) (.tup [dI S g, .int w])) (P := fun b => cond b (lowT (S.map f).sum u) (lowT (S.map g).sum w)) (by clear go) rfl (by simp) ?_) ?_
    · intro b hb
      cases b <;> simp only [cond_true, cond_false, List.set_cons_succ, List.set_cons_zero] <;> clear go
    · simp only [List.map_cons, List.map_nil, cond_true, cond_false, eA, eB]
      repeat clear gos
  · exact rfl
theorem d_sumsr (c : Cx S f u 30) (d : Cx S g w 30) : callD F_law_sums_right [.tup [dI S f, .int u], .tup [dI S g, .int w], N S f u, N S g w] m = .ok (.bl true) m := call_pure (by simp [norefL, nr_pl, nr_chg]) (s_sumsr c d) rfl
end
end K09
namespace K09
open PySem HB L2
section
variable {S T C K : List Str} {f g : Str → Int} {u w x y : Nat} {m : M} {P : Str → D}
theorem r_mult (c : Cx S f u 30) (d : Cx S g w 30) : PotFn F_law_multiples_right [.tup [dI S f, .int u], .tup [dI S g, .int w], N S f u, N S g w] 6 (fun d => d = .bl true) := by
  intro n o hp hn
  have u0 := c.v0'
  have w0 := d.v0'
  obtain ⟨d1, o1, e1, p1, ⟨t, rfl, ht⟩, _⟩ := r_number.call1 rfl hp (by omega)
  replace ht : Bx 30 t := ht
  obtain ⟨z, o2, e2, p2, z0, z1⟩ := dr1 (t := 9) (by decide) (by decide) p1 (by omega)
  obtain ⟨k, hk⟩ : ∃ k : Nat, 1 + z = k := ⟨(1 + z).toNat, by omega⟩
  have k0 : 0 < k := by omega
  have k0' : (0 : Int) < k := by omega
  have bk : Bx 1 k := by unfold Bx; omega
  obtain ⟨q, o3, e3, p3, q0, q1⟩ := dr1 (t := (k : Int) + 1) (by omega) (Nat.lt_trans (log_big (i := (k : Int) + 1) (by omega)) (by decide)) p2 (by omega)
  have bq : Bx 1 q := by unfold Bx; omega
  have bkq : Bx 1 (k - q) := by unfold Bx; omega
  have btk : Bx 31 (t * k) := ht.mul bk
  -- so many times as much
  have a1 := d_times c ht (by decide) k0 (bk.up (by decide)) (by decide) (m := [o2])
  have c1 := c.times ht k0 (bk.up (by decide)) (by decide)
  have j1 := d_ljoint c d ht (bk.up (by decide)) (b := 0) (b' := 1) (by unfold Bx; decide) (by unfold Bx; decide) k0' (by decide) (by decide) (m := [o2])
  have v1 : (0 : Int) < (u : Int) * k * (w * 1) := Int.mul_pos (Int.mul_pos u0 k0') (by omega)
  have g1 := d_lpays (m := [o2]) (P := fun s => lowT (f s * t * (w * 1) + g s * 0 * (u * k)) (u * k * (w * 1))) c1 (List.Perm.refl S) (fun s hs => low_eq v1 c1.v0' (by rw [Int.natCast_mul]; grind)) nr_dlow
  have a2 := d_timesD c ht (by decide) (by decide) (by decide) (m := [o2])
  have a3 := d_times c btk (by decide) k0 (bk.up (by decide)) (by decide) (m := [o2])
  have q2 := d_eqN (m := [o2]) (show N S (fun s => f s * t) (u * 1) = N S (fun s => f s * (t * k)) (u * k) from
    N_eq (Nat.mul_pos c.v0 (by decide)) (Nat.mul_pos c.v0 k0) fun s hs => by
      simp only [Int.natCast_mul]
      grind)
  have a4 := d_timesD c Bx1 (by decide) (by decide) (by decide) (m := [o2])
  have q3 := d_eqN (m := [o2]) (show N S (fun s => f s * 1) (u * 1) = N S f u from
    N_eq (Nat.mul_pos c.v0 (by decide)) c.v0 fun s hs => by
      simp only [Int.natCast_mul]
      grind)
  have ml := (ht.bd (by decide)).m2 (bk.bd (by decide))
  -- shares of two
  have a5 := d_mixed c d q0 (by omega : q ≤ k) k0 bk (by decide) (by decide) (m := [o3])
  have c5 := (c.den k0 bk (by decide)).joint (d.den k0 bk (by decide)) bq bkq (by decide)
  have j5 := d_ljoint c d bq bk bkq bk k0' k0' (by decide) (m := [o3])
  have v5 : (0 : Int) < (u : Int) * k * (w * k) := Int.mul_pos (Int.mul_pos u0 k0') (Int.mul_pos w0 k0')
  have g5 := d_lpays (m := [o3]) (P := fun s => lowT (f s * q * (w * k) + g s * (k - q) * (u * k)) (u * k * (w * k))) c5 (List.Perm.refl S) (fun s hs => low_eq v5 c5.v0' (by simp only [Int.natCast_mul]; grind)) nr_dlow
  have a6 := d_times c bq (by decide) k0 bk (by decide) (m := [o3])
  have a7 := d_times d bkq (by decide) k0 bk (by decide) (m := [o3])
  have a8 := d_add (c.times bq k0 bk (by decide)) (d.times bkq k0 bk (by decide)) (by decide) (m := [o3])
  have uk := Nat.mul_pos (Nat.mul_pos c.v0 k0) (Nat.mul_pos d.v0 k0)
  have q4 := d_eqN (m := [o3]) (show N S (fun s => f s * (q * (w * k : Nat)) + g s * ((k - q) * (u * k : Nat))) (u * k * (w * k)) = N S (fun s => f s * q * (1 * (w * k : Nat)) + g s * (k - q) * (1 * (u * k : Nat))) (u * k * (w * k)) from
    N_congr fun s hs => by grind)
  have a9 := d_mixed c d (n := 0) (by decide) (by omega : (0 : Int) ≤ k) k0 bk (by decide) (by decide) (m := [o3])
  have q5 := d_eqN (m := [o3]) (show N S (fun s => f s * (0 * (w * k : Nat)) + g s * ((k - 0) * (u * k : Nat))) (u * k * (w * k)) = N S g w from
    N_eq uk d.v0 fun s hs => by
      simp only [Int.natCast_mul]
      grind)
  have a10 := d_mixed c d (n := k) (by omega) (by omega : (k : Int) ≤ k) k0 bk (by decide) (by decide) (m := [o3])
  have q6 := d_eqN (m := [o3]) (show N S (fun s => f s * (k * (w * k : Nat)) + g s * ((k - k) * (u * k : Nat))) (u * k * (w * k)) = N S f u from
    N_eq uk c.v0 fun s hs => by
      simp only [Int.natCast_mul]
      grind)
  refine ⟨.bl true, o3, [], ?_, p3.mono (by omega), rfl, rfl⟩
  unfold F_law_multiples_right
  rw [e_stir]
  clear gorun b_law_multiples_right
  · clear gos
    rw [hk]
    repeat clear gos
  · exact rfl
end
end K09
namespace K09
open PySem HB L2
/-- the names of other things -/
def tk7 (s : Str) : Str := ⟨(s.cps.toList.take 7).toArray⟩
def qn (s : Str) : Str := ("q" : Str) ++ tk7 s
theorem qn_nm : ∀ s ∈ wds, isNm (qn s) = true := by
  have : (wds.all fun s => isNm (qn s)) = true := by decide +kernel
  simpa [List.all_eq_true] using this
theorem qn_no : ∀ s ∈ wds, qn s ∉ wds := by
  have : (wds.all fun s => decide (qn s ∉ wds)) = true := by decide +kernel
  simpa [List.all_eq_true] using this
theorem qn_lt : ∀ a ∈ wds, ∀ b ∈ wds, a.cps.toList < b.cps.toList → (qn a).cps.toList < (qn b).cps.toList := by
  have : (wds.all fun a => wds.all fun b => !decide (a.cps.toList < b.cps.toList) || decide ((qn a).cps.toList < (qn b).cps.toList)) = true := by decide +kernel
  intro a ha b hb hab
  rw [List.all_eq_true] at this
  have h := this a ha
  rw [List.all_eq_true] at h
  have := h b hb
  simpa [hab] using this
section
variable {S T C K : List Str} {f g : Str → Int} {u w x y : Nat} {m : M} {P Q : Str → D}
theorem d_made (c : Cx S f u 30) : callD F_law_made_charge [.tup [dI S f, .int u]] m = .ok (N S f u) m := by
  have ub : u < 10 ^ 50 := by
    have := c.vb.up (y := 50) (by decide)
    unfold Bx at this
    rwa [Int.natAbs_natCast] at this
  have pl : Pl S f u := ⟨c.nd, c.l0, c.l8, c.nm, fun s hs => (c.fb s hs).up (by decide), c.v0, ub⟩
  have e : ∀ m, mkD F_Charge___init "Charge" [dI S f, .int (u : Int)] m = .ok (N S f u) m := fun m => by
    have e := d_Charge1 pl (m := m)
    rw [c.sort] at e
    exact e
  have nd := c.nd
  have e' := e []
  refine call_pure (by simp [norefL, nr_pl]) (m2 := []) ?_ nr_chg
  clear gorun b_law_made_charge
  · clear gos
  · exact rfl
theorem slS {s : Str} (h : s.length ≤ 8) : slD (.str s) none (some 7) m = .ok (.str (tk7 s)) m := by
  have e : HT.sIx s.length s.length (some 7) = min 7 s.length := HT.sIx_nat _ _ 7
  have l : s.cps.toList.length = s.length := by simp [Str.length]
  simp only [slD, cutS, e, HT.sIx_none, Nat.sub_zero, List.drop_zero]
  rw [if_pos (by rw [sizeLine_eq]; omega)]
  have : s.cps.toList.take (min 7 s.length) = s.cps.toList.take 7 := by
    rw [List.take_eq_take_iff]
    omega
  rw [this]
  rfl
theorem r_beside (c : Cx S f u 30) (hS : ∀ s ∈ S, s ∈ wds) (l7 : S.length ≤ 7) : PotFn F_law_beside_right [.tup [dI S f, .int u], N S f u, .tup (S.map .str)] 40 (fun d => d = .bl true) := by
  intro n o hp hn
  have l0 := c.l0
  have so : ((S.map qn).take (8 - S.length)).Pairwise fun a b => a.cps.toList < b.cps.toList := by
    refine List.Pairwise.sublist (List.take_sublist _ _) ?_
    rw [List.pairwise_map]
    exact c.so.imp_of_mem fun {a b} ha hb hab => qn_lt a (hS a ha) b (hS b hb) hab
  have hT : ∀ t ∈ (S.map qn).take (8 - S.length), ∃ s ∈ S, t = qn s := fun t ht => by
    obtain ⟨s, hs, e⟩ := List.mem_map.mp (List.mem_of_mem_take ht)
    exact ⟨s, hs, e.symm⟩
  have lT : ((S.map qn).take (8 - S.length)).length = min (8 - S.length) S.length := by simp
  have nmT : ∀ t ∈ (S.map qn).take (8 - S.length), isNm t = true := fun t ht => by
    obtain ⟨s, hs, rfl⟩ := hT t ht
    exact qn_nm s (hS s hs)
  have two : Two S ((S.map qn).take (8 - S.length)) := ⟨fun t ht h => by
    obtain ⟨s, hs, rfl⟩ := hT t ht
    exact qn_no s (hS s hs) (hS _ h), by omega⟩
  have hsl : slD (.lst ((S.map qn).map .str)) none (some (8 - (S.length : Int))) [o] = .ok (.lst (((S.map qn).take (8 - S.length)).map .str)) [o] := by
    have e : (8 - (S.length : Int)) = ((8 - S.length : Nat) : Int) := by omega
    simp only [slD, viewS, viewL, e, cut_take, List.map_take]
  generalize (S.map qn).take (8 - S.length) = T at *
  obtain ⟨d2, o2, e2, p2, ⟨g, w, rfl, cg, hg, hw⟩, _⟩ := (r_sums so (by omega) (by omega) nmT).call1 (by simp [norefL, noref, nr_tup]) hp hn
  have d : Cx T g w 30 := ⟨so, by omega, by omega, nmT, hg, cg.v0, by
    unfold Bx
    rw [Int.natAbs_natCast]
    exact Nat.lt_of_le_of_lt hw (by decide), by decide⟩
  have p := sortS_perm (S ++ T)
  have c2 := c.two d two (by decide)
  have nd := two.nd c.nd d.nd
  have a1 := d_made d (m := [o2])
  have a2 := d_beside c d two (by decide) (m := [o2])
  have a3 := d_alone c (m := [o2])
  have a4 := d_alone d (m := [o2])
  have l1 : (S.map fun s => D.tup [.str s, lowT (f s) u]) ++ (T.map fun s => D.tup [.str s, lowT (g s) w]) = (S ++ T).map fun s => .tup [.str s, eiS S (fun s => lowT (f s) u) (fun s => lowT (g s) w) s] := by
    rw [List.map_append]
    congr 1
    · exact List.map_congr_left fun s hs => by unfold eiS; rw [if_pos hs]
    · exact List.map_congr_left fun s hs => by unfold eiS; rw [if_neg (two.dj s hs)]
  have a5 : bopD .add (.lst (S.map fun s => D.tup [.str s, lowT (f s) u])) (.lst (T.map fun s => D.tup [.str s, lowT (g s) w])) [o2] = .ok (.lst ((S ++ T).map fun s => .tup [.str s, eiS S (fun s => lowT (f s) u) (fun s => lowT (g s) w) s])) [o2] := by
    rw [← l1]
    have := two.l8
    exact op_adL (by simp; omega)
  have a6 := d_lpays (m := [o2]) (P := eiS S (fun s => lowT (f s) u) (fun s => lowT (g s) w)) c2 p.symm (fun s hs => by
    rcases List.mem_append.mp (p.mem_iff.mp hs) with h | h
    · unfold eiS
      rw [if_pos h, eiI_l h]
      exact low_eq c.v0' c2.v0' (by rw [Int.natCast_mul]; grind)
    · unfold eiS
      rw [if_neg (two.dj s h), eiI_r (two.dj s h)]
      exact low_eq d.v0' c2.v0' (by rw [Int.natCast_mul]; grind)) (by
    show norefK _ = true
    exact norefK_dD (fun s => by unfold eiS; split <;> rfl) _)
  have a7 := d_beside d c two.sw (by decide) (m := [o2])
  have ez : sortS (T ++ S) = sortS (S ++ T) := sortS_uniq (((sortS_perm (T ++ S)).trans List.perm_append_comm)) (sortS_pw _)
  rw [ez] at a7
  have q7 := d_eqN (m := [o2]) (show N (sortS (S ++ T)) (eiI S (fun s => f s * w) (fun s => g s * u)) (u * w) = N (sortS (S ++ T)) (eiI T (fun s => g s * u) (fun s => f s * w)) (w * u) from
    N_eq c2.v0 (Nat.mul_pos d.v0 c.v0) fun s hs => by
      rcases List.mem_append.mp (p.mem_iff.mp hs) with h | h
      · rw [eiI_l h, eiI_r (two.sw.dj s h)]
        simp only [Int.natCast_mul]
        grind
      · rw [eiI_r (two.dj s h), eiI_l h]
        simp only [Int.natCast_mul]
        grind)
  have lz : (sortS (S ++ T)).length = S.length + T.length := by rw [p.length_eq, List.length_append]
  have hz : ((sortS (S ++ T)).length : Int) = (S.length : Int) + (T.length : Int) := by omega
  have a8 := d_cutN c2 (sub_sorted c.so c2.so fun s hs => p.mem_iff.mpr (List.mem_append_left _ hs)) (by intro h; rw [h] at l0; simp at l0) (m := [o2])
  have a9 := d_cutN c2 (sub_sorted d.so c2.so fun s hs => p.mem_iff.mpr (List.mem_append_right _ hs)) (by intro h; have := d.l0; rw [h] at this; simp at this) (m := [o2])
  have q8 := d_eqN (m := [o2]) (show N S (eiI S (fun s => f s * w) (fun s => g s * u)) (u * w) = N S f u from
    N_eq c2.v0 c.v0 fun s hs => by
      rw [eiI_l hs]
      simp only [Int.natCast_mul]
      grind)
  have q9 := d_eqN (m := [o2]) (show N T (eiI S (fun s => f s * w) (fun s => g s * u)) (u * w) = N T g w from
    N_eq c2.v0 d.v0 fun s hs => by
      rw [eiI_r (two.dj s hs)]
      simp only [Int.natCast_mul]
      grind)
  have l8 := two.l8
  refine ⟨.bl true, o2, [], ?_, p2, rfl, rfl⟩
  unfold F_law_beside_right
  clear gorun b_law_beside_right
  · apply kk_asg1
    · refine ev_call (ev_cons (ev_var rfl) (ev_cons (ev_blt (ev_cons (ev_slH (lcM (P := fun s => .str (qn s)) (f := D.str) (S := S) (d := .tup (S.map .str)) (ev_var rfl) rfl (by omega) ?_) rfl (by clear go) (d := .lst (S.map fun s => .str (qn s))) ?_) ev_nil) bx_tuple) ev_nil)) rfl e2
      · intro s hs
        have n1 := nm_len (c.nm s hs)
        have h1 := slS (m := [o]) n1.2
        refine ev_bin ev_str (ev_slH (ev_var rfl) rfl ev_int h1) ?_
        refine op_adS ?_
        have : (tk7 s).length ≤ 7 := by simp [tk7, Str.length]; omega
        have : (("q" : Str)).length = 1 := rfl
        omega
      · have : (S.map fun s => D.str (qn s)) = (S.map qn).map .str := by simp
        rw [this, List.length_map]
        exact hsl
    · repeat clear gos
  · exact rfl
end
end K09
namespace K09
open PySem HB L2
end K09
open PySem L2 HB K09
local macro_rules | `(tactic| clear $x:ident) => if x.getId.eraseMacroScopes == `gx then `(tactic| (with_reducible assumption)) else Lean.Macro.throwUnsupported
namespace K09
open PySem HB L2
theorem cx_of {S : List Str} {f : Str → Int} {u : Nat} (c : Cg S f u) (hf : ∀ s ∈ S, (f s).natAbs < 10 ^ 30) (hu : u ≤ 10 ^ 9) : Cx S f u 30 := ⟨c.so, c.l0, c.l8, c.nm, hf, c.v0, by
  unfold Bx
  rw [Int.natAbs_natCast]
  exact Nat.lt_of_le_of_lt hu (by decide), by decide⟩
theorem r_some {S : List Str} (h8 : S.length ≤ 8) : PotFn F_law_some_of [.tup (S.map .str)] 8 (fun d => ∃ C : List Str, d = .tup (C.map .str) ∧ C.Sublist S) := by
  intro n o hp hn
  unfold F_law_some_of
  rw [e_stir]
  obtain ⟨C, o2, e1, p2, hC⟩ := dr_crowd (S := S) (fs := [F_stir]) (env := [some (.ref 0), some (.tup (S.map .str)), none]) (i := 2) (x := "_law_one") (it := .var 1) (c := .cmp .eq (.call 0 (.cons (.var 0) (.cons (.int 2) .nil))) (.int 0)) (d := .tup (S.map .str)) h8 (by simp) hp (by omega) rfl (by clear go) rfl (by
    intro s hs l o hp hl
    obtain ⟨i, o2, e, p, i0, i1⟩ := dr1 (t := 2) (by decide) (by decide) hp hl
    exact ⟨_, o2, by clear go, p⟩)
  refine ⟨.tup (C.map .str), o2, [], ?_, p2, ⟨C, rfl, hC⟩, nr_tup C⟩
  clear gorun b_law_some_of
  · exact kk_ret (ev_blt (ev_cons e1 ev_nil) bx_tuple)
  · exact rfl
theorem r_right : PotFn F_law_right [] 200 (fun d => d = .bl true) := by
  intro n o hp hn
  obtain ⟨x, o1, e1, p1, x0, x1⟩ := dr1 (t := 7) (by decide) (by decide) hp (by omega)
  obtain ⟨k, hk⟩ : ∃ k : Nat, 1 + x = k := ⟨(1 + x).toNat, by omega⟩
  obtain ⟨d2, o2, e2, p2, ⟨S, rfl, so, lS, hS⟩, _⟩ := (r_words (n := k) (by omega)).call1 rfl p1 (by omega)
  have nm : ∀ s ∈ S, isNm s = true := fun s hs => wds_nm s (hS s hs)
  obtain ⟨d3, o3, e3, p3, ⟨f, u, rfl, c', hf, hu⟩, _⟩ := (r_sums so (by omega) (by omega) nm).call1 (by simp [norefL, noref, nr_tup]) p2 (by omega)
  obtain ⟨d4, o4, e4, p4, ⟨g, w, rfl, d', hg, hw⟩, _⟩ := (r_sums so (by omega) (by omega) nm).call1 (by simp [norefL, noref, nr_tup]) p3 (by omega)
  have c := cx_of c' hf hu
  have d := cx_of d' hg hw
  have a1 := d_made c (m := [o4])
  have a2 := d_made d (m := [o4])
  have a3 := d_sumsr c d (m := [o4])
  obtain ⟨d5, o5, e5, p5, rfl, _⟩ := (r_mult c d).call1 (by simp [norefL, noref, nr_chg, noref_dI']) p4 (by omega)
  obtain ⟨d6, o6, e6, p6, ⟨C, rfl, hC⟩, _⟩ := (r_some (S := S) (by omega)).call1 (by simp [norefL, noref, nr_tup]) p5 (by omega)
  obtain ⟨d7, o7, e7, p7, rfl, _⟩ := (r_beside c hS (by omega)).call1 (by simp [norefL, noref, nr_chg, noref_dI', nr_tup]) p6 (by omega)
  have a4 := d_alone c (m := [o7])
  have a5 := d_alone d (m := [o7])
  have a6 := d_lpays (m := [o7]) (P := fun s => lowT (f s) u) c (List.Perm.refl S) (fun s hs => rfl) nr_dlow
  have a7 := d_lpays (m := [o7]) (P := fun s => lowT (g s) w) d (List.Perm.refl S) (fun s hs => rfl) nr_dlow
  have f6 : copD .ne (.tup (C.map .str)) (.tup []) [o6] = .ok (.bl (!decide (C = []))) [o6] := op_ne_of (eqB_tupS (T := []) (fun s h => nm_ok (nm s (hC.subset h))) (by simp))
  have a8 := d_add c d (by decide) (m := [o6])
  refine ⟨.bl true, o7, [], ?_, p7.mono (by omega), rfl, rfl⟩
  unfold F_law_right
  rw [e_stir]
  clear gorun b_law_right
  · apply kk_asg1
    · apply ev_call
      · apply ev_cons
        · clear go
        · apply ev_cons
          · rw [← hk] at e2
            clear go
          · clear go
      · exact rfl
      · rw [hk]; exact e2
    · repeat clear gos
      have tail : evK [F_law_words, F_stir, F_law_sums, F_law_made_charge, F_law_sums_right, F_law_multiples_right, F_law_some_of, F_law_beside_right, F_law_pays, F_law_alone, F_Charge___eq, F_Charge_cut, F_Charge___add] (tlS (tlS (tlS (tlS (tlS (tlS b_law_right)))))) .nx [some (.ref 0), some (.tup (S.map .str)), some (.tup (C.map .str)), some (.tup [dI S f, .int u]), some (.tup [dI S g, .int w]), some (N S f u), some (N S g w)] [o6] = .rt (.bl true) [o7] := by
        unfold b_law_right
        dsimp only [tlS]
        repeat clear gos
      by_cases h0 : C = []
      · subst h0
        clear gos
        exact tail
      · have cC := c.sub hC h0
        have dC := d.sub hC h0
        have cA := c.joint d Bx1 Bx1 (by decide)
        have b1 := d_cutN cA hC h0 (m := [o6])
        have b2 := d_cutN c hC h0 (m := [o6])
        have b3 := d_cutN d hC h0 (m := [o6])
        have b4 := d_add cC dC (by decide) (m := [o6])
        have b5 := d_eqN (m := [o6]) (show N C (fun s => f s * (1 * w) + g s * (1 * u)) (u * w) = N C (fun s => f s * (1 * w) + g s * (1 * u)) (u * w) from rfl)
        clear gos
        exact tail
  · exact rfl
abbrev FS : List HB.Sem := [F_law_right, F_law_pot, F_Charge___str, F_Charge___sub, F_Charge_mixed, F_Charge_times, F_Charge___add, F_Charge_put_beside, F_Charge___init]
end K09
namespace K09
open PySem HB L2
theorem fix_true (ns : List Int) (x : Option D) (m : M) : evS FS (tlS b_law) [some (.scr ns), x, none, none, none, none] m = .rt (.bl true) m := by kernel_rfl
end K09
namespace K09
open PySem HB L2
theorem law_true : ∀ ns : List Int, ns.length ≤ 63 → (∀ z ∈ ns, Builtin.Int.intBits z ≤ 1048576) → ∃ m, F_law [.scr ns] [] = .ok (.bl true) m := by
  intro ns hl _
  have it : ∃ j : Int, evE FS (.rng1 (.blt .max (.cons (.int 1) (.cons (.blt .min (.cons (.int 10) (.cons (.blt .len (.cons (.var 0) .nil)) .nil))) .nil)))) [some (.scr ns), none, none, none, none, none] [] = .ok (.lst ((List.range j.toNat).map fun (i : Nat) => D.int (i : Int))) [] ∧ j ≤ 10 := by
    have q : evE FS (.blt .max (.cons (.int 1) (.cons (.blt .min (.cons (.int 10) (.cons (.blt .len (.cons (.var 0) .nil)) .nil))) .nil))) [some (.scr ns), none, none, none, none, none] [] = .ok (.int _) [] :=
      ev_blt (b := .max) (ev_cons ev_int (ev_cons (ev_blt (b := .min) (ev_cons ev_int (ev_cons (ev_blt (b := .len) (ev_cons (ev_var rfl) ev_nil) rfl) ev_nil)) rfl) ev_nil)) rfl
    have b : ∀ k : Int, 0 ≤ k → (if (if k < 10 then k else 10) > 1 then (if k < 10 then k else 10) else 1) ≤ 10 ∧ 1 ≤ (if (if k < 10 then k else 10) > 1 then (if k < 10 then k else 10) else 1) := by
      intro k hk
      split <;> split <;> omega
    have b2 := b ((ns.map D.int).length : Int) (by omega)
    exact ⟨_, ev_rng1 q (by omega) (by omega), b2.1⟩
  obtain ⟨j, e1, hj⟩ := it
  obtain ⟨e2, m2, q2, x, rfl⟩ := for_inv (step := frStep FS (.name 1) (frB b_law)) (fun k e mm => ∃ x, e = [some (.scr ns), x, none, none, none, none])
    (xs := (List.range j.toNat).map fun (i : Nat) => D.int (i : Int)) (env := [some (.scr ns), none, none, none, none, none]) (m := []) (n := 0) ⟨_, rfl⟩ (by
      rintro d hd k e m hk ⟨x, rfl⟩
      obtain ⟨i, hi, rfl⟩ := List.mem_map.mp hd
      have hi2 := List.mem_range.mp hi
      obtain ⟨o, e1, p1⟩ := r_pot (ns := ns) (i := (i : Int)) (by omega) (by omega)
      have e2 : callD F_law_pot [.scr ns, .int (i : Int)] m = .ok (.ref m.length) (m ++ [o]) := call_new rfl e1 p1.noref
      obtain ⟨d, o2, e3, p3, rfl, _⟩ := r_right.call rfl (m := m ++ [o]) (j := m.length) last_get p1 (by omega)
      refine ⟨[some (.scr ns), some (.int (i : Int)), none, none, none, none], (m ++ [o]).set m.length o2, ?_, ⟨_, rfl⟩⟩
      unfold frStep
      simp only [asgG, List.set_cons_succ, List.set_cons_zero]
      rw [k_of]
      unfold b_law
      dsimp only [frB]
      clear gos
      clear gos
      apply kk_nil
      rfl)
  refine ⟨m2, ?_⟩
  refine run_rt ?_
  have ef : evK FS (tlS b_law) .nx [some (.scr ns), x, none, none, none, none] m2 = .rt (.bl true) m2 := by rw [← k_of]; exact fix_true ns x m2
  unfold b_law at ef ⊢
  exact kk_frN e1 rfl q2 ef
end K09
end
open PySem PySem.W PySem.Calls PyProof.Rows
theorem PySem.Challenge.cw_huebill_k09_whole_sums_and_shares_of_cha_holds : PySem.Challenge.rw_huebill_k09_whole_sums_and_shares_of_cha.Holds := by
  w_on; o_law
  refine HandSHeadRun.head_any (r := OpenLaw.row PySem.Challenge.rw_huebill_k09_whole_sums_and_shares_of_cha) (q := view (OpenLaw.row PySem.Challenge.rw_huebill_k09_whole_sums_and_shares_of_cha).prog [49]) (H := K09.hk) (ob := K09.ob) (M := 4000) (loose := K09.names) (d := HandSHeadRun.topDef (OpenLaw.row PySem.Challenge.rw_huebill_k09_whole_sums_and_shares_of_cha).prog 49) (kwd := []) K09.ob_eq
    (by kernel_rfl) (fun s => by kernel_rfl) K09.run (by kernel_rfl) (by kernel_rfl) (by kernel_rfl) (by rfl) (by first | assumption | decide +kernel) (by decide +kernel) ⟨rfl, rfl, rfl, rfl, rfl, by decide +kernel⟩ ?hw ?hc
  case hw => w_witness2
  case hc =>
    refine HB.walk_data (l := PySem.Challenge.rw_huebill_k09_whole_sums_and_shares_of_cha) (n := 63) (k := 16) (x := "_law_script") rfl (by decide) (by kernel_rfl) ⟨rfl, by decide, by decide⟩ ?F
    intro w mg fa h Y G hmg0
    obtain ⟨K, KX, c⟩ := Y
    have hmg : mg ("law" : PySem.Str) = some (.ref fa) := by
      have e : (HandSHeadRun.topDef (OpenLaw.row PySem.Challenge.rw_huebill_k09_whole_sums_and_shares_of_cha).prog 49).name = ("law" : PySem.Str) := by kernel_rfl
      rw [← e]
      exact hmg0
    obtain ⟨fd, F⟩ := c.def_ 47 (q := HB.dOf "law" K09.st_law) rfl
    have hx : ∀ x f fl, (x, f, fl) ∈ K09.hd.tb.xcs → HB.XOk PySem.Challenge.pw_huebill_k09_whole_sums_and_shares_of_cha w K mg x f fl := by
      intro x f fl hm
      simp only [K09.hd, K09.tb, K09.xcs, List.mem_cons, List.not_mem_nil, or_false, Prod.mk.injEq] at hm
      rcases hm with ⟨rfl, rfl, rfl⟩ | ⟨rfl, rfl, rfl⟩ | ⟨rfl, rfl, rfl⟩
      · exact c.cls (P := PySem.Challenge.pw_huebill_k09_whole_sums_and_shares_of_cha) KX G 0 (q := K09.x_InvalidNumber) rfl (K09.t_InvalidNumber w)
      · exact c.cls (P := PySem.Challenge.pw_huebill_k09_whole_sums_and_shares_of_cha) KX G 1 (q := K09.x_UnknownName) rfl (K09.t_UnknownName w)
      · exact c.cls (P := PySem.Challenge.pw_huebill_k09_whole_sums_and_shares_of_cha) KX G 2 (q := K09.x_TooMany) rfl (K09.t_TooMany w)
    have e := hmg.symm.trans (He.glo_ok KX G (c.fact (f := .glo "law") (by simp only [HB.Hd.fa, List.mem_append, List.mem_map]; exact .inl ⟨_, by decide +kernel, rfl⟩)))
    cases e
    exact ⟨K, fd, _, KX, fun s u => L2.FunD.bindsA (ps := ["_law_script"]) F K09.bd_law s [u] rfl, K09.law_true, fun base kb _ =>
      HB.law_D (HB.al_of (P := PySem.Challenge.pw_huebill_k09_whole_sums_and_shares_of_cha) KX G c kb K09.good hx) F K09.sc_law (K09.cs_law (HB.al_of (P := PySem.Challenge.pw_huebill_k09_whole_sums_and_shares_of_cha) KX G c kb K09.good hx)) K09.k_law⟩
